/- What the listed variables give: the table's cells. -/
import Derived.Test.YtnfipcfhnhhcmaaDoorRows
import Derived.Test.YtnfipcfhnhhcmaaDoorOpen
import Derived.Test.YtnfipcfhnhhcmaaDoorVcEq
import Derived.ProofKit
import Derived.LaidMore
import Derived.OpenShut
import Derived.Stop.Joined
import Derived.Stop.LaidErr
import Derived.Lib.LaidTab
import Derived.KernelRfl
namespace Go.Proofs.YtnfipcfhnhhcmaaDoor
open Go Go.Vc
set_option linter.all false
set_option maxRecDepth 100000

theorem own : ownKnob Tryd.prog.godebug = none := by kernel_rfl
theorem laidOut : laidOutB Tryd.prog = true := by kernel_rfl

def tab64 : List Int := [0, 1, 56, 2, 57, 49, 28, 3, 61, 58, 42, 50, 38, 29, 17, 4, 62, 47, 59, 36, 45, 43, 51, 22, 53, 39, 33, 30, 24, 18, 12, 5, 63, 55, 48, 27, 60, 41, 37, 16, 46, 35, 44, 21, 52, 32, 23, 11, 54, 26, 40, 15, 34, 20, 31, 10, 25, 14, 19, 9, 13, 8, 7, 6]
theorem tab64_is : Rows.laid_math_bits_deBruijn64tab = Lib.tabData (H := Unit) .u8 tab64 := rfl

theorem g64 : Tryd.prog.globalNamed "math/bits.deBruijn64tab" = some 6 := by kernel_rfl
theorem t64 : (Tryd.prog.globals[6]?).map (·.type) = some 90 := by kernel_rfl

theorem cells_of_var {P : Program} {w : World} {n : String} {g : Nat} {cs : Array Value} (hg : P.globalNamed n = some g) (h : w.var? P n = some cs) : Cells w g cs := by
  simp only [World.var?, hg, Option.bind_some] at h
  split at h
  · rename_i c T fz e
    cases h
    exact ⟨T, fz, e⟩
  · cases h

/-- the table's sixteenth cell -/
theorem of_tab64 {W : World} {rest : List (String × DataW Unit)} (h : laidMet Tryd.prog (("math/bits.deBruijn64tab", Rows.laid_math_bits_deBruijn64tab) :: rest) W) :
    ∃ tc, Cells W 6 tc ∧ tc[15]? = some (.int .u8 4) := by
  have ht := Lib.tabIs_of_head (k := .u8) (zs := tab64) g64 t64 Tryd.underlying90 Tryd.underlying5 (by kernel_rfl) (by kernel_rfl) (tab64_is ▸ h)
  exact ⟨_, cells_of_var g64 ht, rfl⟩

end Go.Proofs.YtnfipcfhnhhcmaaDoor
