/- Readings: the same, valid, ties. -/
import Derived.Test.YtkjlndflcfboeaaOpenS
namespace Go.Proofs.Ytkjlndflcfboeaa
open Go Go.Fl Go.Vc
set_option linter.all false
set_option maxRecDepth 10000

/-! ### the same readings -/
def eqR (a b : Rd) : Bool := a.t == b.t && a.l == b.l
def eqAll (f g : Nat → Rd) (n : Nat) : Bool := (List.range n).all fun i => eqR (f i) (g i)
theorem eqAll_succ (f g : Nat → Rd) (n : Nat) : eqAll f g (n + 1) = (eqAll f g n && eqR (f n) (g n)) := by simp [eqAll, List.range_succ]
theorem eqAll_no {f g : Nat → Rd} {n i : Nat} (hi : i < n) (h : eqR (f i) (g i) = false) : eqAll f g n = false := by
  cases h2 : eqAll f g n with
  | false => rfl
  | true =>
    simp only [eqAll, List.all_eq_true, List.mem_range] at h2
    rw [h2 i hi] at h; cases h
def sameR (n : Nat) (f : Nat → Rd) (m : Nat) (g : Nat → Rd) : Bool := if n = m then eqAll f g n else false

end Go.Proofs.Ytkjlndflcfboeaa
