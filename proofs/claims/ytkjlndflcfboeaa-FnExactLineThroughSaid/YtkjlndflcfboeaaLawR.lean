/- Laws of readings. -/
import Derived.Test.YtkjlndflcfboeaaValidR
namespace Go.Proofs.Ytkjlndflcfboeaa
open Go Go.Fl Go.Vc
set_option linter.all false
set_option maxRecDepth 10000

/-! ### ties -/
def tieN (f : Nat → Rd) : Nat → Nat
  | 0 => 0
  | i + 1 => tieN f i + if 1 ≤ i ∧ (f i).l = (f (i - 1)).l then 1 else 0
theorem tieN_le (f : Nat → Rd) : ∀ n, tieN f n ≤ n
  | 0 => Nat.le_refl 0
  | i + 1 => by
    have := tieN_le f i
    unfold tieN
    split <;> omega
def tiesR (n : Nat) (f : Nat → Rd) : Int × Int := if okR n f then ((tieN f n : Int), 0) else (0, 1)
abbrev tiesV (n : Nat) (f : Nat → Rd) : Value := .tuple #[.int .i64 (tiesR n f).1, .int .i64 (tiesR n f).2]

end Go.Proofs.Ytkjlndflcfboeaa
