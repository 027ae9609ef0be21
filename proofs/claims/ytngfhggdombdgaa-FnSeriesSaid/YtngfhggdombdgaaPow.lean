/- FnSeries: facts on numbers, by computing. -/
import Derived.Test.YtngfhggdombdgaaWellF
namespace Go.Proofs.Ytngfhggdombdgaa
open Go Go.Fl Go.Vc
set_option linter.all false
set_option maxRecDepth 100000

/-- the word of 2 to the power k - 60 -/
def powW (k : Nat) : Nat := (67 + k) * 8388608

theorem pow_dbl : ∀ k : Fin 121, fop .mul .f32 (cn .f32 1073741824) (powW k.val) = powW (k.val + 1) := by decide +kernel
theorem pow_half : ∀ k : Fin 121, fop .quo .f32 (powW (k.val + 1)) (cn .f32 1073741824) = powW k.val := by decide +kernel
theorem pow_one : cn .f32 1065353216 = powW 60 := by decide

theorem ln_two : lnR (cn .f32 1073741824) = (cn .f32 1060205080, 0) := by decide +kernel

theorem ln_pow : ∀ k : Fin 121, fcmp .neq .f32 (lnF (powW k.val)) (fop .mul .f32 (cn .f32 (floatOfInt .f32 ((k.val : Int) - 60))) (cn .f32 1060205080)) = false := by decide +kernel

theorem exp_zero : expR (cn .f32 0) = (cn .f32 1065353216, 0) := by decide +kernel

/-- the numbers of which the series are compared -/
def uF (n : Nat) : Nat := fop .quo .f32 (cn .f32 (floatOfInt .f32 ((1 + n : Nat) : Int))) (cn .f32 1124073472)
def expGood (n : Nat) : Bool := fcmp .gtr .f32 (expF (uF n)) (cn .f32 0) && fcmp .leq .f32 (expF (uF n)) (cn .f32 1065353216) && expOk (uF n) && wOk (uF n) && lnOk (uF n)
/-- all of a stretch -/
def allGood (a : Nat) : Nat → Bool
  | 0 => true
  | n + 1 => allGood a n && expGood (a + n)
end Go.Proofs.Ytngfhggdombdgaa
