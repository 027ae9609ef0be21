/- Codes of cells and sides; the cell on a side. -/
import Derived.Test.YtdhoaehiocbjaaaLawA
namespace Go.Proofs.Ytdhoaehiocbjaaa
open Go Go.Fl Go.Vc
set_option linter.all false
set_option maxRecDepth 10000

theorem nat_of_in {n : Int} (h : inB n 0 63 = true) : ∃ m : Nat, n = (m : Int) ∧ m < 64 := by
  have : 0 ≤ n ∧ n ≤ 63 := by simp [inB] at h; exact h
  exact ⟨n.toNat, by omega, by omega⟩
theorem in_nat {m : Nat} (h : m < 64) : inB (m : Int) 0 63 = true := by simp [inB]; omega
theorem not_in {n : Int} (h : inB n 0 63 = false) : n < 0 ∨ 63 < n := by
  simp [inB] at h; omega

/-- the code of a ground and a cell -/
def askedR (g : G) (n : Int) : Int := if okG g then if inB n 0 63 then if isC g n.toNat then 0 else 2 else 2 else 1

def sidedR (g : G) (n s : Int) : Int := if askedR g n = 0 then if inB s 0 3 then 0 else 2 else askedR g n

/-! ### the cell on a side -/
def besX (n : Nat) (s : Int) : Int := if s = 0 then ((n % 8 : Nat) : Int) else if s = 1 then ((n % 8 : Nat) : Int) + 1 else if s = 2 then ((n % 8 : Nat) : Int) else ((n % 8 : Nat) : Int) - 1
def besY (n : Nat) (s : Int) : Int := if s = 0 then ((n / 8 : Nat) : Int) - 1 else if s = 1 then ((n / 8 : Nat) : Int) else if s = 2 then ((n / 8 : Nat) : Int) + 1 else ((n / 8 : Nat) : Int)
def besideR (g : G) (n : Nat) (s : Int) : Int := if 0 ≤ besX n s ∧ 0 ≤ besY n s ∧ besX n s < g.wide ∧ besY n s < g.high then besX n s + 8 * besY n s else -1

theorem wlin {x y : Int} (hx : -100 ≤ x ∧ x ≤ 100) (hy : -100 ≤ y ∧ y ≤ 100) : IntKind.i64.wrap (x + IntKind.i64.wrap (8 * y)) = x + 8 * y := by
  rw [IntWalk.i64_in (8 * y) (by omega), IntWalk.i64_in _ (by omega)]

theorem inB_iff {n a b : Int} : (inB n a b = true) = (a ≤ n ∧ n ≤ b) := by simp [inB]
theorem inB_not {n a b : Int} : (inB n a b = false) = (n < a ∨ b < n) := by
  apply propext; simp [inB]; omega

end Go.Proofs.Ytdhoaehiocbjaaa
