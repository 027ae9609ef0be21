/- Floats up to the payload of a NaN: the canonical word, the operations on canonical words, and the walk's laws. -/
import Derived.WalkKit
import Derived.WalkLawsBesides
import Derived.Deep.Draws
set_option linter.all false
namespace Go.Fl
open Go

/-- the quiet NaN of a kind -/
def qn : FloatKind → Nat
  | .f32 => 2143289344
  | .f64 => 9221120237041090560

/-- is the word a NaN -/
def nan (k : FloatKind) (x : Nat) : Bool := (k.format.read x).isNaN

/-- the canonical word: each NaN becomes one -/
def cn (k : FloatKind) (x : Nat) : Nat := if nan k x then qn k else x

/-- an operation on canonical words -/
def fop (op : BinOp) (k : FloatKind) (x y : Nat) : Nat := (floatBits op k x y).getD (qn k)

theorem nan_qn (k : FloatKind) : nan k (qn k) = true := by cases k <;> decide

theorem read_nan {k : FloatKind} {x : Nat} (h : nan k x = true) : ∃ s f, k.format.read x = .nan s f := by
  unfold nan at h
  cases hr : k.format.read x with
  | nan s f => exact ⟨s, f, rfl⟩
  | infinity s => rw [hr] at h; cases h
  | number s m p => rw [hr] at h; cases h

theorem cn_of_nan {k : FloatKind} {x : Nat} (h : nan k x = true) : cn k x = qn k := by simp [cn, h]
theorem cn_of_num {k : FloatKind} {x : Nat} (h : nan k x = false) : cn k x = x := by simp [cn, h]

theorem floatBits_nan_left {op : BinOp} {k : FloatKind} {x y : Nat} (h : nan k x = true) : floatBits op k x y = none := by
  obtain ⟨s, f, hr⟩ := read_nan h
  cases op <;> simp [floatBits, Ieee.Format.add, Ieee.Format.sub, Ieee.Format.mul, Ieee.Format.div, hr, Ieee.Datum.sum, Ieee.Datum.product, Ieee.Datum.quotient]

theorem floatBits_nan_right {op : BinOp} {k : FloatKind} {x y : Nat} (h : nan k y = true) : floatBits op k x y = none := by
  obtain ⟨s, f, hr⟩ := read_nan h
  cases hx : k.format.read x <;> cases op <;> simp [floatBits, Ieee.Format.add, Ieee.Format.sub, Ieee.Format.mul, Ieee.Format.div, hr, hx, Ieee.Datum.sum, Ieee.Datum.product, Ieee.Datum.quotient, Ieee.Datum.opposite]

theorem floatBits_cn (op : BinOp) (k : FloatKind) (x y : Nat) : floatBits op k (cn k x) (cn k y) = floatBits op k x y := by
  by_cases hx : nan k x = true
  · rw [cn_of_nan hx, floatBits_nan_left (nan_qn k), floatBits_nan_left hx]
  · rw [cn_of_num (by simpa using hx)]
    by_cases hy : nan k y = true
    · rw [cn_of_nan hy, floatBits_nan_right (nan_qn k), floatBits_nan_right hy]
    · rw [cn_of_num (by simpa using hy)]

theorem order_cn (k : FloatKind) (x y : Nat) : k.format.order (cn k x) (cn k y) = k.format.order x y := by
  by_cases hx : nan k x = true
  · obtain ⟨s, f, hr⟩ := read_nan hx
    obtain ⟨s', f', hr'⟩ := read_nan (nan_qn k)
    rw [cn_of_nan hx]
    simp [Ieee.Format.order, hr, hr', Ieee.Datum.order]
  · rw [cn_of_num (by simpa using hx)]
    by_cases hy : nan k y = true
    · obtain ⟨s, f, hr⟩ := read_nan hy
      obtain ⟨s', f', hr'⟩ := read_nan (nan_qn k)
      rw [cn_of_nan hy]
      cases hx : k.format.read x <;> simp [Ieee.Format.order, hr, hr', hx, Ieee.Datum.order]
    · rw [cn_of_num (by simpa using hy)]

end Go.Fl
