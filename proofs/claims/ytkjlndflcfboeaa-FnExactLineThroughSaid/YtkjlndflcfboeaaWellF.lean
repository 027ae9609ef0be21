/- WellFunction: what both texts compute. -/
import Derived.Test.YtkjlndflcfboeaaLnOf
namespace Go.Proofs.Ytkjlndflcfboeaa
open Go Go.Fl Go.Vc
set_option linter.all false
set_option maxRecDepth 10000

def smallW (u L : Nat) : Nat :=
  let h := fop .sub .f32 (fop .mul .f32 u (cn .f32 987395086)) (cn .f32 1009429163)
  let h := fop .add .f32 (fop .mul .f32 h u) (cn .f32 1029934649)
  let h := fop .sub .f32 (fop .mul .f32 h u) (cn .f32 1048576000)
  let h := fop .add .f32 (fop .mul .f32 h u) (cn .f32 1065353216)
  fop .add .f32 (fop .sub .f32 (cn .f32 3205743720) L) (fop .mul .f32 h u)
def eightF (i : Nat) : Nat := cn .f32 (floatOfInt .f32 ((8 : Int) - (i : Int)))
def contF (u : Nat) : Nat → Nat
  | 0 => u
  | i + 1 => fop .add .f32 u (fop .quo .f32 (eightF i) (fop .add .f32 (cn .f32 1065353216) (fop .quo .f32 (eightF i) (contF u i))))
def wellF (u : Nat) : Nat := if fcmp .leq .f32 u (cn .f32 1065353216) then smallW u (lnF u) else fop .quo .f32 (expF u) (contF u 8)
def wOk (x : Nat) : Bool := if fcmp .geq .f32 x (cn .f32 562036736) then fcmp .leq .f32 x (cn .f32 1117782016) else false
def wR (x : Nat) : Nat × Int := if wOk x then (wellF x, 0) else (cn .f32 0, 2)
def WIn (b : Nat) : Prop := 562036736 ≤ b ∧ b ≤ 1117782016

theorem w_split (x : Nat) : (wOk x = true ∧ fcmp .geq .f32 x (cn .f32 562036736) = true ∧ fcmp .gtr .f32 x (cn .f32 1117782016) = false ∧ fcmp .leq .f32 x (cn .f32 1117782016) = true) ∨
    (wOk x = false ∧ fcmp .geq .f32 x (cn .f32 562036736) = false) ∨
    (wOk x = false ∧ fcmp .geq .f32 x (cn .f32 562036736) = true ∧ fcmp .gtr .f32 x (cn .f32 1117782016) = true ∧ fcmp .leq .f32 x (cn .f32 1117782016) = false) := by
  cases hg : fcmp .geq .f32 x (cn .f32 562036736) with
  | false => exact .inr (.inl ⟨by simp [wOk, hg], rfl⟩)
  | true =>
    have hn := gt_of_num (num_of_ge hg) num_80
    cases hl : fcmp .leq .f32 x (cn .f32 1117782016) with
    | true => rw [hl] at hn; exact .inl ⟨by simp [wOk, hg, hl], rfl, hn, rfl⟩
    | false => rw [hl] at hn; exact .inr (.inr ⟨by simp [wOk, hg, hl], rfl, hn, rfl⟩)
theorem wIn_of {x : Nat} (hx : x < 2 ^ 32) (h : wOk x = true) : WIn x := by
  rcases w_split x with ⟨_, h1, _, h2⟩ | ⟨h0, _⟩ | ⟨h0, _⟩
  · exact norm_of_ge hx (by decide) (by decide) (by decide) (by decide) h1 h2
  · rw [h] at h0; cases h0
  · rw [h] at h0; cases h0
theorem WIn.ln {b : Nat} (h : WIn b) : LnIn b := ⟨h.1, by have := h.2; omega⟩

theorem order_zero {b : Nat} (h1 : 8388608 ≤ b) (h2 : b < 2139095040) : FloatKind.f32.format.order b (cn .f32 0) = some .gt := by
  have e : cn .f32 0 = 0 := by decide
  have er : Ieee.single.read 0 = .number false 0 (-149) := by decide
  rw [e]
  have ho : FloatKind.f32.format.order b 0 = (Ieee.single.read b).order (Ieee.single.read 0) := rfl
  rw [ho, read_norm h1 h2, er]
  simp only [Ieee.Datum.order, Ieee.signed, Bool.false_eq_true, if_false, Nat.shiftLeft_eq, Nat.zero_mul]
  congr 1
  refine cmpI_gt ?_
  have : ∀ k, 0 < (8388608 + b % 8388608) * 2 ^ k := fun k => Nat.mul_pos (by omega) (Nat.pow_pos (by decide))
  exact_mod_cast this _
theorem ge_zero {b : Nat} (h1 : 8388608 ≤ b) (h2 : b < 2139095040) : fcmp .geq .f32 b (cn .f32 0) = true := by simp [fcmp, order_zero h1 h2]
theorem gt_zero {b : Nat} (h1 : 8388608 ≤ b) (h2 : b < 2139095040) : fcmp .gtr .f32 b (cn .f32 0) = true := by simp [fcmp, order_zero h1 h2]

theorem exp_in {b : Nat} (h : WIn b) (hl : fcmp .leq .f32 b (cn .f32 1117782016) = true) : expR b = (expF b, 0) := by
  have : expOk b = true := by simp [expOk, ge_zero (b := b) (by have := h.1; omega) (by have := h.2; omega), hl]
  simp [expR, this]
theorem ln_in {b : Nat} (h : LnIn b) : lnR b = (lnF b, 0) := by
  have h1 : fcmp .geq .f32 b (cn .f32 562036736) = true := by rw [ge_norm (by have := h.1; omega) (by have := h.2; omega) (by decide) (by decide)]; exact decide_eq_true h.1
  have h2 : fcmp .leq .f32 b (cn .f32 1568669696) = true := by rw [le_norm (by have := h.1; omega) (by have := h.2; omega) (by decide) (by decide)]; exact decide_eq_true h.2
  simp [lnR, lnOk, h1, h2]

theorem eight_ge : ∀ i : Fin 8, fcmp .geq .f32 (eightF i.val) (cn .f32 1065353216) = true := by decide +kernel
theorem eight_no : fcmp .geq .f32 (eightF 8) (cn .f32 1065353216) = false := by decide +kernel
theorem eight_sub : ∀ i : Fin 8, fop .sub .f32 (eightF i.val) (cn .f32 1065353216) = eightF (i.val + 1) := by decide +kernel
theorem eight_zero : cn .f32 1090519040 = eightF 0 := by decide +kernel
theorem ratio_600 : ratioF 1 600 = cn .f32 987395086 := by kernel_rfl
theorem ratio_96 : ratioF 1 96 = cn .f32 1009429163 := by kernel_rfl
theorem ratio_18 : ratioF 1 18 = cn .f32 1029934649 := by kernel_rfl
theorem ratio_4 : ratioF 1 4 = cn .f32 1048576000 := by kernel_rfl
theorem neg_gamma : fop .sub .f32 (cn .f32 0) (cn .f32 1058260072) = cn .f32 3205743720 := by kernel_rfl

theorem weight (i : Nat) (h : i < 8) : IntKind.i64.wrap ((8 : Int) - (i : Int) - 1) = (8 : Int) - ((i + 1 : Nat) : Int) := by rw [IntWalk.i64_in _ (by omega)]; omega

end Go.Proofs.Ytkjlndflcfboeaa
