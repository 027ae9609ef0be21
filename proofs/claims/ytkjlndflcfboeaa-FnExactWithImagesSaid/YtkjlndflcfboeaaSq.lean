/- Small whole numbers in single precision: squares and sums are exact. -/
import Derived.Test.YtkjlndflcfboeaaLn
namespace Go.Proofs.Ytkjlndflcfboeaa
open Go Go.Fl Go.Vc
set_option linter.all false
set_option maxRecDepth 10000

abbrev fI (n : Int) : Nat := floatOfInt .f32 n

theorem log2_small {c : Nat} (h : c < 16777216) : c.log2 ≤ 23 := log2_le (k := 23) h

theorem mant {c : Nat} (h0 : 0 < c) (hc : c < 16777216) : 8388608 ≤ c * 2 ^ (23 - c.log2) ∧ c * 2 ^ (23 - c.log2) < 16777216 := by
  have hL := log2_small hc
  have h1 : 2 ^ c.log2 ≤ c := Nat.log2_self_le (by omega)
  have h2 : c < 2 ^ (c.log2 + 1) := Nat.lt_log2_self
  generalize c.log2 = L at *
  have hpow : 2 ^ L * 2 ^ (23 - L) = 8388608 := by rw [← Nat.pow_add, show L + (23 - L) = 23 by omega]
  have hpow1 : 2 ^ (L + 1) * 2 ^ (23 - L) = 16777216 := by rw [← Nat.pow_add, show L + 1 + (23 - L) = 24 by omega]
  exact ⟨by rw [← hpow]; exact Nat.mul_le_mul_right _ h1, by rw [← hpow1]; exact Nat.mul_lt_mul_of_pos_right h2 (Nat.pow_pos (by decide))⟩

theorem nearest_int {s : Bool} {c k : Nat} (h0 : 0 < c) (hc : c < 16777216) : Ieee.single.nearest s (c * 2 ^ k) (-(k : Int)) = Ieee.single.word s ((c.log2 + 126) * 8388608 + c * 2 ^ (23 - c.log2)) := by
  have hL := log2_small hc
  obtain ⟨m1, m2⟩ := mant h0 hc
  rcases Nat.lt_or_ge k (23 - c.log2) with hk | hk
  · have hne : c * 2 ^ k ≠ 0 := Nat.mul_ne_zero (by omega) (Nat.ne_of_gt (Nat.pow_pos (by decide)))
    unfold Ieee.Format.nearest
    rw [if_neg hne]
    simp only [sg_least, sg_bin, sg_inf, sg_frac, log2_mul_pow (show c ≠ 0 by omega)]
    have hlast : max (-(k : Int) + ((c.log2 + k : Nat) : Int) - ((23 : Nat) : Int)) (-149) = (c.log2 : Int) - 23 := by omega
    rw [hlast]
    have e1 : (-(k : Int) - ((c.log2 : Int) - 23)).toNat = 23 - c.log2 - k := by omega
    have e2 : ((c.log2 : Int) - 23 - -(k : Int)).toNat = 0 := by omega
    rw [e1, e2, cut_zero _ _ _ rfl, Nat.shiftLeft_eq, Nat.mul_assoc, ← Nat.pow_add, show k + (23 - c.log2 - k) = 23 - c.log2 by omega]
    have e3 : ((c.log2 : Int) - 23 - -149).toNat = c.log2 + 126 := by omega
    rw [e3, Nat.min_eq_left]
    generalize c * 2 ^ (23 - c.log2) = M at *
    omega
  · have e1 : c * 2 ^ k = c * 2 ^ (23 - c.log2) * 2 ^ (k - (23 - c.log2)) := by rw [Nat.mul_assoc, ← Nat.pow_add, show 23 - c.log2 + (k - (23 - c.log2)) = k by omega]
    have e2 : -(k : Int) = ((c.log2 : Int) - 23) - ((k - (23 - c.log2) : Nat) : Int) := by omega
    rw [e1, e2, nearest_exact (s := s) (m := c * 2 ^ (23 - c.log2)) (k := k - (23 - c.log2)) (p := (c.log2 : Int) - 23) (by omega) m2 ⟨by omega, by omega⟩ (fun h => by omega)]
    have e3 : ((c.log2 : Int) - 23 + 149).toNat = c.log2 + 126 := by omega
    rw [e3]

theorem single_word_read {s : Bool} {E M : Nat} (hE : E ≤ 252) (h1 : 8388608 ≤ M) (h2 : M < 16777216) : Ieee.single.read (Ieee.single.word s (E * 8388608 + M)) = .number s M (-149 + E) := by
  unfold Ieee.Format.read Ieee.Format.word
  simp only [sg_sign, sg_bin, sg_inf, sg_least]
  generalize hr : E * 8388608 + M = rung
  have hlt : rung < 2139095040 := by omega
  have hge : 8388608 ≤ rung := by omega
  have e1 : (if s = true then 2147483648 + rung else rung) % 2147483648 = rung := by
    cases s
    · simp; omega
    · simp; omega
  have e2 : ((if s = true then 2147483648 + rung else rung) / 2147483648 % 2 == 1) = s := by
    cases s
    · have : rung / 2147483648 = 0 := by omega
      simp [this]
    · have : (2147483648 + rung) / 2147483648 = 1 := by omega
      simp [this]
  rw [e1, e2, if_neg (by omega), if_pos hlt]
  have e3 : 8388608 + rung % 8388608 = M := by omega
  have e4 : rung / 8388608 - 1 = E := by omega
  rw [e3, e4]

theorem fI_word {n : Int} (h0 : n ≠ 0) (hn : n.natAbs < 16777216) : fI n = Ieee.single.word (n < 0) ((n.natAbs.log2 + 126) * 8388608 + n.natAbs * 2 ^ (23 - n.natAbs.log2)) := by
  have := nearest_int (s := decide (n < 0)) (c := n.natAbs) (k := 0) (by omega) hn
  rw [Nat.pow_zero, Nat.mul_one] at this
  exact this
theorem fI_read {n : Int} (h0 : n ≠ 0) (hn : n.natAbs < 16777216) : Ieee.single.read (fI n) = .number (n < 0) (n.natAbs * 2 ^ (23 - n.natAbs.log2)) ((n.natAbs.log2 : Int) - 23) := by
  have hL := log2_small hn
  obtain ⟨m1, m2⟩ := mant (c := n.natAbs) (by omega) hn
  rw [fI_word h0 hn, single_word_read (by omega) m1 m2]
  congr 1
  omega
theorem fI_zero : fI 0 = 0 := by decide
theorem zero_read : Ieee.single.read 0 = .number false 0 (-149) := by decide
theorem fI_num {n : Int} (hn : n.natAbs < 16777216) : cn .f32 (fI n) = fI n := by
  by_cases h0 : n = 0
  · subst h0; decide
  · exact cn_of_num (num_of_read (k := .f32) (fI_read h0 hn))

theorem fI_sq {n : Int} (hn : n.natAbs * n.natAbs < 16777216) : fop .mul .f32 (cn .f32 (fI n)) (cn .f32 (fI n)) = cn .f32 (fI (n * n)) := by
  by_cases h0 : n = 0
  · subst h0; decide
  · have hpos : 0 < n.natAbs := by omega
    have h1 : n.natAbs < 16777216 := Nat.lt_of_le_of_lt (Nat.le_mul_of_pos_left _ hpos) hn
    have hL := log2_small h1
    have hab : (n * n).natAbs = n.natAbs * n.natAbs := Int.natAbs_mul n n
    have hnn : ¬ (n * n < 0) := by
      have h : ((n * n).natAbs : Int) = n * n := by rw [hab]; exact Int.natAbs_mul_self
      omega
    have hne : n * n ≠ 0 := Int.mul_ne_zero h0 h0
    rw [fI_num h1, fI_num (by rw [hab]; exact hn), fop_mul_eq, fI_read h0 h1, prod_num, Option.map_some, Option.getD_some, write_num]
    rw [Bool.xor_self]
    have e1 : n.natAbs * 2 ^ (23 - n.natAbs.log2) * (n.natAbs * 2 ^ (23 - n.natAbs.log2)) = (n.natAbs * n.natAbs) * 2 ^ (46 - 2 * n.natAbs.log2) := by
      rw [show 46 - 2 * n.natAbs.log2 = (23 - n.natAbs.log2) + (23 - n.natAbs.log2) by omega, Nat.pow_add]
      ac_rfl
    have e2 : (n.natAbs.log2 : Int) - 23 + ((n.natAbs.log2 : Int) - 23) = -((46 - 2 * n.natAbs.log2 : Nat) : Int) := by omega
    rw [e1, e2, nearest_int (Nat.mul_pos hpos hpos) hn, fI_word hne (by rw [hab]; exact hn), hab, decide_eq_false hnn]

/-- a small number's word, told at any place below its own -/
theorem fI_rep {a : Nat} (ha : a < 16777216) : ∃ M i, Ieee.single.read (fI (a : Int)) = .number false M i ∧ i ≤ 0 ∧ ∀ base : Int, base ≤ i → M * 2 ^ (i - base).toNat = a * 2 ^ (-base).toNat := by
  by_cases h0 : a = 0
  · subst h0
    exact ⟨0, -149, by rw [show ((0 : Nat) : Int) = 0 from rfl, fI_zero, zero_read], by omega, fun base _ => by simp⟩
  · have hL := log2_small ha
    have hr := fI_read (n := (a : Int)) (by omega) (by simpa using ha)
    have hneg : decide ((a : Int) < 0) = false := decide_eq_false (by omega)
    rw [hneg, Int.natAbs_natCast] at hr
    refine ⟨_, _, hr, by omega, fun base hb => ?_⟩
    rw [Nat.mul_assoc, ← Nat.pow_add]
    congr 2
    omega

theorem fop_add_eq (x y : Nat) : fop .add .f32 x y = (((Ieee.single.read x).sum (Ieee.single.read y)).map Ieee.single.write).getD (qn .f32) := rfl
theorem sum_num (m n : Nat) (i j : Int) : Ieee.Datum.sum (.number false m i) (.number false n j) = some (.number false (m * 2 ^ (i - min i j).toNat + n * 2 ^ (j - min i j).toNat) (min i j)) := by
  show some (Ieee.Datum.number (if _ then _ else _) _ _) = _
  simp only [Ieee.signed, Bool.false_eq_true, if_false, Nat.shiftLeft_eq]
  congr 2
  · rw [Bool.and_false]
    split
    · rfl
    · exact decide_eq_false (by omega)

theorem fI_add {a b : Nat} (h : a + b < 16777216) : fop .add .f32 (cn .f32 (fI (a : Int))) (cn .f32 (fI (b : Int))) = cn .f32 (fI ((a + b : Nat) : Int)) := by
  obtain ⟨M, i, r1, hi, f1⟩ := fI_rep (a := a) (by omega)
  obtain ⟨N, j, r2, hj, f2⟩ := fI_rep (a := b) (by omega)
  rw [fI_num (by simp; omega), fI_num (by simp; omega), fI_num (by omega), fop_add_eq, r1, r2, sum_num, Option.map_some, Option.getD_some, write_num, f1 _ (Int.min_le_left _ _), f2 _ (Int.min_le_right _ _), ← Nat.add_mul]
  by_cases h0 : a + b = 0
  · rw [h0, Nat.zero_mul, show ((0 : Nat) : Int) = 0 from rfl, fI_zero]
    unfold Ieee.Format.nearest
    rw [if_pos rfl]; rfl
  · have e : min i j = -(((-min i j).toNat : Nat) : Int) := by omega
    have hk := nearest_int (s := false) (c := a + b) (k := (-min i j).toNat) (by omega) h
    rw [← e] at hk
    have hw := fI_word (n := ((a + b : Nat) : Int)) (by omega) (by omega)
    have hneg : decide (((a + b : Nat) : Int) < 0) = false := decide_eq_false (by omega)
    rw [hneg, Int.natAbs_natCast] at hw
    rw [hk, hw]

theorem fI_norm {c : Nat} (h0 : 0 < c) (hc : c < 16777216) : 1065353216 ≤ fI (c : Int) ∧ fI (c : Int) < 1266679808 := by
  obtain ⟨m1, m2⟩ := mant h0 hc
  have hL := log2_small hc
  have hw := fI_word (n := (c : Int)) (by omega) (by omega)
  have hneg : decide ((c : Int) < 0) = false := decide_eq_false (by omega)
  rw [hneg, Int.natAbs_natCast, word_false] at hw
  rw [hw]
  generalize c * 2 ^ (23 - c.log2) = M at *
  generalize c.log2 = L at *
  constructor <;> omega

theorem fI_eql {c : Nat} (hc : c < 16777216) : fcmp .eql .f32 (cn .f32 (fI (c : Int))) (cn .f32 0) = decide (c = 0) := by
  by_cases h0 : c = 0
  · subst h0; decide
  · have hn := fI_norm (c := c) (by omega) hc
    rw [fI_num (by omega)]
    have e : FloatKind.f32.format.order (fI (c : Int)) (cn .f32 0) = some .gt := by
      have e0 : cn .f32 0 = 0 := by decide
      rw [e0]
      have ho : FloatKind.f32.format.order (fI (c : Int)) 0 = (Ieee.single.read (fI (c : Int))).order (Ieee.single.read 0) := rfl
      rw [ho, read_norm (by omega) (by omega), zero_read]
      simp only [Ieee.Datum.order, Ieee.signed, Bool.false_eq_true, if_false, Nat.shiftLeft_eq, Nat.zero_mul]
      congr 1
      refine cmpI_gt ?_
      have : ∀ k, 0 < (8388608 + fI (c : Int) % 8388608) * 2 ^ k := fun k => Nat.mul_pos (by omega) (Nat.pow_pos (by decide))
      exact_mod_cast this _
    simp only [fcmp, e]
    rw [decide_eq_false h0]
    rfl

end Go.Proofs.Ytkjlndflcfboeaa
