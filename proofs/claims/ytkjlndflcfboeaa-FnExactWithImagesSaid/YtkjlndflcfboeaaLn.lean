/- The logarithm, nearly: halving and doubling are exact, so that both loops are told by whole numbers. -/
import Derived.Test.YtkjlndflcfboeaaSeries
import Derived.Test.YtkjlndflcfboeaaF32
namespace Go.Proofs.Ytkjlndflcfboeaa
open Go Go.Fl Go.Vc
set_option linter.all false
set_option maxRecDepth 10000

/-! ### words of numbers greater than 0 -/
theorem read_norm {b : Nat} (h1 : 8388608 ≤ b) (h2 : b < 2139095040) : Ieee.single.read b = .number false (8388608 + b % 8388608) (-149 + (b / 8388608 - 1 : Nat)) := by
  unfold Ieee.Format.read
  simp only [sg_sign, sg_bin, sg_inf, sg_least]
  have e1 : b % 2147483648 = b := by omega
  have e2 : (b / 2147483648 % 2 == 1) = false := by
    have : b / 2147483648 = 0 := by omega
    rw [this]; rfl
  rw [e1, e2, if_neg (by omega), if_pos h2]
theorem num_norm {b : Nat} (h1 : 8388608 ≤ b) (h2 : b < 2139095040) : nan .f32 b = false := num_of_read (k := .f32) (read_norm h1 h2)
theorem cn_norm {b : Nat} (h1 : 8388608 ≤ b) (h2 : b < 2139095040) : cn .f32 b = b := cn_of_num (num_norm h1 h2)

theorem fop_mul_eq (x y : Nat) : fop .mul .f32 x y = (((Ieee.single.read x).product (Ieee.single.read y)).map Ieee.single.write).getD (qn .f32) := rfl
theorem fop_quo_eq (x y : Nat) : fop .quo .f32 x y = (((Ieee.single.read x).quotient (Ieee.single.fractionBits + 2) (Ieee.single.read y)).map Ieee.single.write).getD (qn .f32) := rfl
theorem prod_num (s t : Bool) (m n : Nat) (i j : Int) : Ieee.Datum.product (.number s m i) (.number t n j) = some (.number (s ^^ t) (m * n) (i + j)) := rfl
theorem quo_num (d : Nat) (s t : Bool) (m n : Nat) (i j : Int) (hn : n ≠ 0) : Ieee.Datum.quotient d (.number s m i) (.number t n j) =
    some (.number (s ^^ t) (2 * ((m <<< (d + n.log2 - m.log2)) / n) + ((m <<< (d + n.log2 - m.log2)) % n != 0).toNat) (i - j - ((d + n.log2 - m.log2 : Nat) : Int) - 1)) := by
  exact if_neg hn
theorem write_num (s : Bool) (m : Nat) (p : Int) : Ieee.single.write (.number s m p) = Ieee.single.nearest s m p := rfl
theorem cmpN_lt {a b : Nat} (h : a < b) : compare a b = .lt := by simp [compare, compareOfLessAndEq, h]
theorem cmpN_gt {a b : Nat} (h : b < a) : compare a b = .gt := by
  simp only [compare, compareOfLessAndEq]; rw [if_neg (by omega), if_neg (by omega)]
theorem cmpI_lt {a b : Int} (h : a < b) : compare a b = .lt := by simp [compare, compareOfLessAndEq, h]
theorem cmpI_gt {a b : Int} (h : b < a) : compare a b = .gt := by
  simp only [compare, compareOfLessAndEq]; rw [if_neg (by omega), if_neg (by omega)]
theorem cmpN_eq (a : Nat) : compare a a = .eq := by simp [compare, compareOfLessAndEq]
theorem cmpI_eq (a : Int) : compare a a = .eq := by simp [compare, compareOfLessAndEq]
theorem two_cn : cn .f32 1073741824 = 1073741824 := by decide
theorem two_read : Ieee.single.read 1073741824 = .number false 8388608 (-22) := by decide

theorem fop_dbl {b : Nat} (h1 : 8388608 ≤ b) (h2 : b < 2130706432) : fop .mul .f32 b (cn .f32 1073741824) = b + 8388608 := by
  rw [fop_mul_eq, two_cn, two_read, read_norm h1 (by omega), prod_num, Option.map_some, Option.getD_some]
  have hm : (8388608 + b % 8388608) * 8388608 = (8388608 + b % 8388608) * 2 ^ 23 := by generalize 8388608 + b % 8388608 = z; omega
  have hp : ((-149 : Int) + (b / 8388608 - 1 : Nat)) + -22 = (-149 + (b / 8388608 - 1 : Nat) + 1) - (23 : Nat) := by omega
  rw [hm, hp]
  rw [write_num, Bool.xor_false]
  clear hm hp
  generalize hz : 8388608 + b % 8388608 = z
  generalize hy : b / 8388608 = y
  have hyz : y * 8388608 + z = b + 8388608 := Nat.le_antisymm (by omega) (by omega)
  have hy1 : 1 ≤ y := by omega
  have hy2 : y ≤ 253 := by omega
  have hz1 : 8388608 ≤ z := by omega
  have hz2 : z < 16777216 := by omega
  rw [nearest_exact (s := false) (m := z) (k := 23) (p := -149 + ((y - 1 : Nat) : Int) + 1) (by omega) hz2 ⟨by omega, by omega⟩ (fun h => by omega), word_false]
  have e : (-149 + ((y - 1 : Nat) : Int) + 1 + 149).toNat = y := by omega
  rw [e]
  clear e hy hz
  generalize y * 8388608 = u at *
  exact Nat.le_antisymm (by omega) (by omega)

theorem fop_half {b : Nat} (h1 : 16777216 ≤ b) (h2 : b < 2139095040) : fop .quo .f32 b (cn .f32 1073741824) = b - 8388608 := by
  have hl : (8388608 + b % 8388608).log2 = 23 := (Nat.log2_eq_iff (by omega)).2 ⟨by omega, by omega⟩
  have hl8 : (8388608 : Nat).log2 = 23 := by decide
  rw [fop_quo_eq, two_cn, two_read, read_norm (by omega) h2, quo_num _ _ _ _ _ _ _ (by decide), Option.map_some, Option.getD_some, hl, hl8, sg_frac]
  have hd : (8388608 + b % 8388608) <<< (23 + 2 + 23 - 23) = ((8388608 + b % 8388608) * 4) * 8388608 := by rw [Nat.shiftLeft_eq]; omega
  rw [hd, Nat.mul_div_cancel _ (by decide), Nat.mul_mod_left]
  have hm : 2 * ((8388608 + b % 8388608) * 4) + ((0 : Nat) != 0).toNat = (8388608 + b % 8388608) * 2 ^ 3 := by simp; omega
  have hp : ((-149 : Int) + (b / 8388608 - 1 : Nat)) - -22 - ((23 + 2 + 23 - 23 : Nat) : Int) - 1 = (-149 + (b / 8388608 - 1 : Nat) - 1) - (3 : Nat) := by omega
  rw [hm, hp]
  rw [write_num, Bool.xor_false]
  clear hm hp
  generalize hz : 8388608 + b % 8388608 = z
  generalize hy : b / 8388608 = y
  have hy1 : 2 ≤ y := by omega
  have hy2 : y ≤ 254 := by omega
  have hz1 : 8388608 ≤ z := by omega
  have hz2 : z < 16777216 := by omega
  rw [nearest_exact (s := false) (m := z) (k := 3) (p := -149 + ((y - 1 : Nat) : Int) - 1) (by omega) hz2 ⟨by omega, by omega⟩ (fun h => by omega), word_false]
  have e : (-149 + ((y - 1 : Nat) : Int) - 1 + 149).toNat = y - 2 := by omega
  rw [e]
  omega

/-- words of numbers greater than 0 stand as the numbers do -/
theorem order_norm {b c : Nat} (h1 : 8388608 ≤ b) (h2 : b < 2139095040) (h3 : 8388608 ≤ c) (h4 : c < 2139095040) :
    FloatKind.f32.format.order b c = some (compare b c) := by
  show Ieee.single.order b c = _
  unfold Ieee.Format.order
  rw [read_norm h1 h2, read_norm h3 h4]
  simp only [Ieee.Datum.order, Ieee.signed, Bool.false_eq_true, if_false, Nat.shiftLeft_eq]
  generalize hi : b / 8388608 - 1 = i
  generalize hj : c / 8388608 - 1 = j
  have hb : b = (i + 1) * 8388608 + b % 8388608 := by omega
  have hc : c = (j + 1) * 8388608 + c % 8388608 := by omega
  have hmb : b % 8388608 < 8388608 := Nat.mod_lt _ (by decide)
  have hmc : c % 8388608 < 8388608 := Nat.mod_lt _ (by decide)
  generalize b % 8388608 = m at *
  generalize c % 8388608 = n at *
  congr 1
  rcases Nat.lt_trichotomy i j with h | h | h
  · have e1 : (-149 + (i : Int) - min (-149 + (i : Int)) (-149 + (j : Int))).toNat = 0 := by omega
    have e2 : (-149 + (j : Int) - min (-149 + (i : Int)) (-149 + (j : Int))).toNat = (j - i - 1) + 1 := by omega
    rw [e1, e2, Nat.pow_succ]
    have hp : 0 < 2 ^ (j - i - 1) := Nat.pow_pos (by decide)
    have : (8388608 + m) * 2 ^ 0 < (8388608 + n) * (2 ^ (j - i - 1) * 2) := by
      calc (8388608 + m) * 2 ^ 0 < 8388608 * 2 := by omega
        _ ≤ (8388608 + n) * (2 ^ (j - i - 1) * 2) := Nat.mul_le_mul (by omega) (by omega)
    rw [cmpN_lt (show b < c by omega), cmpI_lt (by exact_mod_cast this)]
  · subst h
    have e1 : (-149 + (i : Int) - min (-149 + (i : Int)) (-149 + (i : Int))).toNat = 0 := by omega
    rw [e1, Nat.pow_zero, Nat.mul_one, Nat.mul_one]
    rcases Nat.lt_trichotomy m n with h | h | h
    · rw [cmpN_lt (show b < c by omega), cmpI_lt (by omega)]
    · rw [show b = c by omega, h, cmpN_eq, cmpI_eq]
    · rw [cmpN_gt (show c < b by omega), cmpI_gt (by omega)]
  · have e1 : (-149 + (j : Int) - min (-149 + (i : Int)) (-149 + (j : Int))).toNat = 0 := by omega
    have e2 : (-149 + (i : Int) - min (-149 + (i : Int)) (-149 + (j : Int))).toNat = (i - j - 1) + 1 := by omega
    rw [e1, e2, Nat.pow_succ]
    have hp : 0 < 2 ^ (i - j - 1) := Nat.pow_pos (by decide)
    have : (8388608 + n) * 2 ^ 0 < (8388608 + m) * (2 ^ (i - j - 1) * 2) := by
      calc (8388608 + n) * 2 ^ 0 < 8388608 * 2 := by omega
        _ ≤ (8388608 + m) * (2 ^ (i - j - 1) * 2) := Nat.mul_le_mul (by omega) (by omega)
    rw [cmpN_gt (show c < b by omega), cmpI_gt (by exact_mod_cast this)]

theorem ge_norm {b c : Nat} (h1 : 8388608 ≤ b) (h2 : b < 2139095040) (h3 : 8388608 ≤ c) (h4 : c < 2139095040) : fcmp .geq .f32 b (cn .f32 c) = decide (c ≤ b) := by
  rw [cn_norm h3 h4]
  simp only [fcmp, order_norm h1 h2 h3 h4]
  rcases Nat.lt_trichotomy b c with h | h | h
  · rw [cmpN_lt h]; simp; omega
  · subst h; rw [cmpN_eq]; simp
  · rw [cmpN_gt h]; simp; omega
theorem lt_norm {b c : Nat} (h1 : 8388608 ≤ b) (h2 : b < 2139095040) (h3 : 8388608 ≤ c) (h4 : c < 2139095040) : fcmp .lss .f32 b (cn .f32 c) = decide (b < c) := by
  rw [cn_norm h3 h4]
  simp only [fcmp, order_norm h1 h2 h3 h4]
  rcases Nat.lt_trichotomy b c with h | h | h
  · rw [cmpN_lt h]; simp; omega
  · subst h; rw [cmpN_eq]; simp
  · rw [cmpN_gt h]; simp; omega
theorem le_norm {b c : Nat} (h1 : 8388608 ≤ b) (h2 : b < 2139095040) (h3 : 8388608 ≤ c) (h4 : c < 2139095040) : fcmp .leq .f32 b (cn .f32 c) = decide (b ≤ c) := by
  rw [cn_norm h3 h4]
  simp only [fcmp, order_norm h1 h2 h3 h4]
  rcases Nat.lt_trichotomy b c with h | h | h
  · rw [cmpN_lt h]; simp; omega
  · subst h; rw [cmpN_eq]; simp
  · rw [cmpN_gt h]; simp; omega

/-- what is not less than a number greater than 0, and not above another, has a word between theirs -/
theorem norm_of_ge {x c d : Nat} (hx : x < 2 ^ 32) (h3 : 8388608 ≤ c) (h4 : c < 2139095040) (h5 : 8388608 ≤ d) (h6 : d < 2139095040)
    (hge : fcmp .geq .f32 x (cn .f32 c) = true) (hle : fcmp .leq .f32 x (cn .f32 d) = true) : c ≤ x ∧ x ≤ d := by
  have hnorm : 8388608 ≤ x ∧ x < 2139095040 := by
    rw [cn_norm h3 h4] at hge
    rw [cn_norm h5 h6] at hle
    simp only [fcmp] at hge hle
    have ho : FloatKind.f32.format.order x c = (Ieee.single.read x).order (Ieee.single.read c) := rfl
    have hp : FloatKind.f32.format.order x d = (Ieee.single.read x).order (Ieee.single.read d) := rfl
    rw [ho, read_norm h3 h4] at hge
    rw [hp, read_norm h5 h6] at hle
    cases hr : Ieee.single.read x with
    | nan s f => rw [hr] at hge; simp [Ieee.Datum.order] at hge
    | infinity s =>
      rw [hr] at hge hle
      cases s <;> simp [Ieee.Datum.order] at hge hle
    | number s m p =>
      obtain ⟨r1, r2, r3, r4, r5, r6⟩ := single_read hr
      rw [hr] at hge
      simp only [Ieee.Datum.order, Ieee.signed, Bool.false_eq_true, if_false, Nat.shiftLeft_eq] at hge
      generalize hj : c / 8388608 - 1 = j at *
      have hpos : ∀ k : Nat, (0 : Int) < (((8388608 + c % 8388608) * 2 ^ k : Nat) : Int) := fun k => by
        have : 0 < (8388608 + c % 8388608) * 2 ^ k := Nat.mul_pos (by omega) (Nat.pow_pos (by decide))
        omega
      cases s with
      | true =>
        exfalso
        rw [cmpI_lt] at hge
        · simp at hge
        · refine Int.lt_of_le_of_lt ?_ (hpos _)
          simp only [if_true]
          omega
      | false =>
        have hs : x / 2147483648 % 2 = 0 := by
          rcases (show x / 2147483648 % 2 = 0 ∨ x / 2147483648 % 2 = 1 by omega) with h | h
          · exact h
          · rw [h] at r5; simp at r5
        have hxm : x % 2147483648 = x := by omega
        by_cases hm : m < 8388608
        · exfalso
          have hp0 := r4 hm
          subst hp0
          have e1 : ((-149 : Int) - min (-149) (-149 + (j : Int))).toNat = 0 := by omega
          rw [e1, cmpI_lt] at hge
          · simp at hge
          · simp only [Bool.false_eq_true, if_false]
            have hp1 : 0 < 2 ^ (-149 + (j : Int) - min (-149) (-149 + (j : Int))).toNat := Nat.pow_pos (by decide)
            have : m * 2 ^ 0 < (8388608 + c % 8388608) * 2 ^ (-149 + (j : Int) - min (-149) (-149 + (j : Int))).toNat := by
              calc m * 2 ^ 0 < 8388608 * 1 := by omega
                _ ≤ _ := Nat.mul_le_mul (by omega) hp1
            exact_mod_cast this
        · constructor <;> omega
  rw [ge_norm hnorm.1 hnorm.2 h3 h4] at hge
  rw [le_norm hnorm.1 hnorm.2 h5 h6] at hle
  exact ⟨of_decide_eq_true hge, of_decide_eq_true hle⟩

/-! ### steps of 1 -/
theorem step_up : ∀ i : Fin 70, fop .add .f32 (cn .f32 (floatOfInt .f32 (i.val : Int))) (cn .f32 1065353216) = cn .f32 (floatOfInt .f32 ((i.val + 1 : Nat) : Int)) := by decide +kernel
theorem step_down : ∀ i : Fin 70, fop .sub .f32 (cn .f32 (floatOfInt .f32 (-(i.val : Int)))) (cn .f32 1065353216) = cn .f32 (floatOfInt .f32 (-((i.val + 1 : Nat) : Int))) := by decide +kernel
theorem step_zero : cn .f32 (floatOfInt .f32 0) = cn .f32 0 := by decide +kernel

end Go.Proofs.Ytkjlndflcfboeaa
