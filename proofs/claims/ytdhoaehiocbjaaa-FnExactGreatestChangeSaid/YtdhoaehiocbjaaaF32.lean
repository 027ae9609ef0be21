/- Numbers of single precision: exact results, sizes, differences of plain numbers. -/
import Derived.Test.YtdhoaehiocbjaaaVcEq
namespace Go.Fl
open Go Go.Vc
set_option linter.all false

theorem sg_frac : Ieee.single.fractionBits = 23 := rfl
theorem db_frac : Ieee.double.fractionBits = 52 := rfl

theorem log2_mul_pow {m k : Nat} (h0 : m ≠ 0) : (m * 2 ^ k).log2 = m.log2 + k := by
  have hne : m * 2 ^ k ≠ 0 := Nat.mul_ne_zero h0 (Nat.ne_of_gt (Nat.pow_pos (by decide)))
  refine (Nat.log2_eq_iff hne).2 ⟨?_, ?_⟩
  · rw [Nat.pow_add]; exact Nat.mul_le_mul_right _ (Nat.log2_self_le h0)
  · rw [show m.log2 + k + 1 = m.log2 + 1 + k by omega, Nat.pow_add]; exact Nat.mul_lt_mul_of_pos_right Nat.lt_log2_self (Nat.pow_pos (by decide))

/-- what is cut off is nothing -/
theorem cut_exact {way : Ieee.Toward} {neg : Bool} {m k : Nat} (h0 : m ≠ 0) : way.cut neg (m * 2 ^ k) k = m := by
  have hl : k ≤ (m * 2 ^ k).log2 + 2 := by rw [log2_mul_pow h0]; omega
  have hd : (m * 2 ^ k) / 2 ^ k = m := Nat.mul_div_cancel _ (Nat.pow_pos (by decide))
  have hm : (m * 2 ^ k) % 2 ^ k = 0 := Nat.mul_mod_left _ _
  unfold Ieee.Toward.cut
  simp only [Nat.min_eq_left hl, Nat.one_shiftLeft, hd, hm]
  have hp : 0 < 2 ^ k := Nat.pow_pos (by decide)
  cases way <;> simp <;> omega

/-- the word of a number that single precision has, told with more digits -/
theorem nearest_exact {s : Bool} {m k : Nat} {p : Int} (h0 : m ≠ 0) (hm : m < 16777216) (hp : -149 ≤ p ∧ p ≤ 104) (hs : m < 8388608 → p = -149) :
    Ieee.single.nearest s (m * 2 ^ k) (p - k) = Ieee.single.word s ((p + 149).toNat * 8388608 + m) := by
  have hne : m * 2 ^ k ≠ 0 := Nat.mul_ne_zero h0 (Nat.ne_of_gt (Nat.pow_pos (by decide)))
  have hL : m.log2 ≤ 23 := log2_le (by omega)
  have hL2 : 8388608 ≤ m → m.log2 = 23 := fun h => by
    have h1 : m.log2 ≥ 23 := by
      refine Classical.byContradiction fun hn => ?_
      have := Nat.lt_log2_self (n := m)
      have h2 : 2 ^ (m.log2 + 1) ≤ 2 ^ 23 := Nat.pow_le_pow_right (by decide) (by omega)
      have h3 : (2 : Nat) ^ 23 = 8388608 := by decide
      omega
    omega
  unfold Ieee.Format.nearest
  rw [if_neg hne]
  simp only [sg_least, sg_bin, sg_inf, sg_frac, log2_mul_pow h0]
  have hlast : max (p - (k : Int) + ((m.log2 + k : Nat) : Int) - ((23 : Nat) : Int)) (-149) = p := by
    by_cases h : m < 8388608
    · have := hs h; omega
    · have := hL2 (by omega); omega
  rw [hlast]
  have e1 : (p - (k : Int) - p).toNat = 0 := by omega
  have e2 : (p - (p - (k : Int))).toNat = k := by omega
  rw [e1, e2, Nat.shiftLeft_zero, cut_exact h0]
  have e3 : (p - -149).toNat = (p + 149).toNat := by omega
  rw [e3, Nat.min_eq_left]
  omega

/-- the word that was read -/
theorem word_read {b : Nat} (hb : b < 2 ^ 32) {s : Bool} {m : Nat} {p : Int} (h : Ieee.single.read b = .number s m p) : Ieee.single.word s ((p + 149).toNat * 8388608 + m) = b := by
  obtain ⟨h1, h2, h3, h4, h5, h6⟩ := single_read h
  have e : (p + 149).toNat * 8388608 + m = b % 2147483648 := by omega
  rw [e]
  unfold Ieee.Format.word
  rw [sg_sign, h5]
  by_cases hh : b / 2147483648 % 2 = 1
  · simp [hh]; omega
  · have : b / 2147483648 % 2 = 0 := by omega
    simp [this]; omega

/-- a number told with more digits, written -/
theorem nearest_read {b : Nat} (hb : b < 2 ^ 32) {s : Bool} {m : Nat} {p : Int} (h : Ieee.single.read b = .number s m p) (h0 : m ≠ 0) (k : Nat) (t : Bool) :
    Ieee.single.nearest t (m * 2 ^ k) (p - k) = Ieee.single.word t (b % 2147483648) := by
  obtain ⟨h1, h2, h3, h4, h5, h6⟩ := single_read h
  rw [nearest_exact h0 h1 ⟨h2, h3⟩ h4]
  congr 1
  omega

/-! ### sizes -/
/-- the size of a canonical word -/
def absF (x : Nat) : Nat := if nan .f32 x then qn .f32 else x % 2147483648

theorem word_false (f : Ieee.Format) (r : Nat) : f.word false r = r := rfl

theorem db_read_abs (r : Nat) : Ieee.double.read (r % 9223372036854775808) = match Ieee.double.read r with
    | .number _ m p => .number false m p
    | .infinity _ => .infinity false
    | .nan _ f => .nan false f := by
  unfold Ieee.Format.read
  simp only [db_sign, db_bin, db_inf, db_least]
  have e1 : r % 9223372036854775808 % 9223372036854775808 = r % 9223372036854775808 := by omega
  have e2 : (r % 9223372036854775808 / 9223372036854775808 % 2 == 1) = false := by
    have : r % 9223372036854775808 / 9223372036854775808 = 0 := by omega
    rw [this]; rfl
  rw [e1, e2]
  split
  · rfl
  · split
    · rfl
    · split <;> rfl

theorem wide_inf (s : Bool) : floatToFloatBits .f32 (Ieee.single.word s 2139095040) .f64 = some (Ieee.double.word s 9218868437227405312) := by cases s <;> decide +kernel

theorem sg_read_abs (r : Nat) : Ieee.single.read (r % 2147483648) = match Ieee.single.read r with
    | .number _ m p => .number false m p
    | .infinity _ => .infinity false
    | .nan _ f => .nan false f := by
  unfold Ieee.Format.read
  simp only [sg_sign, sg_bin, sg_inf, sg_least]
  have e1 : r % 2147483648 % 2147483648 = r % 2147483648 := by omega
  have e2 : (r % 2147483648 / 2147483648 % 2 == 1) = false := by
    have : r % 2147483648 / 2147483648 = 0 := by omega
    rw [this]; rfl
  rw [e1, e2]
  split
  · rfl
  · split
    · rfl
    · split <;> rfl

theorem sg_inf_word {b : Nat} {s : Bool} (h : Ieee.single.read b = .infinity s) : b % 2147483648 = 2139095040 := by
  unfold Ieee.Format.read at h
  simp only [sg_sign, sg_bin, sg_inf, sg_least] at h
  split at h
  · cases h
  · split at h
    · cases h
    · split at h
      · assumption
      · cases h

theorem nan_of_read {k : FloatKind} {x : Nat} {s : Bool} {f : Nat} (h : k.format.read x = .nan s f) : nan k x = true := by unfold nan; rw [h]; rfl
theorem num_of_read {k : FloatKind} {x : Nat} {s : Bool} {m : Nat} {p : Int} (h : k.format.read x = .number s m p) : nan k x = false := by unfold nan; rw [h]; rfl
theorem num_of_inf {k : FloatKind} {x : Nat} {s : Bool} (h : k.format.read x = .infinity s) : nan k x = false := by unfold nan; rw [h]; rfl

/-- what is no NaN is its own canonical word -/
theorem cn_eq_num {k : FloatKind} {r x : Nat} (h : cn k r = x) (hx : nan k x = false) : r = x := by
  cases hn : nan k r with
  | true => rw [cn_of_nan hn] at h; subst h; rw [nan_qn] at hx; cases hx
  | false => rw [cn_of_num hn] at h; exact h
theorem cn_eq_nan {k : FloatKind} {r x : Nat} (h : cn k r = x) (hx : nan k x = true) : nan k r = true := by
  cases hn : nan k r with
  | true => rfl
  | false => rw [cn_of_num hn] at h; subst h; rw [hn] at hx; cases hx

/-- widened, its sign struck, narrowed -/
theorem abs_narrow {x : Nat} {r : Nat} (hx : x < 2 ^ 32) (hr : cn .f64 r = wideF x) :
    (nan .f64 (r % 9223372036854775808) = true ∨ floatToFloatBits .f64 (r % 9223372036854775808) .f32 ≠ none) ∧ cn .f32 (fconv .f64 .f32 (cn .f64 (r % 9223372036854775808))) = absF x := by
  unfold wideF fconv at hr
  cases hread : Ieee.single.read x with
  | nan s f =>
    have hn : nan .f32 x = true := nan_of_read (k := .f32) hread
    have e1 : floatToFloatBits .f32 x .f64 = none := by
      unfold floatToFloatBits; rw [if_neg (by decide)]
      show (match Ieee.single.read x with | .nan _ _ => none | .infinity s => some _ | .number s m e => _) = none
      rw [hread]
    rw [e1] at hr
    have hnr : nan .f64 r = true := cn_eq_nan hr (by decide)
    obtain ⟨s', f', hrd⟩ := read_nan hnr
    have hab := db_read_abs r
    have hrd' : Ieee.double.read r = .nan s' f' := hrd
    rw [hrd'] at hab
    have hna : nan .f64 (r % 9223372036854775808) = true := nan_of_read (k := .f64) hab
    refine ⟨.inl hna, ?_⟩
    rw [cn_of_nan hna]
    have e2 : fconv .f64 .f32 (qn .f64) = qn .f32 := by decide +kernel
    rw [e2]
    simp only [absF, hn, if_true]
    decide
  | infinity s =>
    have hn : nan .f32 x = false := num_of_inf (k := .f32) hread
    have e1 : floatToFloatBits .f32 x .f64 = some (Ieee.double.word s 9218868437227405312) := by
      unfold floatToFloatBits; rw [if_neg (by decide)]
      show (match Ieee.single.read x with | .nan _ _ => none | .infinity s => some (Ieee.double.word s Ieee.double.infRung) | .number s m e => _) = _
      rw [hread, db_inf]
    rw [e1] at hr
    simp only [Option.getD_some] at hr
    have e3 : cn .f64 (Ieee.double.word s 9218868437227405312) = Ieee.double.word s 9218868437227405312 := by cases s <;> decide +kernel
    rw [e3] at hr
    have hreq : r = Ieee.double.word s 9218868437227405312 := cn_eq_num hr (by cases s <;> decide +kernel)
    have e4 : r % 9223372036854775808 = 9218868437227405312 := by rw [hreq]; cases s <;> decide +kernel
    rw [e4]
    refine ⟨.inr (by decide +kernel), ?_⟩
    simp only [absF, hn, Bool.false_eq_true, if_false, sg_inf_word hread]
    decide +kernel
  | number s m p =>
    have hn : nan .f32 x = false := num_of_read (k := .f32) hread
    obtain ⟨h1, h2, h3, h4, h5, h6⟩ := single_read hread
    have hfin := widen_fin (s := s) h1 ⟨h2, h3⟩
    have e1 : floatToFloatBits .f32 x .f64 = some (Ieee.double.nearest s m p) := by
      unfold floatToFloatBits; rw [if_neg (by decide)]
      show (match Ieee.single.read x with | .nan _ _ => none | .infinity s => some _ | .number s m e => if (Ieee.double.read (Ieee.double.nearest s m e)).isInfinity = true then none else some (Ieee.double.nearest s m e)) = _
      rw [hread]
      simp only
      rw [hfin]; simp
    rw [e1] at hr
    simp only [Option.getD_some] at hr
    by_cases hm0 : m = 0
    · subst hm0
      have hp := h4 (by decide)
      subst hp
      have e2 : Ieee.double.nearest s 0 (-149) = Ieee.double.word s 0 := by unfold Ieee.Format.nearest; rw [if_pos rfl]
      rw [e2] at hr
      have e3 : cn .f64 (Ieee.double.word s 0) = Ieee.double.word s 0 := by cases s <;> decide +kernel
      rw [e3] at hr
      have hreq : r = Ieee.double.word s 0 := cn_eq_num hr (by cases s <;> decide +kernel)
      have e4 : r % 9223372036854775808 = 0 := by rw [hreq]; cases s <;> decide +kernel
      rw [e4]
      refine ⟨.inr (by decide +kernel), ?_⟩
      have e5 : x % 2147483648 = 0 := by omega
      simp only [absF, hn, Bool.false_eq_true, if_false, e5]
      decide +kernel
    · have hrd := widen_read (s := s) h1 hm0 ⟨h2, h3⟩
      have hnn : nan .f64 (Ieee.double.nearest s m p) = false := num_of_read (k := .f64) hrd
      rw [cn_of_num hnn] at hr
      have hreq : r = Ieee.double.nearest s m p := cn_eq_num hr hnn
      have hab := db_read_abs r
      rw [hreq, hrd] at hab
      simp only at hab
      rw [← hreq] at hab
      have hna : nan .f64 (r % 9223372036854775808) = false := num_of_read (k := .f64) hab
      have hnr := nearest_read hx hread hm0 (52 - m.log2) false
      have hsa := sg_read_abs x
      rw [hread] at hsa
      simp only at hsa
      have e2 : floatToFloatBits .f64 (r % 9223372036854775808) .f32 = some (x % 2147483648) := by
        unfold floatToFloatBits; rw [if_neg (by decide)]
        show (match Ieee.double.read (r % 9223372036854775808) with | .nan _ _ => none | .infinity s => some _ | .number s m e => if (Ieee.single.read (Ieee.single.nearest s m e)).isInfinity = true then none else some (Ieee.single.nearest s m e)) = _
        rw [hab]
        simp only
        rw [hnr, word_false, hsa]; rfl
      refine ⟨.inr (by rw [e2]; simp), ?_⟩
      rw [cn_of_num hna]
      unfold fconv
      rw [e2]
      have hnx : nan .f32 (x % 2147483648) = false := num_of_read (k := .f32) hsa
      simp only [Option.getD_some, absF, hn, Bool.false_eq_true, if_false]
      exact cn_of_num hnx

theorem fop_lt (op : BinOp) (x y : Nat) : fop op .f32 x y < 2 ^ 32 := by
  unfold fop
  cases h : floatBits op .f32 x y with
  | none => show qn .f32 < 2 ^ 32; decide
  | some r =>
    have hw := floatBits_wf h
    simp only [Option.getD_some]
    simpa [Lit.wf] using hw

theorem zero_read : Ieee.single.read 0 = .number false 0 (-149) := by decide +kernel
theorem zero_cn : cn .f32 0 = 0 := by decide +kernel

/-- 0 less a number that is not above 0 -/
theorem zero_minus {x : Nat} (hx : x < 2 ^ 32) (hle : fcmp .leq .f32 x (cn .f32 0) = true) : fop .sub .f32 (cn .f32 0) x = absF x := by
  rw [zero_cn] at *
  have hsub : fop .sub .f32 0 x = (((Ieee.single.read 0).sum (Ieee.single.read x).opposite).map Ieee.single.write).getD (qn .f32) := rfl
  rw [hsub, zero_read]
  unfold fcmp at hle
  have hord : FloatKind.f32.format.order x 0 = (Ieee.single.read x).order (Ieee.single.read 0) := rfl
  rw [hord, zero_read] at hle
  cases hread : Ieee.single.read x with
  | nan s f => rw [hread] at hle; simp [Ieee.Datum.order] at hle
  | infinity s =>
    rw [hread] at hle
    have hs : s = true := by cases s <;> simp_all [Ieee.Datum.order]
    subst hs
    have hn : nan .f32 x = false := num_of_inf (k := .f32) hread
    simp only [Ieee.Datum.opposite, Ieee.Datum.sum, Option.map_some, Option.getD_some, absF, hn, Bool.false_eq_true, if_false, sg_inf_word hread]
    decide +kernel
  | number s m p =>
    have hn : nan .f32 x = false := num_of_read (k := .f32) hread
    obtain ⟨h1, h2, h3, h4, h5, h6⟩ := single_read hread
    rw [hread] at hle
    have hb : min (-149 : Int) p = -149 := by omega
    have hb2 : min p (-149 : Int) = -149 := by omega
    simp only [Ieee.Datum.opposite, Ieee.Datum.sum, Option.map_some, Option.getD_some, hb, absF, hn, Bool.false_eq_true, if_false]
    by_cases hm0 : m = 0
    · subst hm0
      have e5 : x % 2147483648 = 0 := by have := h4 (by decide); omega
      have e6 : ∀ (a b : Bool) (i j : Nat), Ieee.signed a 0 i + Ieee.signed b 0 j = 0 := fun a b i j => by cases a <;> cases b <;> simp [Ieee.signed]
      rw [e6, e5]
      simp only [if_true, Int.natAbs_zero, Bool.false_and]
      show Ieee.single.nearest false 0 (-149) = 0
      unfold Ieee.Format.nearest; rw [if_pos rfl]; rfl
    · have hs : s = true := by
        simp only [Ieee.Datum.order, hb2] at hle
        cases s with
        | true => rfl
        | false =>
          exfalso
          have hpos : 0 < m <<< (p - -149).toNat := by rw [Nat.shiftLeft_eq]; exact Nat.mul_pos (by omega) (Nat.pow_pos (by decide))
          have : compare (Ieee.signed false m (p - -149).toNat) (Ieee.signed false 0 ((-149 : Int) - -149).toNat) = .gt := by
            simp only [Ieee.signed, Bool.false_eq_true, if_false, Nat.zero_shiftLeft]
            rw [Int.compare_eq_gt]
            omega
          rw [this] at hle; simp at hle
      subst hs
      have e7 : Ieee.signed false 0 ((-149 : Int) - -149).toNat + Ieee.signed (!true) m (p - -149).toNat = ((m * 2 ^ (p + 149).toNat : Nat) : Int) := by
        simp only [Ieee.signed, Bool.not_true, Bool.false_eq_true, if_false, Nat.zero_shiftLeft, Nat.shiftLeft_eq]
        rw [show (p - -149).toNat = (p + 149).toNat by omega]
        simp
      have hpos : 0 < m * 2 ^ (p + 149).toNat := Nat.mul_pos (by omega) (Nat.pow_pos (by decide))
      have hnr := nearest_read hx hread hm0 (p + 149).toNat false
      rw [show p - ((p + 149).toNat : Int) = -149 by omega] at hnr
      rw [e7]
      generalize m * 2 ^ (p + 149).toNat = Q at *
      rw [if_neg (by omega), Int.natAbs_natCast]
      have e8 : decide ((Q : Int) < 0) = false := by simp
      rw [e8]
      show Ieee.single.nearest false Q (-149) = _
      rw [hnr, word_false]

/-- a number that is not at most 0 is its own size -/
theorem not_le_abs {x : Nat} (hx : x < 2 ^ 32) (hc : cn .f32 x = x) (h : fcmp .leq .f32 x (cn .f32 0) = false) : absF x = x := by
  rw [zero_cn] at h
  unfold absF
  cases hn : nan .f32 x with
  | true => simp only [if_true]; rw [cn_of_nan hn] at hc; exact hc
  | false =>
    simp only [Bool.false_eq_true, if_false]
    unfold fcmp at h
    have hord : FloatKind.f32.format.order x 0 = (Ieee.single.read x).order (Ieee.single.read 0) := rfl
    rw [hord, zero_read] at h
    have key : (x / 2147483648 % 2 == 1) = false := by
      have hneg : (Ieee.single.read x).neg = (x / 2147483648 % 2 == 1) := by
        unfold Ieee.Format.read
        simp only [sg_sign, sg_bin, sg_inf, sg_least]
        split
        · rfl
        · split
          · rfl
          · split <;> rfl
      rw [← hneg]
      cases hread : Ieee.single.read x with
      | nan s f => unfold nan at hn; have : FloatKind.f32.format.read x = .nan s f := hread; rw [this] at hn; cases hn
      | infinity s => rw [hread] at h; cases s <;> simp_all [Ieee.Datum.order, Ieee.Datum.neg]
      | number s m p =>
        rw [hread] at h
        cases s with
        | false => rfl
        | true =>
          exfalso
          simp only [Ieee.Datum.order] at h
          have hle : Ieee.signed true m (p - min p (-149)).toNat ≤ Ieee.signed false 0 ((-149 : Int) - min p (-149)).toNat := by
            simp only [Ieee.signed, if_true, Bool.false_eq_true, if_false, Nat.zero_shiftLeft]
            generalize m <<< (p - min p (-149)).toNat = Q
            omega
          have : compare (Ieee.signed true m (p - min p (-149)).toNat) (Ieee.signed false 0 ((-149 : Int) - min p (-149)).toNat) ≠ .gt := by
            rw [Ne, Int.compare_eq_gt]; omega
          cases hcmp : compare (Ieee.signed true m (p - min p (-149)).toNat) (Ieee.signed false 0 ((-149 : Int) - min p (-149)).toNat) <;> simp_all
    have : x / 2147483648 % 2 ≠ 1 := by simpa using key
    omega

/-! ### finite results -/
theorem cut_le {neg : Bool} {n d : Nat} (h : n < 2 ^ (24 + d)) : Ieee.Toward.even.cut neg n d ≤ 16777216 := by
  unfold Ieee.Toward.cut
  simp only [Nat.one_shiftLeft]
  by_cases hd : d ≤ n.log2 + 2
  · rw [Nat.min_eq_left hd]
    have h1 : n / 2 ^ d < 2 ^ 24 := by
      rw [Nat.div_lt_iff_lt_mul (Nat.pow_pos (by decide)), ← Nat.pow_add]; exact h
    have h2 : ∀ b : Bool, b.toNat ≤ 1 := fun b => by cases b <;> decide
    have := h2 (decide (2 ^ d < 2 * (n % 2 ^ d)) || 2 ^ d == 2 * (n % 2 ^ d) && n / 2 ^ d % 2 == 1)
    have e : (2 : Nat) ^ 24 = 16777216 := by decide
    omega
  · rw [Nat.min_eq_right (by omega)]
    have h1 : n / 2 ^ (n.log2 + 2) = 0 := by
      apply Nat.div_eq_of_lt
      have := Nat.lt_log2_self (n := n)
      have h2 : 2 ^ (n.log2 + 1) ≤ 2 ^ (n.log2 + 2) := Nat.pow_le_pow_right (by decide) (by omega)
      omega
    have h2 : ∀ b : Bool, b.toNat ≤ 1 := fun b => by cases b <;> decide
    have := h2 (decide (2 ^ (n.log2 + 2) < 2 * (n % 2 ^ (n.log2 + 2))) || 2 ^ (n.log2 + 2) == 2 * (n % 2 ^ (n.log2 + 2)) && n / 2 ^ (n.log2 + 2) % 2 == 1)
    omega

theorem read_word {s : Bool} {rung : Nat} (h : rung < 2139095040) : ∃ t m p, Ieee.single.read (Ieee.single.word s rung) = .number t m p := by
  unfold Ieee.Format.read Ieee.Format.word
  simp only [sg_sign, sg_bin, sg_inf, sg_least]
  have e1 : (if s = true then 2147483648 + rung else rung) % 2147483648 = rung := by cases s <;> simp <;> omega
  rw [e1]
  by_cases h1 : rung < 8388608
  · rw [if_pos h1]; exact ⟨_, _, _, rfl⟩
  · rw [if_neg h1, if_pos h]; exact ⟨_, _, _, rfl⟩

theorem nearest_fin {s : Bool} {m : Nat} {p : Int} (h : m = 0 ∨ (m.log2 : Int) + p ≤ 100) : ∃ t n q, Ieee.single.read (Ieee.single.nearest s m p) = .number t n q := by
  unfold Ieee.Format.nearest
  split
  · exact read_word (by decide)
  · rename_i h0
    have hl : (m.log2 : Int) + p ≤ 100 := h.resolve_left h0
    simp only [sg_least, sg_bin, sg_inf, sg_frac]
    generalize hlast : max (p + (m.log2 : Int) - ((23 : Nat) : Int)) (-149) = last
    have hk : Ieee.Toward.even.cut s (m <<< (p - last).toNat) (last - p).toNat ≤ 16777216 := by
      refine cut_le ?_
      rw [Nat.shiftLeft_eq]
      have h1 : m < 2 ^ (m.log2 + 1) := Nat.lt_log2_self
      have h2 : m * 2 ^ (p - last).toNat < 2 ^ (m.log2 + 1 + (p - last).toNat) := by rw [Nat.pow_add]; exact Nat.mul_lt_mul_of_pos_right h1 (Nat.pow_pos (by decide))
      refine Nat.lt_of_lt_of_le h2 (Nat.pow_le_pow_right (by decide) ?_)
      omega
    have hlt : (last - -149).toNat * 8388608 + Ieee.Toward.even.cut s (m <<< (p - last).toNat) (last - p).toNat < 2139095040 := by
      have : (last - -149).toNat ≤ 226 := by omega
      omega
    rw [Nat.min_eq_left (by omega)]
    exact read_word hlt

theorem lo_read : Ieee.single.read (cn .f32 3380609024) = .number true 8388608 (-3) := by decide +kernel
theorem hi_read : Ieee.single.read (cn .f32 1233125376) = .number false 8388608 (-3) := by decide +kernel

/-- a plain number's magnitude -/
theorem plain_read {x : Nat} (h1 : fcmp .geq .f32 x (cn .f32 3380609024) = true) (h2 : fcmp .leq .f32 x (cn .f32 1233125376) = true) : ∃ s m p, Ieee.single.read x = .number s m p ∧ (m = 0 ∨ (m.log2 : Int) + p ≤ 20) := by
  unfold fcmp at h1 h2
  have o1 : FloatKind.f32.format.order x (cn .f32 3380609024) = (Ieee.single.read x).order (Ieee.single.read (cn .f32 3380609024)) := rfl
  have o2 : FloatKind.f32.format.order x (cn .f32 1233125376) = (Ieee.single.read x).order (Ieee.single.read (cn .f32 1233125376)) := rfl
  rw [o1, lo_read] at h1
  rw [o2, hi_read] at h2
  cases hread : Ieee.single.read x with
  | nan s f => rw [hread] at h1; simp [Ieee.Datum.order] at h1
  | infinity s => rw [hread] at h1 h2; cases s <;> simp_all [Ieee.Datum.order]
  | number s m p =>
    refine ⟨s, m, p, rfl, ?_⟩
    by_cases hm0 : m = 0
    · exact .inl hm0
    right
    rw [hread] at h1 h2
    simp only [Ieee.Datum.order] at h1 h2
    generalize hbase : min p (-3) = base at *
    have key : m <<< (p - base).toNat ≤ 8388608 <<< (-3 - base).toNat := by
      cases s with
      | false =>
        refine Classical.byContradiction fun hn => ?_
        have : compare (Ieee.signed false m (p - base).toNat) (Ieee.signed false 8388608 (-3 - base).toNat) = .gt := by
          rw [Int.compare_eq_gt]; simp only [Ieee.signed, Bool.false_eq_true, if_false]; omega
        rw [this] at h2; simp at h2
      | true =>
        refine Classical.byContradiction fun hn => ?_
        have : compare (Ieee.signed true m (p - base).toNat) (Ieee.signed true 8388608 (-3 - base).toNat) = .lt := by
          rw [Int.compare_eq_lt]; simp only [Ieee.signed, if_true]; omega
        rw [this] at h1; simp at h1
    rw [Nat.shiftLeft_eq, Nat.shiftLeft_eq] at key
    have k1 : 2 ^ (m.log2 + (p - base).toNat) ≤ 2 ^ (23 + (-3 - base).toNat) := by
      rw [Nat.pow_add, Nat.pow_add]
      refine Nat.le_trans (Nat.mul_le_mul_right _ (Nat.log2_self_le hm0)) ?_
      exact key
    have := (Nat.pow_le_pow_iff_right (by decide : 1 < 2)).1 k1
    omega

/-- the difference of plain numbers is finite -/
theorem plain_sub {x y : Nat} (h1 : fcmp .geq .f32 x (cn .f32 3380609024) = true) (h2 : fcmp .leq .f32 x (cn .f32 1233125376) = true)
    (h3 : fcmp .geq .f32 y (cn .f32 3380609024) = true) (h4 : fcmp .leq .f32 y (cn .f32 1233125376) = true) : ∃ s m p, Ieee.single.read (fop .sub .f32 x y) = .number s m p := by
  obtain ⟨s, m, i, hx, kx⟩ := plain_read h1 h2
  obtain ⟨t, n, j, hy, ky⟩ := plain_read h3 h4
  have hsub : fop .sub .f32 x y = (((Ieee.single.read x).sum (Ieee.single.read y).opposite).map Ieee.single.write).getD (qn .f32) := rfl
  rw [hsub, hx, hy]
  simp only [Ieee.Datum.opposite, Ieee.Datum.sum, Option.map_some, Option.getD_some]
  generalize hbase : min i j = base
  generalize hsg : (if Ieee.signed s m (i - base).toNat + Ieee.signed (!t) n (j - base).toNat = 0 then s && !t else decide (Ieee.signed s m (i - base).toNat + Ieee.signed (!t) n (j - base).toNat < 0)) = sg
  refine nearest_fin ?_
  generalize hM : (Ieee.signed s m (i - base).toNat + Ieee.signed (!t) n (j - base).toNat).natAbs = M
  by_cases hM0 : M = 0
  · exact .inl hM0
  right
  have ab : ∀ (s : Bool) (a u : Nat), (Ieee.signed s a u).natAbs = a <<< u := fun s a u => by
    cases s
    · simp only [Ieee.signed, Bool.false_eq_true, if_false]; exact Int.natAbs_natCast _
    · simp only [Ieee.signed, if_true]; rw [Int.natAbs_neg]; exact Int.natAbs_natCast _
  have hle : M ≤ m <<< (i - base).toNat + n <<< (j - base).toNat := by
    rw [← hM, ← ab s m, ← ab (!t) n]; exact Int.natAbs_add_le _ _
  have bound : ∀ (a : Nat) (q : Int), (a = 0 ∨ (a.log2 : Int) + q ≤ 20) → base ≤ q → ∀ E : Nat, (E : Int) = 21 - base → a <<< (q - base).toNat < 2 ^ E := by
    intro a q ha hq E hE
    rw [Nat.shiftLeft_eq]
    rcases ha with rfl | ha
    · simp; exact Nat.pow_pos (by decide)
    · have h1 : a < 2 ^ (a.log2 + 1) := Nat.lt_log2_self
      have h2 : a * 2 ^ (q - base).toNat < 2 ^ (a.log2 + 1 + (q - base).toNat) := by rw [Nat.pow_add]; exact Nat.mul_lt_mul_of_pos_right h1 (Nat.pow_pos (by decide))
      refine Nat.lt_of_lt_of_le h2 (Nat.pow_le_pow_right (by decide) ?_)
      omega
  by_cases hb21 : base ≤ 21
  · obtain ⟨E, hE⟩ : ∃ E : Nat, (E : Int) = 21 - base := ⟨(21 - base).toNat, by omega⟩
    have b1 := bound m i kx (by omega) E hE
    have b2 := bound n j ky (by omega) E hE
    have hlt : M < 2 ^ (E + 1) := by rw [Nat.pow_succ]; omega
    have := (Nat.log2_lt hM0).2 hlt
    omega
  · exfalso
    have m0 : m = 0 := by
      rcases kx with h | h
      · exact h
      · omega
    have n0 : n = 0 := by
      rcases ky with h | h
      · exact h
      · omega
    subst m0 n0
    simp at hle
    omega

theorem fin_of_read {z : Nat} {s : Bool} {m : Nat} {p : Int} (h : Ieee.single.read z = .number s m p) : fcmp .eql .f32 (fop .sub .f32 z z) (cn .f32 0) = true := by
  have hsub : fop .sub .f32 z z = (((Ieee.single.read z).sum (Ieee.single.read z).opposite).map Ieee.single.write).getD (qn .f32) := rfl
  have e : fop .sub .f32 z z = 0 := by
    rw [hsub, h]
    simp only [Ieee.Datum.opposite, Ieee.Datum.sum, Option.map_some, Option.getD_some]
    have e6 : Ieee.signed s m (p - min p p).toNat + Ieee.signed (!s) m (p - min p p).toNat = 0 := by cases s <;> simp [Ieee.signed] <;> omega
    rw [e6]
    simp only [if_true, Int.natAbs_zero, Bool.and_not_self]
    show Ieee.single.nearest false 0 _ = 0
    unfold Ieee.Format.nearest; rw [if_pos rfl]; rfl
  rw [e]; decide +kernel

end Go.Fl
