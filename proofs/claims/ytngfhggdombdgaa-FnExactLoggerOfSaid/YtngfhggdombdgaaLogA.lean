/- LoggerOf: half more, half less. -/
import Derived.Test.YtngfhggdombdgaaLog
import Derived.Test.YtngfhggdombdgaaDraw
namespace Go.Proofs.Ytngfhggdombdgaa
open Go Go.Fl Go.Vc
set_option linter.all false
set_option maxRecDepth 10000

theorem half_cn : cn .f32 1056964608 = 1056964608 := by decide
theorem half_read : Ieee.single.read 1056964608 = .number false 8388608 (-24) := by decide
theorem zero_cn : cn .f32 0 = 0 := by decide
theorem fop_sub_eq (x y : Nat) : fop .sub .f32 x y = (((Ieee.single.read x).sum (Ieee.single.read y).opposite).map Ieee.single.write).getD (qn .f32) := rfl
theorem sum_gen (s t : Bool) (m n : Nat) (i j : Int) : Ieee.Datum.sum (.number s m i) (.number t n j) =
    some (.number (if Ieee.signed s m (i - min i j).toNat + Ieee.signed t n (j - min i j).toNat = 0 then s && t else decide (Ieee.signed s m (i - min i j).toNat + Ieee.signed t n (j - min i j).toNat < 0))
      (Ieee.signed s m (i - min i j).toNat + Ieee.signed t n (j - min i j).toNat).natAbs (min i j)) := by
  show some (Ieee.Datum.number (if _ then _ else _) _ _) = _
  congr 2
theorem signed_f (m k : Nat) : Ieee.signed false m k = ((m * 2 ^ k : Nat) : Int) := by unfold Ieee.signed; simp [Nat.shiftLeft_eq]
theorem signed_t (m k : Nat) : Ieee.signed true m k = -((m * 2 ^ k : Nat) : Int) := by unfold Ieee.signed; simp [Nat.shiftLeft_eq]
theorem big_pos (k : Nat) : 0 < 8388608 * 2 ^ k := Nat.mul_pos (by decide) (Nat.pow_pos (by decide))

theorem write_inf (s : Bool) : Ieee.single.write (.infinity s) = Ieee.single.word s 2139095040 := by
  show Ieee.single.word s Ieee.single.infRung = _
  rw [sg_inf]

theorem up_word {z : Nat} (hz : fcmp .geq .f32 z (cn .f32 0) = true) : ∃ r, r ≤ 2139095040 ∧ fop .add .f32 z (cn .f32 1056964608) = Ieee.single.word false r := by
  rw [zero_cn] at hz
  simp only [fcmp] at hz
  have ho : FloatKind.f32.format.order z 0 = (Ieee.single.read z).order (Ieee.single.read 0) := rfl
  rw [ho, zero_read] at hz
  rw [half_cn, fop_add_eq, half_read]
  cases hr : Ieee.single.read z with
  | nan s f => rw [hr] at hz; simp [Ieee.Datum.order] at hz
  | infinity s =>
    rw [hr] at hz
    cases s with
    | true => simp [Ieee.Datum.order] at hz
    | false => exact ⟨2139095040, by omega, by show Ieee.single.write (.infinity false) = _; exact write_inf false⟩
  | number s m p =>
    rw [hr] at hz
    rw [sum_gen, Option.map_some, Option.getD_some]
    have hnn : 0 ≤ Ieee.signed s m (p - min p (-24)).toNat := by
      cases s with
      | false => rw [signed_f]; omega
      | true =>
        simp only [Ieee.Datum.order, signed_t, signed_f, Nat.zero_mul] at hz
        have hm : m = 0 := by
          rcases Nat.eq_zero_or_pos m with h | h
          · exact h
          · exfalso
            have : 0 < m * 2 ^ (p - min p (-149)).toNat := Nat.mul_pos h (Nat.pow_pos (by decide))
            rw [cmpI_lt (by omega)] at hz
            simp at hz
        rw [hm, signed_t, Nat.zero_mul]; omega
    have hpos := big_pos (-24 - min p (-24)).toNat
    have hh := signed_f 8388608 (-24 - min p (-24)).toNat
    generalize Ieee.signed s m (p - min p (-24)).toNat = A at *
    generalize Ieee.signed false 8388608 (-24 - min p (-24)).toNat = B at *
    generalize 8388608 * 2 ^ (-24 - min p (-24)).toNat = C at *
    rw [if_neg (by omega), decide_eq_false (by omega), write_num]
    exact nearest_word false _ _

theorem dn_word {z : Nat} (hz : fcmp .lss .f32 z (cn .f32 0) = true) : ∃ r, r ≤ 2139095040 ∧ fop .sub .f32 z (cn .f32 1056964608) = Ieee.single.word true r := by
  rw [zero_cn] at hz
  simp only [fcmp] at hz
  have ho : FloatKind.f32.format.order z 0 = (Ieee.single.read z).order (Ieee.single.read 0) := rfl
  rw [ho, zero_read] at hz
  rw [half_cn, fop_sub_eq, half_read]
  cases hr : Ieee.single.read z with
  | nan s f => rw [hr] at hz; simp [Ieee.Datum.order] at hz
  | infinity s =>
    rw [hr] at hz
    cases s with
    | false => simp [Ieee.Datum.order] at hz
    | true => exact ⟨2139095040, by omega, by show Ieee.single.write (.infinity true) = _; exact write_inf true⟩
  | number s m p =>
    rw [hr] at hz
    show ∃ r, r ≤ 2139095040 ∧ (((Ieee.Datum.number s m p).sum (.number true 8388608 (-24))).map Ieee.single.write).getD (qn .f32) = _
    rw [sum_gen, Option.map_some, Option.getD_some]
    have hnn : Ieee.signed s m (p - min p (-24)).toNat ≤ 0 := by
      cases s with
      | true => rw [signed_t]; omega
      | false =>
        exfalso
        simp only [Ieee.Datum.order, signed_f, Nat.zero_mul] at hz
        rcases Nat.eq_zero_or_pos m with h | h
        · subst h
          rw [Nat.zero_mul, cmpI_eq] at hz
          simp at hz
        · have : 0 < m * 2 ^ (p - min p (-149)).toNat := Nat.mul_pos h (Nat.pow_pos (by decide))
          rw [cmpI_gt (by omega)] at hz
          simp at hz
    have hpos := big_pos (-24 - min p (-24)).toNat
    have hh := signed_t 8388608 (-24 - min p (-24)).toNat
    generalize Ieee.signed s m (p - min p (-24)).toNat = A at *
    generalize Ieee.signed true 8388608 (-24 - min p (-24)).toNat = B at *
    generalize 8388608 * 2 ^ (-24 - min p (-24)).toNat = C at *
    rw [if_neg (by omega), decide_eq_true (by omega), write_num]
    exact nearest_word true _ _

/-! ### below the bounds -/
theorem read_word {s : Bool} {r : Nat} (h : r < 2139095040) : ∃ m p, Ieee.single.read (Ieee.single.word s r) = .number s m p ∧ (p + 149) * 8388608 + m = (r : Int) ∧ m < 16777216 ∧ -149 ≤ p ∧ (m < 8388608 → p = -149) := by
  have hw : Ieee.single.word s r = if s then 2147483648 + r else r := by unfold Ieee.Format.word; rw [sg_sign]
  have e1 : (if s then 2147483648 + r else r) % 2147483648 = r := by cases s <;> simp <;> omega
  have e2 : ((if s then 2147483648 + r else r) / 2147483648 % 2 == 1) = s := by
    cases s
    · have : r / 2147483648 = 0 := by omega
      simp [this]
    · have : (2147483648 + r) / 2147483648 = 1 := by omega
      simp [this]
  have hrd : ∃ m p, Ieee.single.read (Ieee.single.word s r) = .number s m p := by
    rw [hw]
    unfold Ieee.Format.read
    simp only [sg_sign, sg_bin, sg_inf, sg_least]
    rw [e1, e2]
    split
    · exact ⟨_, _, rfl⟩
    · exact ⟨_, _, rfl⟩
  obtain ⟨m, p, hr⟩ := hrd
  obtain ⟨h1, h2, h3, h4, h5, h6⟩ := single_read hr
  rw [hw, e1] at h6
  exact ⟨m, p, hr, h6, h1, h2, h4⟩

theorem few_of {m r : Nat} {p : Int} (h : (p + 149) * 8388608 + m = (r : Int)) (hr : r < 1191182336) (h1 : m < 16777216) (h2 : -149 ≤ p) (h3 : m < 8388608 → p = -149) : Few m p ∧ m / 2 ^ (-p).toNat ≤ 32767 := by
  have hp : p ≤ -9 := by
    rcases Nat.lt_or_ge m 8388608 with h | h
    · have := h3 h; omega
    · omega
  have hN : m / 2 ^ (-p).toNat ≤ 32767 := by
    have e : (-p).toNat = 9 + ((-p).toNat - 9) := by omega
    rw [e, Nat.pow_add, ← Nat.div_div_eq_div_mul]
    refine Nat.le_trans (Nat.div_le_self _ _) ?_
    have : m / 2 ^ 9 < 32768 := (Nat.div_lt_iff_lt_mul (by decide)).2 (by omega)
    omega
  exact ⟨⟨h1, h2, by omega, by omega, h3⟩, hN⟩

theorem up_lt {r : Nat} (hr : r ≤ 2139095040) (h : fcmp .lss .f32 (Ieee.single.word false r) (cn .f32 1191181824) = true) : r < 1191182336 := by
  rw [word_false] at h
  rcases Nat.lt_or_ge r 8388608 with h1 | h1
  · omega
  · rcases Nat.lt_or_ge r 2139095040 with h2 | h2
    · rw [lt_norm h1 h2 (by decide) (by decide)] at h
      have := of_decide_eq_true h
      omega
    · obtain rfl : r = 2139095040 := by omega
      exact absurd h (by decide)

theorem cmpI_neg (A B : Int) : compare (-A) (-B) = compare B A := by
  rcases Int.lt_trichotomy A B with h | h | h
  · rw [cmpI_gt (by omega), cmpI_gt h]
  · subst h; rw [cmpI_eq, cmpI_eq]
  · rw [cmpI_lt (by omega), cmpI_lt h]

theorem dn_lt {r : Nat} (hr : r ≤ 2139095040) (h : fcmp .gtr .f32 (Ieee.single.word true r) (cn .f32 3338665984) = true) : r < 1191182336 := by
  rcases Nat.lt_or_ge r 1191182336 with h1 | h1
  · exact h1
  · exfalso
    have ec : cn .f32 3338665984 = 3338665984 := by decide
    rcases Nat.lt_or_ge r 2139095040 with h2 | h2
    · have hc : Ieee.single.read 3338665984 = .number true 8388608 (-8) := by decide
      have hcp : Ieee.single.read 1191182336 = .number false 8388608 (-8) := by decide
      obtain ⟨m, p, q1, q2, q3, q4, q5⟩ := read_word (s := true) h2
      obtain ⟨m', p', r1, r2, r3, r4, r5⟩ := read_word (s := false) h2
      have hpp : p = p' ∧ m = m' := by
        rcases Nat.lt_or_ge m 8388608 with a | a <;> rcases Nat.lt_or_ge m' 8388608 with b | b
        · have := q5 a; have := r5 b; constructor <;> omega
        · have := q5 a; constructor <;> omega
        · have := r5 b; constructor <;> omega
        · constructor <;> omega
      obtain ⟨rfl, rfl⟩ := hpp
      rw [word_false] at r1
      have hord := order_norm (b := r) (c := 1191182336) (by omega) h2 (by decide) (by decide)
      have ho : FloatKind.f32.format.order r 1191182336 = (Ieee.single.read r).order (Ieee.single.read 1191182336) := rfl
      rw [ho, r1, hcp] at hord
      simp only [Ieee.Datum.order, signed_f] at hord
      rw [ec] at h
      simp only [fcmp] at h
      have ho2 : FloatKind.f32.format.order (Ieee.single.word true r) 3338665984 = (Ieee.single.read (Ieee.single.word true r)).order (Ieee.single.read 3338665984) := rfl
      rw [ho2, q1, hc] at h
      simp only [Ieee.Datum.order, signed_t] at h
      rw [cmpI_neg] at h
      simp only [Option.some.injEq] at hord
      generalize ((m * 2 ^ (p - min p (-8)).toNat : Nat) : Int) = A at *
      generalize ((8388608 * 2 ^ (-8 - min p (-8)).toNat : Nat) : Int) = B at *
      rcases Int.lt_trichotomy A B with k | k | k
      · rw [cmpI_lt k] at hord
        rcases Nat.lt_or_ge 1191182336 r with e | e
        · rw [cmpN_gt e] at hord; cases hord
        · obtain rfl : r = 1191182336 := by omega
          rw [cmpN_eq] at hord; cases hord
      · subst k; rw [cmpI_eq] at h; simp at h
      · rw [cmpI_lt k] at h; simp at h
    · obtain rfl : r = 2139095040 := by omega
      exact absurd h (by decide)

end Go.Proofs.Ytngfhggdombdgaa
