/- A number in single precision, widened to double precision: exact, never an infinity of its own. -/
import Derived.Test.YtnfipcfhnhhcmaaDoorFl
namespace Go.Fl
open Go
set_option linter.all false

theorem sg_sign : Ieee.single.signWeight = 2147483648 := by decide
theorem sg_bin : Ieee.single.binade = 8388608 := by decide
theorem sg_inf : Ieee.single.infRung = 2139095040 := by decide
theorem sg_least : Ieee.single.leastPlace = -149 := by decide
theorem db_sign : Ieee.double.signWeight = 9223372036854775808 := by decide
theorem db_bin : Ieee.double.binade = 4503599627370496 := by decide
theorem db_inf : Ieee.double.infRung = 9218868437227405312 := by decide
theorem db_least : Ieee.double.leastPlace = -1074 := by decide

/-- what a word of single precision stands for -/
theorem single_read {b : Nat} {s : Bool} {m : Nat} {p : Int} (h : Ieee.single.read b = .number s m p) :
    m < 16777216 ∧ -149 ≤ p ∧ p ≤ 104 ∧ (m < 8388608 → p = -149) ∧ (s = (b / 2147483648 % 2 == 1)) ∧ ((p + 149) * 8388608 + m = (b % 2147483648 : Nat)) := by
  unfold Ieee.Format.read at h
  simp only [sg_sign, sg_bin, sg_inf, sg_least] at h
  split at h
  · rename_i h1
    injection h with h2 h3 h4
    subst h2 h3 h4
    refine ⟨by omega, by omega, by omega, fun _ => rfl, rfl, by omega⟩
  · split at h
    · rename_i h1 h2
      injection h with h3 h4 h5
      subst h3 h4 h5
      have e := Nat.div_add_mod (b % 2147483648) 8388608
      have hl := Nat.mod_lt (b % 2147483648) (show 0 < 8388608 by decide)
      refine ⟨by omega, by omega, by omega, fun hm => by omega, rfl, by omega⟩
    · split at h <;> cases h

theorem log2_le {m k : Nat} (h : m < 2 ^ (k + 1)) : m.log2 ≤ k := by
  by_cases h0 : m = 0
  · subst h0; simp
  · have := (Nat.log2_lt h0).2 h
    omega

theorem cut_zero (way : Ieee.Toward) (neg : Bool) (n : Nat) (hw : way = .even) : way.cut neg n 0 = n := by
  subst hw
  simp [Ieee.Toward.cut]
  omega

/-- the word in double precision of a number of single precision -/
theorem widen_word {s : Bool} {m : Nat} {p : Int} (hm : m < 16777216) (h0 : m ≠ 0) (hp : -149 ≤ p ∧ p ≤ 104) :
    Ieee.double.nearest s m p = Ieee.double.word s ((p + m.log2 + 1022).toNat * 4503599627370496 + m * 2 ^ (52 - m.log2)) ∧
      4503599627370496 ≤ m * 2 ^ (52 - m.log2) ∧ m * 2 ^ (52 - m.log2) < 9007199254740992 ∧ m.log2 ≤ 23 := by
  have hL : m.log2 ≤ 23 := log2_le (by omega)
  have h1 : 2 ^ m.log2 ≤ m := Nat.log2_self_le h0
  have h2 : m < 2 ^ (m.log2 + 1) := Nat.lt_log2_self
  generalize hLe : m.log2 = L at *
  have hpow : 2 ^ L * 2 ^ (52 - L) = 4503599627370496 := by rw [← Nat.pow_add, show L + (52 - L) = 52 by omega]
  have hpow1 : 2 ^ (L + 1) * 2 ^ (52 - L) = 9007199254740992 := by rw [← Nat.pow_add, show L + 1 + (52 - L) = 53 by omega]
  have k1 : 4503599627370496 ≤ m * 2 ^ (52 - L) := by rw [← hpow]; exact Nat.mul_le_mul_right _ h1
  have k2 : m * 2 ^ (52 - L) < 9007199254740992 := by rw [← hpow1]; exact Nat.mul_lt_mul_of_pos_right h2 (Nat.pow_pos (by decide))
  refine ⟨?_, k1, k2, hL⟩
  unfold Ieee.Format.nearest
  rw [if_neg h0]
  simp only [db_least, db_bin, db_inf, hLe]
  have hlast : max (p + (L : Int) - (Ieee.double.fractionBits : Nat)) (-1074) = p + L - 52 := by
    show max (p + (L : Int) - 52) (-1074) = _
    omega
  rw [hlast]
  have e1 : (p - (p + (L : Int) - 52)).toNat = 52 - L := by omega
  have e2 : (p + (L : Int) - 52 - p).toNat = 0 := by omega
  rw [e1, e2, cut_zero _ _ _ rfl, Nat.shiftLeft_eq]
  have e3 : (p + (L : Int) - 52 - -1074).toNat = (p + L + 1022).toNat := by omega
  rw [e3, Nat.min_eq_left (by omega)]

theorem double_word_read {s : Bool} {E kept : Nat} (hE : E ≤ 1149) (h1 : 4503599627370496 ≤ kept) (h2 : kept < 9007199254740992) :
    Ieee.double.read (Ieee.double.word s (E * 4503599627370496 + kept)) = .number s kept (-1074 + E) := by
  unfold Ieee.Format.read Ieee.Format.word
  simp only [db_sign, db_bin, db_inf, db_least]
  generalize hr : E * 4503599627370496 + kept = rung
  have hlt : rung < 9218868437227405312 := by omega
  have hge : 4503599627370496 ≤ rung := by omega
  have e1 : (if s = true then 9223372036854775808 + rung else rung) % 9223372036854775808 = rung := by
    cases s
    · simp; omega
    · simp; omega
  have e2 : ((if s = true then 9223372036854775808 + rung else rung) / 9223372036854775808 % 2 == 1) = s := by
    cases s
    · have : rung / 9223372036854775808 = 0 := by omega
      simp [this]
    · have : (9223372036854775808 + rung) / 9223372036854775808 = 1 := by omega
      simp [this]
  rw [e1, e2, if_neg (by omega), if_pos hlt]
  have e3 : rung % 4503599627370496 = kept - 4503599627370496 := by omega
  have e4 : rung / 4503599627370496 = E + 1 := by omega
  rw [e3, e4, show 4503599627370496 + (kept - 4503599627370496) = kept by omega, show E + 1 - 1 = E by omega]

/-- .. read again: the same number, its magnitude with more digits -/
theorem widen_read {s : Bool} {m : Nat} {p : Int} (hm : m < 16777216) (h0 : m ≠ 0) (hp : -149 ≤ p ∧ p ≤ 104) :
    Ieee.double.read (Ieee.double.nearest s m p) = .number s (m * 2 ^ (52 - m.log2)) (p - (52 - m.log2 : Nat)) := by
  obtain ⟨h1, h2, h3, hL⟩ := widen_word (s := s) hm h0 hp
  rw [h1, double_word_read (by omega) h2 h3, show (-1074 + ((p + m.log2 + 1022).toNat : Int)) = p - (52 - m.log2 : Nat) by omega]

theorem widen_fin {s : Bool} {m : Nat} {p : Int} (hm : m < 16777216) (hp : -149 ≤ p ∧ p ≤ 104) : (Ieee.double.read (Ieee.double.nearest s m p)).isInfinity = false := by
  by_cases h0 : m = 0
  · subst h0
    unfold Ieee.Format.nearest
    rw [if_pos rfl]
    cases s <;> decide
  · rw [widen_read hm h0 hp]; rfl

/-- a float in single precision always has its word in double precision -/
theorem widen_ok (b : Nat) : nan .f32 b = true ∨ floatToFloatBits .f32 b .f64 ≠ none := by
  cases hr : Ieee.single.read b with
  | nan s f => left; show (Ieee.single.read b).isNaN = true; rw [hr]; rfl
  | infinity s =>
    right
    unfold floatToFloatBits
    rw [if_neg (by decide)]
    show (match Ieee.single.read b with | .nan _ _ => none | .infinity s => some _ | .number s m e => _) ≠ none
    rw [hr]; simp
  | number s m p =>
    right
    obtain ⟨h1, h2, h3, _⟩ := single_read hr
    unfold floatToFloatBits
    rw [if_neg (by decide)]
    have e : FloatKind.f32.decode b = .number s m p := hr
    rw [e]
    show (if (Ieee.double.read (Ieee.double.nearest s m p)).isInfinity = true then none else some _) ≠ none
    rw [widen_fin h1 ⟨h2, h3⟩]
    simp

end Go.Fl
