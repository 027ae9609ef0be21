/- LoggerOf: the digits before the point. -/
import Derived.Test.YtngfhggdombdgaaArg
namespace Go.Proofs.Ytngfhggdombdgaa
open Go Go.Fl Go.Vc
set_option linter.all false
set_option maxRecDepth 10000

/-- the digits before the point of a number with few of them -/
def tvF (s : Bool) (m : Nat) (p : Int) : Int := if s then -((m / 2 ^ (-p).toNat : Nat) : Int) else ((m / 2 ^ (-p).toNat : Nat) : Int)
def tv (u : Nat) : Int := match Ieee.single.read u with
  | .number s m p => tvF s m p
  | _ => 0

/-- ways that cut off all that is behind the point -/
def Cuts (way : Ieee.Toward) (s : Bool) : Prop := way = .zero ∨ (way = .down ∧ s = false) ∨ (way = .up ∧ s = true)

theorem cut_cuts {way : Ieee.Toward} {s : Bool} (hw : Cuts way s) (n d : Nat) : way.cut s n d = n / 2 ^ d := by
  have key : n / 1 <<< min d (n.log2 + 2) = n / 2 ^ d := by
    rw [Nat.one_shiftLeft]
    rcases Nat.le_total d (n.log2 + 2) with h | h
    · rw [Nat.min_eq_left h]
    · rw [Nat.min_eq_right h]
      have h1 : n < 2 ^ (n.log2 + 2) := Nat.lt_of_lt_of_le Nat.lt_log2_self (Nat.pow_le_pow_right (by decide) (by omega))
      rw [Nat.div_eq_of_lt h1, Nat.div_eq_of_lt (Nat.lt_of_lt_of_le h1 (Nat.pow_le_pow_right (by decide) h))]
  unfold Ieee.Toward.cut
  rcases hw with rfl | ⟨rfl, rfl⟩ | ⟨rfl, rfl⟩ <;> simp [key]

/-- what has few digits before the point -/
def Few (m : Nat) (p : Int) : Prop := m < 16777216 ∧ -149 ≤ p ∧ p ≤ 0 ∧ m / 2 ^ (-p).toNat ≤ 32768 ∧ (m < 8388608 → p = -149)

theorem signed0 (s : Bool) (n : Nat) : Ieee.signed s n 0 = if s then -(n : Int) else (n : Int) := by
  unfold Ieee.signed; rw [Nat.shiftLeft_zero]

theorem toInt_few {s : Bool} {m : Nat} {p : Int} (hp : p ≤ 0) : (Ieee.Datum.number s m p).toInt .zero = some (tvF s m p) := by
  unfold Ieee.Datum.toInt Ieee.Datum.integral
  simp only
  rw [cut_cuts (.inl rfl), show p.toNat = 0 by omega, Nat.shiftLeft_zero, signed0]
  unfold tvF
  rfl

theorem tvF_bound {s : Bool} {m : Nat} {p : Int} (h : Few m p) (hs : s = false → m / 2 ^ (-p).toNat ≤ 32767) : -32768 ≤ tvF s m p ∧ tvF s m p ≤ 32767 := by
  have h1 := h.2.2.2.1
  unfold tvF
  generalize m / 2 ^ (-p).toNat = N at *
  clear h
  cases s with
  | true => simp only [if_true]; constructor <;> omega
  | false => have := hs rfl; simp only [Bool.false_eq_true, if_false]; constructor <;> omega

theorem to32 {u : Nat} {s : Bool} {m : Nat} {p : Int} (hr : Ieee.single.read u = .number s m p) (h : Few m p) (hs : s = false → m / 2 ^ (-p).toNat ≤ 32767) : floatToIntVal .f32 u .i64 = some (tvF s m p) := by
  have hb := tvF_bound h hs
  unfold floatToIntVal
  have e : (FloatKind.f32.decode u).toInt .zero = some (tvF s m p) := by
    show (Ieee.single.read u).toInt .zero = _
    rw [hr]; exact toInt_few h.2.2.1
  rw [e]
  have h64 : IntKind.i64.min = -9223372036854775808 ∧ IntKind.i64.max = 9223372036854775807 := ⟨rfl, rfl⟩
  simp only
  rw [if_pos (by rw [h64.1, h64.2]; constructor <;> omega)]

/-- the word of a small whole number in double precision, read -/
theorem dbl_int {s : Bool} {n : Nat} (h : n ≤ 32768) : ∃ m p, Ieee.double.read (Ieee.double.nearest s n 0) = .number s m p ∧ p ≤ 0 ∧ m / 2 ^ (-p).toNat = n := by
  by_cases h0 : n = 0
  · subst h0
    refine ⟨0, -1074, ?_, by omega, Nat.zero_div _⟩
    unfold Ieee.Format.nearest
    rw [if_pos rfl]
    cases s <;> decide
  · have hl : n.log2 ≤ 23 := log2_le (k := 23) (by omega)
    refine ⟨_, _, widen_read (s := s) (m := n) (p := 0) (by omega) h0 ⟨by omega, by omega⟩, by omega, ?_⟩
    rw [show (-((0 : Int) - ((52 - n.log2 : Nat) : Int))).toNat = 52 - n.log2 by omega]
    exact Nat.mul_div_cancel _ (Nat.pow_pos (by decide))

theorem wide_num {u : Nat} {s : Bool} {m : Nat} {p : Int} (hr : Ieee.single.read u = .number s m p) : wideF u = cn .f64 (Ieee.double.nearest s m p) := by
  obtain ⟨h1, h2, h3, _⟩ := single_read hr
  have hfin := widen_fin (s := s) h1 ⟨h2, h3⟩
  have e1 : floatToFloatBits .f32 u .f64 = some (Ieee.double.nearest s m p) := by
    unfold floatToFloatBits; rw [if_neg (by decide)]
    show (match Ieee.single.read u with | .nan _ _ => none | .infinity s => some _ | .number s m e => if (Ieee.double.read (Ieee.double.nearest s m e)).isInfinity = true then none else some (Ieee.double.nearest s m e)) = _
    rw [hr]
    simp only
    rw [hfin]; simp
  unfold wideF fconv
  rw [e1, Option.getD_some]

/-- widened, made whole -/
theorem integ_num {way : Ieee.Toward} {u : Nat} {s : Bool} {m : Nat} {p : Int} (hr : Ieee.single.read u = .number s m p) (h : Few m p) (hw : Cuts way s) : integF way (wideF u) = Ieee.double.nearest s (m / 2 ^ (-p).toNat) 0 := by
  obtain ⟨h1, h2, h3, h4, h5⟩ := h
  rw [wide_num hr]
  obtain ⟨M, P, hrd, hP, hM⟩ : ∃ M P, Ieee.double.read (Ieee.double.nearest s m p) = .number s M P ∧ P ≤ 0 ∧ M / 2 ^ (-P).toNat = m / 2 ^ (-p).toNat := by
    by_cases h0 : m = 0
    · subst h0
      refine ⟨0, -1074, ?_, by omega, by rw [Nat.zero_div, Nat.zero_div]⟩
      unfold Ieee.Format.nearest
      rw [if_pos rfl]
      cases s <;> decide
    · have hl : m.log2 ≤ 23 := log2_le (k := 23) (by omega)
      refine ⟨_, _, widen_read (s := s) h1 h0 ⟨h2, by omega⟩, by omega, ?_⟩
      rw [show (-(p - ((52 - m.log2 : Nat) : Int))).toNat = (52 - m.log2) + (-p).toNat by omega, Nat.pow_add, ← Nat.div_div_eq_div_mul, Nat.mul_div_cancel _ (Nat.pow_pos (by decide))]
  have hn : nan .f64 (Ieee.double.nearest s m p) = false := num_of_read (k := .f64) hrd
  rw [cn_of_num hn]
  unfold integF
  rw [hn]
  simp only [Bool.false_eq_true, if_false]
  show Ieee.double.write ((Ieee.double.read (Ieee.double.nearest s m p)).integral way) = _
  rw [hrd]
  unfold Ieee.Datum.integral
  simp only
  rw [cut_cuts hw, show P.toNat = 0 by omega, Nat.shiftLeft_zero, hM]
  rfl

theorem to64 {way : Ieee.Toward} {u r : Nat} {s : Bool} {m : Nat} {p : Int} (hr : Ieee.single.read u = .number s m p) (h : Few m p) (hw : Cuts way s) (hs : s = false → m / 2 ^ (-p).toNat ≤ 32767) (hc : cn .f64 r = integF way (wideF u)) :
    floatToIntVal .f64 r .i16 = some (tvF s m p) := by
  have hb := tvF_bound h hs
  rw [integ_num hr h hw] at hc
  obtain ⟨M, P, hrd, hP, hM⟩ := dbl_int (s := s) h.2.2.2.1
  have hn : nan .f64 (Ieee.double.nearest s (m / 2 ^ (-p).toNat) 0) = false := num_of_read (k := .f64) hrd
  have hreq := cn_eq_num hc hn
  unfold floatToIntVal
  have e : (FloatKind.f64.decode r).toInt .zero = some (tvF s m p) := by
    show (Ieee.double.read r).toInt .zero = _
    rw [hreq, hrd, toInt_few hP]
    unfold tvF
    rw [hM]
  rw [e]
  have h16 : IntKind.i16.min = -32768 ∧ IntKind.i16.max = 32767 := ⟨rfl, rfl⟩
  simp only
  rw [if_pos (by rw [h16.1, h16.2]; constructor <;> omega)]

end Go.Proofs.Ytngfhggdombdgaa
