/- The operations of the model do what the generator says: the quiet ones. -/
import Derived.Test.YtnfipcfhnhhcmaaDoorVcOps
set_option linter.all false
namespace Go.Vc
open Go Go.Fl

theorem nan_of_rung (f : Ieee.Format) (x : Nat) (hb : f.binade ≤ f.infRung) (h : f.infRung < x % f.signWeight) : (f.read x).isNaN = true := by
  unfold Ieee.Format.read
  dsimp only
  rw [if_neg (by omega), if_neg (by omega), if_neg (by omega)]
  rfl

theorem single_inf : Ieee.single.infRung = 2139095040 := by decide
theorem single_sign : Ieee.single.signWeight = 2147483648 := by decide
theorem double_inf : Ieee.double.infRung = 9218868437227405312 := by decide
theorem double_sign : Ieee.double.signWeight = 9223372036854775808 := by decide

theorem nan_cut32 (t : Nat) : nan .f32 ((t % 2) * 2 ^ 31 + 0x7f800000 + 1 + (t / 2) % (2 ^ 23 - 1)) = true := by
  have h1 : t % 2 < 2 := Nat.mod_lt _ (by decide)
  have h2 : (t / 2) % (2 ^ 23 - 1) < 2 ^ 23 - 1 := Nat.mod_lt _ (by decide)
  generalize t % 2 = s at *
  generalize (t / 2) % (2 ^ 23 - 1) = m at *
  refine nan_of_rung Ieee.single _ (by decide) ?_
  rw [single_inf, single_sign]
  omega

theorem nan_cut64 (t : Nat) : nan .f64 ((t % 2) * 2 ^ 63 + 0x7ff0000000000000 + 1 + (t / 2) % (2 ^ 52 - 1)) = true := by
  have h1 : t % 2 < 2 := Nat.mod_lt _ (by decide)
  have h2 : (t / 2) % (2 ^ 52 - 1) < 2 ^ 52 - 1 := Nat.mod_lt _ (by decide)
  generalize t % 2 = s at *
  generalize (t / 2) % (2 ^ 52 - 1) = m at *
  refine nan_of_rung Ieee.double _ (by decide) ?_
  rw [double_inf, double_sign]
  omega

theorem nan_cut (q : Question) (kd : FloatKind) (t : Nat) (h : (∃ x y, q = .nanBits kd x y) ∨ (∃ x, q = .nanConv kd x) ∨ (∃ m x y, q = .nanMinMax kd m x y)) : nan kd (q.cut t) = true := by
  rcases h with ⟨x, y, rfl⟩ | ⟨x, rfl⟩ | ⟨m, x, y, rfl⟩ <;> cases kd <;> unfold Question.cut <;> first | with_reducible exact nan_cut32 t | with_reducible exact nan_cut64 t

/-- a word that was written of a number or an infinity is no NaN -/
theorem nan_write (kd : FloatKind) (d : Ieee.Datum) (h : d.isNaN = false) : nan kd (kd.format.write d) = false := by
  have hrd : ∀ (f : Ieee.Format) (neg : Bool) (rung : Nat), rung ≤ f.infRung → (f.read (f.word neg rung)).isNaN = false := by
    intro f neg rung hr
    have hlt := f.infRung_lt
    have hs : 0 < f.signWeight := Nat.two_pow_pos _
    have e : f.word neg rung % f.signWeight = rung := by
      unfold Ieee.Format.word
      split
      · rw [Nat.add_mod_left, Nat.mod_eq_of_lt (by omega)]
      · rw [Nat.mod_eq_of_lt (by omega)]
    unfold Ieee.Format.read
    simp only [e]
    split
    · rfl
    · split
      · rfl
      · rename_i h1 h2
        rw [if_pos (by omega)]
        rfl
  unfold nan Ieee.Format.write
  cases d with
  | nan s f => cases h
  | infinity s => exact hrd _ _ _ (Nat.le_refl _)
  | number s m p =>
    simp only [Ieee.Format.nearest]
    split
    · exact hrd _ _ _ (Nat.zero_le _)
    · exact hrd _ _ _ (Nat.min_le_right ..)

theorem cn_cn (k : FloatKind) (x : Nat) : cn k (cn k x) = cn k x := by
  unfold cn
  by_cases h : nan k x = true
  · rw [if_pos h, if_pos (nan_qn k)]
  · rw [if_neg h, if_neg h]

theorem map_write_nan {k : FloatKind} {d : Option Ieee.Datum} (hd : ∀ x, d = some x → x.isNaN = false) {r : Nat} (h : d.map k.format.write = some r) : nan k r = false := by
  cases d with
  | none => cases h
  | some d => cases h; exact nan_write k d (hd d rfl)

theorem sum_num (a b : Ieee.Datum) : ∀ x, a.sum b = some x → x.isNaN = false := by
  intro x h
  cases a <;> cases b <;> simp only [Ieee.Datum.sum] at h <;> first
    | (cases h; done)
    | (cases h; rfl)
    | (split at h <;> first | (cases h; done) | (cases h; rfl))

theorem product_num (a b : Ieee.Datum) : ∀ x, a.product b = some x → x.isNaN = false := by
  intro x h
  cases a <;> cases b <;> simp only [Ieee.Datum.product] at h <;> first
    | (cases h; done)
    | (cases h; rfl)
    | (split at h <;> first | (cases h; done) | (cases h; rfl))

theorem quotient_num (n : Nat) (a b : Ieee.Datum) : ∀ x, a.quotient n b = some x → x.isNaN = false := by
  intro x h
  cases a <;> cases b <;> simp only [Ieee.Datum.quotient] at h <;> first
    | (cases h; done)
    | (cases h; rfl)
    | (split at h <;> first | (cases h; rfl) | (split at h <;> first | (cases h; done) | (cases h; rfl)))

theorem floatBits_num {op : BinOp} {k : FloatKind} {x y r : Nat} (h : floatBits op k x y = some r) : nan k r = false := by
  cases op <;> simp only [floatBits] at h <;> first
    | (cases h; done)
    | exact map_write_nan (sum_num _ _) h
    | exact map_write_nan (product_num _ _) h
    | exact map_write_nan (quotient_num _ _ _) h

/-- what an arithmetic operation on floats yields -/
theorem run_floatArith {P : Program} (w : World) (op : BinOp) (k : FloatKind) (x y : Nat) (hop : op = .add ∨ op = .sub ∨ op = .mul ∨ op = .quo) :
    ∃ r n, (Op.floatArith op k x y).run P w = .ok (.float k r) (w.drewN n) ∧ cn k r = fop op k (cn k x) (cn k y) := by
  unfold fop
  rw [floatBits_cn]
  have hrun : (Op.floatArith op k x y).run P w = match floatBits op k x y with
      | some r => .ok (.float k r) w
      | none => .ok (.float k ((Question.nanBits k x y).cut (w.tape w.drawn (Question.nanBits k x y)))) (w.drewN 1) := by
    rcases hop with rfl | rfl | rfl | rfl <;> simp only [Op.floatArith, floatBits] <;> simp only [Sem.run_bind, Sem.run_pure, Result.andThen_ok] <;> split <;>
      simp_all [choose, Sem.run, Question.forced, World.drewN]
  rw [hrun]
  cases hb : floatBits op k x y with
  | some r => exact ⟨r, 0, rfl, cn_of_num (floatBits_num hb)⟩
  | none => exact ⟨_, 1, rfl, cn_of_nan (nan_cut _ _ _ (.inl ⟨_, _, rfl⟩))⟩

end Go.Vc
