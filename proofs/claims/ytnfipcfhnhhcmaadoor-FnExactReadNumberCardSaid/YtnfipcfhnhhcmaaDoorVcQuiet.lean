/- The operations of the model do what the generator says: the operations that keep what is known of the heap. -/
import Derived.Test.YtnfipcfhnhhcmaaDoorVcSound
set_option linter.all false
namespace Go.Vc
open Go Go.Fl

section
variable {P : Program} {N : Nat} {M : Nat → Prop} {w0 : World} {ρ : Env} {a : Act} {h : Hp} {k : Value → Prop} {Rf : Nat → Array Value → Value → Prop} {w : World}

theorem rel_val {s : Sem Value} {v : Value} {w' : World} (hr : s.run P w = .ok v w') (H : Holds M w0 h w') (hk : k v) :
    relUpon P (Holds M w0 h) Rf k ((do pure (Next.value (← s)) : Sem Next).run P w) := by
  simp only [Sem.run_bind, hr, Result.andThen_ok, Sem.run_pure]
  exact ⟨H, hk⟩

theorem run_info {t : Nat} {i : TypeInfo} (hi : P.info? t = some i) : (typeInfo t).run P w = .ok i w := by
  simp [typeInfo, program, Sem.run, hi]

theorem run_size {t n : Nat} (hn : sizeN P t = some n) : (sizeOf t).run P w = .ok n w := by
  unfold sizeN at hn
  cases hi : P.info? t with
  | none => simp [hi] at hn
  | some i =>
    simp [hi] at hn
    subst hn
    simp [sizeOf, run_info hi]

theorem aggN_some {t m : Nat} (hn : aggN P t = some (some m)) : (isAgg t).run P w = .ok true w ∧ (sizeOf t).run P w = .ok m w ∧ ∃ d, P.underlying t = some d ∧ d.isRow = true ∧ (P.info? t).map (·.size) = some m := by
  unfold aggN at hn
  split at hn
  · rename_i d i h1 h2
    cases hn
    exact ⟨by simp [isAgg, run_underlying h1], by simp [sizeOf, run_info h2], _, h1, rfl, by simp [h2]⟩
  · rename_i d i h1 h2
    cases hn
    exact ⟨by simp [isAgg, run_underlying h1], by simp [sizeOf, run_info h2], _, h1, rfl, by simp [h2]⟩
  · cases hn
  · cases hn

theorem aggN_none {t : Nat} (hn : aggN P t = some none) : (isAgg t).run P w = .ok false w := by
  unfold aggN at hn
  split at hn
  · cases hn
  · cases hn
  · rename_i d i n1 n2 h1 h2
    unfold isAgg
    rw [Sem.run_bind, run_underlying h1]
    cases d <;> first
      | rfl
      | exact (n1 _ rfl).elim
      | exact (n2 _ _ rfl).elim
  · cases hn

/-- what lies in a block -/
theorem cell_of {x : Blk} {off : Nat} (hx : Lay w x) : w.cell? ⟨x.base, off, none⟩ = x.cells[off]? := by
  obtain ⟨T, fz, hx, _⟩ := hx
  simp [World.cell?, hx]

theorem run_loadVar_blk {x : Blk} {t off : Nat} {n : Option Nat} {k : Value → Prop} (hx : Lay w x) (hn : aggN P t = some n) (hk : getN n x.cells off k) :
    ∃ v, (loadVar t ⟨x.base, off, none⟩).run P w = .ok v w ∧ k v := by
  cases n with
  | some m =>
    obtain ⟨hle, hk⟩ := hk
    obtain ⟨h1, h2, d, h3, h4, h5⟩ := aggN_some (w := w) hn
    refine ⟨_, ?_, hk⟩
    have hlen : (x.cells.extract off (off + m)).toList.length = m := by simp; omega
    have := run_loadVar_mid (P := P) w x.base off t (x.cells.extract off (off + m)).toList d ?_ h3 h4 (by rw [hlen]; exact h5)
    · have e : (x.cells.extract off (off + m)).toList.toArray = x.cells.extract off (off + m) := Array.toArray_toList
      rw [e] at this; exact this
    · intro j v hj
      rw [cell_of hx]
      have hj' : j < m := by have := (List.getElem?_eq_some_iff.1 hj).1; omega
      simp only [Array.getElem?_toList, Array.getElem?_extract] at hj
      split at hj
      · exact hj
      · cases hj
  | none =>
    have h1 := aggN_none (w := w) hn
    unfold getN at hk
    cases hv : x.cells[off]? with
    | none => simp [hv] at hk
    | some v =>
      simp [hv] at hk
      refine ⟨v, ?_, hk⟩
      simp [loadVar, h1, cell_of hx, hv]

theorem run_part {t off : Nat} {n : Option Nat} {cs : Array Value} {k : Value → Prop} (hn : aggN P t = some n) (hk : getN n cs off k) :
    ∃ v, (part t cs off).run P w = .ok v w ∧ k v := by
  cases n with
  | some m =>
    obtain ⟨hle, hk⟩ := hk
    obtain ⟨h1, h2, _⟩ := aggN_some (w := w) hn
    exact ⟨_, by simp [part, h1, h2], hk⟩
  | none =>
    have h1 := aggN_none (w := w) hn
    unfold getN at hk
    cases hv : cs[off]? with
    | none => simp [hv] at hk
    | some v =>
      simp [hv] at hk
      exact ⟨v, by simp [part, h1, hv], hk⟩

theorem addr_add (b off n : Nat) : (⟨b, off, none⟩ : Addr).add n = ⟨b, off + n, none⟩ := by
  unfold Addr.add; split <;> simp_all

theorem run_fieldPlace {b off : Nat} {f : Field} {n : Nat} (hs : sizeN P f.type = some (n + 1)) : (fieldPlace ⟨b, off, none⟩ f).run P w = .ok ⟨b, off + f.offset, none⟩ w := by
  simp [fieldPlace, run_size hs, addr_add]

theorem eqGuard_int (op : BinOp) (t : Nat) (x y : Operand) (kx : IntKind) (a : Int) (b : Value) : (eqGuard op t x y (.int kx a) b).run P w = .ok () w := by
  unfold eqGuard; split <;> simp
theorem eqGuard_float (op : BinOp) (t : Nat) (x y : Operand) (kx : FloatKind) (a : Nat) (b : Value) : (eqGuard op t x y (.float kx a) b).run P w = .ok () w := by
  unfold eqGuard; split <;> simp
theorem eqGuard_string (op : BinOp) (t : Nat) (x y : Operand) (a : ByteArray) (b : Value) : (eqGuard op t x y (.string a) b).run P w = .ok () w := by
  unfold eqGuard; split <;> simp
theorem eqGuard_bool (op : BinOp) (t : Nat) (x y : Operand) (a : Bool) (b : Value) : (eqGuard op t x y (.bool a) b).run P w = .ok () w := by
  unfold eqGuard; split <;> simp

theorem run_vint {op : BinOp} {t : Nat} {kx : IntKind} {a b : Int} (h1 : op ≠ .shl) (h2 : op ≠ .shr) (hk : vint op kx a b k) : ∃ v, (binOp op t (.int kx a) (.int kx b)).run P w = .ok v w ∧ k v := by
  cases op <;> simp only [vint] at hk <;> first
    | (exfalso; exact h1 rfl)
    | (exfalso; exact h2 rfl)
    | exact hk.elim
    | (refine ⟨_, ?_, hk⟩; simp [binOp, Op.intArith]; done)
    | (refine ⟨_, ?_, hk.2⟩; simp [binOp, Op.intDiv, hk.1]; done)
    | (refine ⟨_, ?_, hk⟩; simp [binOp, Op.intBits, ibits]; done)
    | (refine ⟨_, ?_, hk⟩; simp [binOp, Op.intCmp]; done)

theorem run_vflo {op : BinOp} {t : Nat} {kx : FloatKind} {a b : Nat} (hk : vflo op kx a b k) : ∃ v n, (binOp op t (.float kx a) (.float kx b)).run P w = .ok v (w.drewN n) ∧ k v := by
  have arith : ∀ op, (op = .add ∨ op = .sub ∨ op = .mul ∨ op = .quo) → (∀ r, cn kx r = fop op kx (cn kx a) (cn kx b) → k (.float kx r)) → ∃ v n, (Op.floatArith op kx a b).run P w = .ok v (w.drewN n) ∧ k v := by
    intro op hop hk
    obtain ⟨r, n, hr, hc⟩ := run_floatArith (P := P) w op kx a b hop
    exact ⟨_, n, hr, hk r hc⟩
  cases op <;> simp only [vflo, fcmp_cn] at hk <;> first
    | exact hk.elim
    | (obtain ⟨v, n, h1, h2⟩ := arith _ (by simp) hk; exact ⟨v, n, by simpa [binOp] using h1, h2⟩)
    | (refine ⟨_, 0, ?_, hk⟩; simp [binOp, Op.floatCmp, fcmp, World.drewN]; done)

theorem str_add {n m : Nat} (h : n + m ≤ 9223372036854775807) : ¬ (((n + m : Nat) : Int) > IntKind.i64.max) := by
  have e : IntKind.i64.max = 9223372036854775807 := by decide
  rw [e]; omega

theorem run_vbin {op : BinOp} {t : Nat} {x y : Operand} {vx vy : Value} (hk : vbin op vx vy k) : ∃ v, (do eqGuard op t x y vx vy; binOp op t vx vy : Sem Value).run P w = .ok v w ∧ k v := by
  unfold vbin at hk
  split at hk
  · rename_i kx a ky b
    simp only [Sem.run_bind, eqGuard_int, Result.andThen_ok]
    split at hk
    · obtain ⟨h0, hk⟩ := hk
      exact ⟨_, by simp [binOp, Op.shift, Int.not_lt.2 h0], hk⟩
    · obtain ⟨h0, hk⟩ := hk
      exact ⟨_, by simp [binOp, Op.shift, Int.not_lt.2 h0], hk⟩
    · rename_i n1 n2
      obtain ⟨rfl, hk⟩ := hk
      obtain ⟨v, h1, h2⟩ := run_vint (P := P) (w := w) (t := t) n1 n2 hk
      exact ⟨v, h1, h2⟩
  · simp only [Sem.run_bind, eqGuard_string, Result.andThen_ok]
    cases op <;> simp only [vstr] at hk <;> first
      | exact hk.elim
      | (refine ⟨_, ?_, hk.2⟩
         simp only [binOp, Op.stringOp]
         rw [if_neg (str_add hk.1)]; rfl)
      | (refine ⟨_, ?_, hk⟩; simp [binOp, Op.stringOp]; done)
  · exact hk.elim

theorem run_vfbin {op : BinOp} {t : Nat} {x y : Operand} {vx vy : Value} (hk : vfbin op vx vy k) : ∃ v n, (do eqGuard op t x y vx vy; binOp op t vx vy : Sem Value).run P w = .ok v (w.drewN n) ∧ k v := by
  unfold vfbin at hk
  split at hk
  · obtain ⟨rfl, hk⟩ := hk
    simp only [Sem.run_bind, eqGuard_float, Result.andThen_ok]
    exact run_vflo hk
  · exact hk.elim

theorem isInt_agg {t : Nat} (h : isIntT P t = true) : aggN P t = some none ∧ ∃ k, P.underlying t = some (.int k) := by
  unfold isIntT at h
  split at h
  · rename_i kd i h1 h2
    exact ⟨by simp [aggN, h1, h2], kd, h1⟩
  · cases h

theorem run_aeq {t : Nat} {fs : Array Field} (hu : P.underlying t = some (.struct fs)) (he : eq2 P t fs.toList = true) {p q : IntKind} {a b a' b' : Int} :
    (Op.equalIn 10000 t (.agg #[.int p a, .int q b]) (.agg #[.int p a', .int q b'])).run P w = .ok (a == a' && b == b') w := by
  unfold eq2 at he
  split at he
  · rename_i f f' hfs
    simp only [Bool.and_eq_true, bne_iff_ne, beq_iff_eq, Bool.not_eq_true'] at he
    obtain ⟨⟨⟨⟨⟨⟨⟨h1, h2⟩, h3⟩, h4⟩, h5⟩, h6⟩, h7⟩, h8⟩ := he
    obtain ⟨g1, k1, u1⟩ := isInt_agg h5
    obtain ⟨g2, k2, u2⟩ := isInt_agg h6
    have hF : P.fieldsOf t = fs := by simp [Program.fieldsOf, hu]
    have pt : ∀ (t : Nat) (cs : Array Value) (off : Nat) (v : Value), aggN P t = some none → cs[off]? = some v → (part t cs off).run P w = .ok v w := by
      intro t cs off v hn hv
      obtain ⟨u, hr, hk⟩ := run_part (P := P) (w := w) (t := t) (off := off) (cs := cs) (k := (· = v)) hn (by simp [getN, hv])
      rw [hr, hk]
    rw [show (10000 : Nat) = 9999 + 1 from rfl, run_equalIn_struct w 9999 t _ _ (by rw [hF]; exact hu) h7, hF, hfs]
    simp only [Op.eqFields, h1, h2, ne_eq, not_false_eq_true, if_true, Sem.run_bind, h3, h4]
    rw [pt f.type _ 0 (.int p a) g1 rfl]
    simp only [Result.andThen_ok]
    rw [pt f.type _ 0 (.int p a') g1 rfl]
    simp only [Result.andThen_ok]
    rw [show (9999 : Nat) = 9998 + 1 from rfl, run_equalIn_int w 9998 f.type p k1 a a' u1]
    simp only [Result.andThen_ok]
    cases hab : a == a' with
    | false => simp
    | true =>
      simp only [Bool.not_true, Bool.false_eq_true, if_false, Sem.run_bind]
      rw [pt f'.type _ 1 (.int q b) g2 rfl]
      simp only [Result.andThen_ok]
      rw [pt f'.type _ 1 (.int q b') g2 rfl]
      simp only [Result.andThen_ok]
      rw [run_equalIn_int w 9998 f'.type q k2 b b' u2]
      simp only [Result.andThen_ok]
      cases hbb : b == b' <;> simp
  · cases he

theorem eq2_guard {t : Nat} {fs : List Field} (he : eq2 P t fs = true) : P.eqGuardType P.depth t = false := by
  unfold eq2 at he
  split at he
  · simp only [Bool.and_eq_true, Bool.not_eq_true'] at he; exact he.2
  · cases he

theorem run_vaeq {t : Nat} {x y : Operand} {vx vy : Value} {fs : Array Field} {op : BinOp} {ne : Bool} (hop : op = (if ne then BinOp.neq else BinOp.eql)) (hu : P.underlying t = some (.struct fs)) (he : eq2 P t fs.toList = true) (hk : vaeq ne vx vy k) :
    ∃ v, (do eqGuard op t x y vx vy; binOp op t vx vy : Sem Value).run P w = .ok v w ∧ k v := by
  cases vx <;> first | exact hk.elim | skip
  case agg cs =>
    cases vy <;> first | exact hk.elim | skip
    case agg ds =>
      simp only [vaeq] at hk
      split at hk
      · rename_i p a q b p' a' q' b' hcs hds
        obtain ⟨⟨rfl, rfl⟩, hk⟩ := hk
        have e1 : cs = #[.int p a, .int q b] := by rw [← Array.toList_inj]; simpa using hcs
        have e2 : ds = #[.int p a', .int q b'] := by rw [← Array.toList_inj]; simpa using hds
        subst e1 e2
        refine ⟨_, ?_, hk⟩
        rw [Sem.run_bind, run_eqGuard_agg w op t x y _ _ (eq2_guard he), Result.andThen_ok]
        cases ne
        · simp only [Bool.false_eq_true, if_false] at hop; subst hop
          rw [run_eql_struct, run_aeq hu he]; rfl
        · simp only [if_true] at hop; subst hop
          rw [run_neq_struct, run_aeq hu he]; rfl
      · exact hk.elim

theorem run_vsnil {t e : Nat} {x y : Operand} {vx : Value} {a b : Nat} (hu : P.underlying t = some (.slice e)) (hk : vsnil vx k) :
    ∃ v, (do eqGuard .eql t x y vx (.slice none a b); binOp .eql t vx (.slice none a b) : Sem Value).run P w = .ok v w ∧ k v := by
  unfold vsnil at hk
  split at hk
  · rename_i p n c
    refine ⟨_, ?_, hk⟩
    have g : (eqGuard .eql t x y (.slice p n c) (.slice none a b)).run P w = .ok () w := by unfold eqGuard; simp
    rw [Sem.run_bind, g, Result.andThen_ok]
    have e : ∀ d, (Op.equalIn (d + 1) t (.slice p n c) (.slice none a b)).run P w = .ok p.isNone w := fun d => by
      cases p <;> simp [Op.equalIn, run_underlying hu]
    show (do pure (.bool (← Op.equal t (.slice p n c) (.slice none a b))) : Sem Value).run P w = _
    rw [Sem.run_bind, show Op.equal t (.slice p n c) (.slice none a b) = Op.equalIn (9999 + 1) t (.slice p n c) (.slice none a b) from rfl, e 9999]; rfl
  · exact hk.elim

theorem run_vfmax {ts : Array TypeId} {t : TypeId} {x y : Value} (hk : vfmax x y k) : ∃ v n, (Builtin.max_ ts t #[x, y]).run P w = .ok v (w.drewN n) ∧ k v := by
  unfold vfmax at hk
  split at hk
  · rename_i kx a ky b
    obtain ⟨rfl, hk⟩ := hk
    have hm : (Builtin.max_ ts t #[.float kx a, .float kx b]).run P w = (Builtin.max2 (.float kx a) (.float kx b)).run P w := by
      simp [Builtin.max_]
    rw [hm]
    unfold fmaxF at hk
    rw [order_cn] at hk
    unfold Builtin.max2
    cases ho : kx.format.order a b with
    | none =>
      simp only [ho] at hk ⊢
      refine ⟨.float kx ((Question.nanMinMax kx true a b).cut (w.tape w.drawn (Question.nanMinMax kx true a b))), 1, ?_, hk _ ?_⟩
      · simp [choose, Sem.run, Question.forced, World.drewN]
      · exact cn_of_nan (nan_cut _ _ _ (.inr (.inr ⟨_, _, _, rfl⟩)))
    | some o =>
      have hna : nan kx a = false := by
        cases hn : nan kx a with
        | false => rfl
        | true => obtain ⟨s, f, hr⟩ := read_nan hn; simp [Ieee.Format.order, hr, Ieee.Datum.order] at ho
      cases o with
      | lt => simp only [ho] at hk ⊢; exact ⟨_, 0, rfl, hk b rfl⟩
      | gt => simp only [ho] at hk ⊢; exact ⟨_, 0, rfl, hk a rfl⟩
      | eq =>
        simp only [ho, cn_of_num hna] at hk ⊢
        refine ⟨_, 0, rfl, hk _ ?_⟩
        split
        · rfl
        · exact cn_of_num hna
  · exact hk.elim

theorem nan_word_quiet {s : Bool} {f : Nat} : nan .f64 (FloatKind.f64.encode (.nan s (FloatKind.f64.format.quiet f))) = true := by
  refine nan_of_rung Ieee.double _ (by decide) ?_
  show Ieee.double.infRung < Ieee.double.word s (Ieee.double.infRung + (f ||| 2 ^ 51) % 2 ^ 52) % Ieee.double.signWeight
  have hq : 0 < (f ||| 2 ^ 51) % 2 ^ 52 := by
    refine Nat.pos_of_ne_zero fun e => ?_
    have h1 : ((f ||| 2 ^ 51) % 2 ^ 52).testBit 51 = true := by
      rw [Nat.testBit_mod_two_pow, Nat.testBit_or, Nat.testBit_two_pow]; simp
    rw [e] at h1
    simp at h1
  have hl : (f ||| 2 ^ 51) % 2 ^ 52 < 2 ^ 52 := Nat.mod_lt _ (by decide)
  generalize (f ||| 2 ^ 51) % 2 ^ 52 = q at *
  unfold Ieee.Format.word
  rw [double_inf, double_sign]
  cases s <;> simp <;> omega

theorem run_vinteg {name : String} {way : Ieee.Toward} {x : Value} (hk : vinteg way x k) : ∃ v n, (Extern.MathFloor.toIntegral name way #[x]).run P w = .ok v (w.drewN n) ∧ k v := by
  unfold vinteg at hk
  split at hk
  · rename_i b
    have hdef : Extern.MathFloor.toIntegral name way #[.float .f64 b] = (match FloatKind.f64.decode b with
      | .nan s t =>
        if FloatKind.f64.format.quiet t = t then pure (.float .f64 b) else do
        let kept ← choose (.extern "math.Floor,Ceil,Trunc,RoundToEven.signallingNaN kept" 2)
        pure (.float .f64 (if kept == 1 then b else FloatKind.f64.encode (.nan s (FloatKind.f64.format.quiet t))))
      | d => pure (.float .f64 (FloatKind.f64.encode (d.integral way)))) := rfl
    rw [hdef]
    cases hd : FloatKind.f64.decode b with
    | nan s t =>
      have hn : nan .f64 b = true := by unfold nan; rw [show FloatKind.f64.format.read b = .nan s t from hd]; rfl
      have hg : integF way (cn .f64 b) = qn .f64 := by unfold integF; rw [cn_of_nan hn, nan_qn, if_pos rfl]
      rw [hg] at hk
      simp only
      split
      · exact ⟨_, 0, rfl, hk b (cn_of_nan hn)⟩
      · refine ⟨_, 1, by simp [choose, Sem.run, Question.forced, World.drewN]; rfl, hk _ ?_⟩
        split
        · exact cn_of_nan hn
        · exact cn_of_nan nan_word_quiet
    | infinity s =>
      have hn : nan .f64 b = false := by unfold nan; rw [show FloatKind.f64.format.read b = .infinity s from hd]; rfl
      refine ⟨_, 0, rfl, hk _ ?_⟩
      have hw : nan .f64 (FloatKind.f64.encode ((Ieee.Datum.infinity s).integral way)) = false := nan_write .f64 ((Ieee.Datum.infinity s).integral way) rfl
      rw [cn_of_num hw, cn_of_num hn]
      unfold integF; rw [hn, hd, if_neg (by decide)]
    | number s m e =>
      have hn : nan .f64 b = false := by unfold nan; rw [show FloatKind.f64.format.read b = .number s m e from hd]; rfl
      refine ⟨_, 0, rfl, hk _ ?_⟩
      have hw : nan .f64 (FloatKind.f64.encode ((Ieee.Datum.number s m e).integral way)) = false := nan_write .f64 ((Ieee.Datum.number s m e).integral way) rfl
      rw [cn_of_num hw, cn_of_num hn]
      unfold integF; rw [hn, hd, if_neg (by decide)]
  · exact hk.elim

/-- the operation yields a value of the set, and has drawn n times -/
def ValN (P : Program) (k : Value → Prop) (w : World) (r : Result Next) (ex : Bool) : Prop := ∃ v n, r = .ok (.value v) (w.drewN n) ∧ k v ∧ (ex = true → n = 0)

theorem ex_val {s : Sem Value} {v : Value} {ex : Bool} (hr : s.run P w = .ok v w) (hk : k v) : ValN P k w ((do pure (Next.value (← s)) : Sem Next).run P w) ex :=
  ⟨v, 0, by simp only [Sem.run_bind, hr, Result.andThen_ok, Sem.run_pure]; rfl, hk, fun _ => rfl⟩

theorem ex_now {v : Value} {ex : Bool} (hk : k v) : ValN P k w (.ok (.value v) w) ex := ⟨v, 0, rfl, hk, fun _ => rfl⟩

theorem dr_val {s : Sem Value} {v : Value} {n : Nat} (hr : s.run P w = .ok v (w.drewN n)) (hk : k v) : ValN P k w ((do pure (Next.value (← s)) : Sem Next).run P w) false :=
  ⟨v, n, by simp only [Sem.run_bind, hr, Result.andThen_ok, Sem.run_pure], hk, fun h => by cases h⟩

end
end Go.Vc
