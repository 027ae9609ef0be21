/- The operations of the model do what the generator says: the operations that keep what is known of the heap. -/
import Derived.Test.YtdhoaehiocbjaaaVcSound
set_option linter.all false
namespace Go.Vc
open Go Go.Fl

section
variable {P : Program} {N : Nat} {M : Nat → Prop} {w0 : World} {ρ : Env} {a : Act} {h : Hp} {k : Value → Prop} {Rf : Nat → Array Value → Value → Prop} {w : World}

theorem rel_val {s : Sem Value} {v : Value} {w' : World} (hr : s.run P w = .ok v w') (H : Holds M w0 h w') (hk : k v) :
    relUpon P (Holds M w0 h) Rf k ((do pure (Next.value (← s)) : Sem Next).run P w) := by
  simp only [Sem.run_bind, hr, Result.andThen_ok, Sem.run_pure]
  exact ⟨H, hk⟩

theorem run_info {t : Nat} {i : TypeInfo} (hi : P.info? t = some i) : (typeInfo t).run P w = .ok i w := by
  simp [typeInfo, program, Sem.run, hi]

theorem run_size {t n : Nat} (hn : sizeN P t = some n) : (sizeOf t).run P w = .ok n w := by
  unfold sizeN at hn
  cases hi : P.info? t with
  | none => simp [hi] at hn
  | some i =>
    simp [hi] at hn
    subst hn
    simp [sizeOf, run_info hi]

theorem aggN_some {t m : Nat} (hn : aggN P t = some (some m)) : (isAgg t).run P w = .ok true w ∧ (sizeOf t).run P w = .ok m w ∧ ∃ d, P.underlying t = some d ∧ d.isRow = true ∧ (P.info? t).map (·.size) = some m := by
  unfold aggN at hn
  split at hn
  · rename_i d i h1 h2
    cases hn
    exact ⟨by simp [isAgg, run_underlying h1], by simp [sizeOf, run_info h2], _, h1, rfl, by simp [h2]⟩
  · rename_i d i h1 h2
    cases hn
    exact ⟨by simp [isAgg, run_underlying h1], by simp [sizeOf, run_info h2], _, h1, rfl, by simp [h2]⟩
  · cases hn
  · cases hn

theorem aggN_none {t : Nat} (hn : aggN P t = some none) : (isAgg t).run P w = .ok false w := by
  unfold aggN at hn
  split at hn
  · cases hn
  · cases hn
  · rename_i d i n1 n2 h1 h2
    unfold isAgg
    rw [Sem.run_bind, run_underlying h1]
    cases d <;> first
      | rfl
      | exact (n1 _ rfl).elim
      | exact (n2 _ _ rfl).elim
  · cases hn

/-- what lies in a block -/
theorem cell_of {x : Blk} {off : Nat} (hx : w.heap[x.base]? = some (.cells x.cells x.elem (0, 0))) : w.cell? ⟨x.base, off, none⟩ = x.cells[off]? := by
  simp [World.cell?, hx]

theorem run_loadVar_blk {x : Blk} {t off : Nat} {n : Option Nat} {k : Value → Prop} (hx : w.heap[x.base]? = some (.cells x.cells x.elem (0, 0))) (hn : aggN P t = some n) (hk : getN n x.cells off k) :
    ∃ v, (loadVar t ⟨x.base, off, none⟩).run P w = .ok v w ∧ k v := by
  cases n with
  | some m =>
    obtain ⟨hle, hk⟩ := hk
    obtain ⟨h1, h2, d, h3, h4, h5⟩ := aggN_some (w := w) hn
    refine ⟨_, ?_, hk⟩
    have hlen : (x.cells.extract off (off + m)).toList.length = m := by simp; omega
    have := run_loadVar_mid (P := P) w x.base off t (x.cells.extract off (off + m)).toList d ?_ h3 h4 (by rw [hlen]; exact h5)
    · have e : (x.cells.extract off (off + m)).toList.toArray = x.cells.extract off (off + m) := Array.toArray_toList
      rw [e] at this; exact this
    · intro j v hj
      rw [cell_of hx]
      have hj' : j < m := by have := (List.getElem?_eq_some_iff.1 hj).1; omega
      simp only [Array.getElem?_toList, Array.getElem?_extract] at hj
      split at hj
      · exact hj
      · cases hj
  | none =>
    have h1 := aggN_none (w := w) hn
    unfold getN at hk
    cases hv : x.cells[off]? with
    | none => simp [hv] at hk
    | some v =>
      simp [hv] at hk
      refine ⟨v, ?_, hk⟩
      simp [loadVar, h1, cell_of hx, hv]

theorem run_part {t off : Nat} {n : Option Nat} {cs : Array Value} {k : Value → Prop} (hn : aggN P t = some n) (hk : getN n cs off k) :
    ∃ v, (part t cs off).run P w = .ok v w ∧ k v := by
  cases n with
  | some m =>
    obtain ⟨hle, hk⟩ := hk
    obtain ⟨h1, h2, _⟩ := aggN_some (w := w) hn
    exact ⟨_, by simp [part, h1, h2], hk⟩
  | none =>
    have h1 := aggN_none (w := w) hn
    unfold getN at hk
    cases hv : cs[off]? with
    | none => simp [hv] at hk
    | some v =>
      simp [hv] at hk
      exact ⟨v, by simp [part, h1, hv], hk⟩

theorem addr_add (b off n : Nat) : (⟨b, off, none⟩ : Addr).add n = ⟨b, off + n, none⟩ := by
  unfold Addr.add; split <;> simp_all

theorem run_fieldPlace {b off : Nat} {f : Field} {n : Nat} (hs : sizeN P f.type = some (n + 1)) : (fieldPlace ⟨b, off, none⟩ f).run P w = .ok ⟨b, off + f.offset, none⟩ w := by
  simp [fieldPlace, run_size hs, addr_add]

theorem eqGuard_int (op : BinOp) (t : Nat) (x y : Operand) (kx : IntKind) (a : Int) (b : Value) : (eqGuard op t x y (.int kx a) b).run P w = .ok () w := by
  unfold eqGuard; split <;> simp
theorem eqGuard_float (op : BinOp) (t : Nat) (x y : Operand) (kx : FloatKind) (a : Nat) (b : Value) : (eqGuard op t x y (.float kx a) b).run P w = .ok () w := by
  unfold eqGuard; split <;> simp
theorem eqGuard_string (op : BinOp) (t : Nat) (x y : Operand) (a : ByteArray) (b : Value) : (eqGuard op t x y (.string a) b).run P w = .ok () w := by
  unfold eqGuard; split <;> simp
theorem eqGuard_bool (op : BinOp) (t : Nat) (x y : Operand) (a : Bool) (b : Value) : (eqGuard op t x y (.bool a) b).run P w = .ok () w := by
  unfold eqGuard; split <;> simp

theorem run_vint {op : BinOp} {t : Nat} {kx : IntKind} {a b : Int} (h1 : op ≠ .shl) (h2 : op ≠ .shr) (hk : vint op kx a b k) : ∃ v, (binOp op t (.int kx a) (.int kx b)).run P w = .ok v w ∧ k v := by
  cases op <;> simp only [vint] at hk <;> first
    | (exfalso; exact h1 rfl)
    | (exfalso; exact h2 rfl)
    | exact hk.elim
    | (refine ⟨_, ?_, hk⟩; simp [binOp, Op.intArith]; done)
    | (refine ⟨_, ?_, hk.2⟩; simp [binOp, Op.intDiv, hk.1]; done)
    | (refine ⟨_, ?_, hk⟩; simp [binOp, Op.intBits, ibits]; done)
    | (refine ⟨_, ?_, hk⟩; simp [binOp, Op.intCmp]; done)

theorem run_vflo {op : BinOp} {t : Nat} {kx : FloatKind} {a b : Nat} (hk : vflo op kx a b k) : ∃ v n, (binOp op t (.float kx a) (.float kx b)).run P w = .ok v (w.drewN n) ∧ k v := by
  have arith : ∀ op, (op = .add ∨ op = .sub ∨ op = .mul ∨ op = .quo) → (∀ r, cn kx r = fop op kx (cn kx a) (cn kx b) → k (.float kx r)) → ∃ v n, (Op.floatArith op kx a b).run P w = .ok v (w.drewN n) ∧ k v := by
    intro op hop hk
    obtain ⟨r, n, hr, hc⟩ := run_floatArith (P := P) w op kx a b hop
    exact ⟨_, n, hr, hk r hc⟩
  cases op <;> simp only [vflo, fcmp_cn] at hk <;> first
    | exact hk.elim
    | (obtain ⟨v, n, h1, h2⟩ := arith _ (by simp) hk; exact ⟨v, n, by simpa [binOp] using h1, h2⟩)
    | (refine ⟨_, 0, ?_, hk⟩; simp [binOp, Op.floatCmp, fcmp, World.drewN]; done)

theorem str_add {n m : Nat} (h : n + m ≤ 9223372036854775807) : ¬ (((n + m : Nat) : Int) > IntKind.i64.max) := by
  have e : IntKind.i64.max = 9223372036854775807 := by decide
  rw [e]; omega

theorem run_vbin {op : BinOp} {t : Nat} {x y : Operand} {vx vy : Value} (hk : vbin op vx vy k) : ∃ v, (do eqGuard op t x y vx vy; binOp op t vx vy : Sem Value).run P w = .ok v w ∧ k v := by
  unfold vbin at hk
  split at hk
  · rename_i kx a ky b
    simp only [Sem.run_bind, eqGuard_int, Result.andThen_ok]
    split at hk
    · obtain ⟨h0, hk⟩ := hk
      exact ⟨_, by simp [binOp, Op.shift, Int.not_lt.2 h0], hk⟩
    · obtain ⟨h0, hk⟩ := hk
      exact ⟨_, by simp [binOp, Op.shift, Int.not_lt.2 h0], hk⟩
    · rename_i n1 n2
      obtain ⟨rfl, hk⟩ := hk
      obtain ⟨v, h1, h2⟩ := run_vint (P := P) (w := w) (t := t) n1 n2 hk
      exact ⟨v, h1, h2⟩
  · simp only [Sem.run_bind, eqGuard_string, Result.andThen_ok]
    cases op <;> simp only [vstr] at hk <;> first
      | exact hk.elim
      | (refine ⟨_, ?_, hk.2⟩
         simp only [binOp, Op.stringOp]
         rw [if_neg (str_add hk.1)]; rfl)
      | (refine ⟨_, ?_, hk⟩; simp [binOp, Op.stringOp]; done)
  · exact hk.elim

theorem run_vfbin {op : BinOp} {t : Nat} {x y : Operand} {vx vy : Value} (hk : vfbin op vx vy k) : ∃ v n, (do eqGuard op t x y vx vy; binOp op t vx vy : Sem Value).run P w = .ok v (w.drewN n) ∧ k v := by
  unfold vfbin at hk
  split at hk
  · obtain ⟨rfl, hk⟩ := hk
    simp only [Sem.run_bind, eqGuard_float, Result.andThen_ok]
    exact run_vflo hk
  · exact hk.elim

/-- the operation yields a value of the set, and has drawn n times -/
def ValN (P : Program) (k : Value → Prop) (w : World) (r : Result Next) (ex : Bool) : Prop := ∃ v n, r = .ok (.value v) (w.drewN n) ∧ k v ∧ (ex = true → n = 0)

theorem ex_val {s : Sem Value} {v : Value} {ex : Bool} (hr : s.run P w = .ok v w) (hk : k v) : ValN P k w ((do pure (Next.value (← s)) : Sem Next).run P w) ex :=
  ⟨v, 0, by simp only [Sem.run_bind, hr, Result.andThen_ok, Sem.run_pure]; rfl, hk, fun _ => rfl⟩

theorem ex_now {v : Value} {ex : Bool} (hk : k v) : ValN P k w (.ok (.value v) w) ex := ⟨v, 0, rfl, hk, fun _ => rfl⟩

theorem dr_val {s : Sem Value} {v : Value} {n : Nat} (hr : s.run P w = .ok v (w.drewN n)) (hk : k v) : ValN P k w ((do pure (Next.value (← s)) : Sem Next).run P w) false :=
  ⟨v, n, by simp only [Sem.run_bind, hr, Result.andThen_ok, Sem.run_pure], hk, fun h => by cases h⟩

end
end Go.Vc
