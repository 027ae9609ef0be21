/- One operation of the model does what the generator says. -/
import Derived.Test.YtnfipcfhnhhcmaaDoorVcQuiet
import Derived.Laws.Externs
import Derived.KernelRfl
set_option linter.all false
namespace Go.Vc
open Go Go.Fl

section
variable {P : Program} {N : Nat} {M : Nat → Prop} {w0 : World} {ρ : Env} {a : Act} {h : Hp} {Rf : Nat → Array Value → Value → Prop} {w : World}

theorem run_convF {k : Value → Prop} {s d : FloatKind} {b : Nat} (hk : (nan s b = true ∨ floatToFloatBits s b d ≠ none) ∧ ∀ r, cn d r = cn d (fconv s d (cn s b)) → k (.float d r)) :
    ∃ v n, (Conv.floatToFloat s b d).run P w = .ok v (w.drewN n) ∧ k v := by
  obtain ⟨ho, hk⟩ := hk
  unfold Conv.floatToFloat
  by_cases e : s = d
  · subst e
    refine ⟨_, 0, by rw [if_pos rfl]; rfl, hk b ?_⟩
    simp [fconv, floatToFloatBits, cn_cn]
  · rw [if_neg e]
    by_cases hn : nan s b = true
    · obtain ⟨sg, f, hr⟩ := read_nan hn
      simp only [FloatKind.decode, hr]
      refine ⟨.float d ((Question.nanConv d b).cut (w.tape w.drawn (Question.nanConv d b))), 1, ?_, hk _ ?_⟩
      · simp [choose, Sem.run, Question.forced, World.drewN]
      · rw [cn_of_nan (nan_cut _ _ _ (.inr (.inl ⟨_, rfl⟩))), cn_of_nan hn]
        obtain ⟨sg', f', hr'⟩ := read_nan (nan_qn s)
        simp [fconv, floatToFloatBits, e, FloatKind.decode, hr', cn_of_nan (nan_qn d)]
    · have hn' : nan s b = false := by simpa using hn
      have ho' := ho.resolve_left hn
      rw [cn_of_num hn'] at hk
      unfold floatToFloatBits fconv at *
      rw [if_neg e] at ho'
      unfold floatToFloatBits at hk
      rw [if_neg e] at hk
      cases hr : s.decode b with
      | nan sg f => simp [hr] at ho'
      | infinity sg =>
        simp only [hr, Option.getD_some] at hk
        exact ⟨_, 0, rfl, hk _ rfl⟩
      | number sg m p =>
        simp only [hr] at hk ho' ⊢
        by_cases hi : (d.decode (d.encode (.number sg m p))).isInfinity = true
        · rw [if_pos hi] at ho'; exact (ho' rfl).elim
        · rw [if_neg hi] at hk ⊢
          exact ⟨_, 0, rfl, hk _ rfl⟩

theorem ext_next (fn : Func) (n : String) (hn : n = "math.Float32bits" ∨ n = "math.Float64bits" ∨ n = "math.Float64frombits") (h1 : fn.name = n) (h2 : fn.origin = "") : Extern.findNext fn = none := by
  have e1 : Extern.allNextRows.lookup "math.Float32bits" = none := by kernel_rfl
  have e2 : Extern.allNextRows.lookup "" = none := by kernel_rfl
  have e3 : Extern.allNextRows.lookup "math.Float64bits" = none := by kernel_rfl
  have e4 : Extern.allNextRows.lookup "math.Float64frombits" = none := by kernel_rfl
  rcases hn with rfl | rfl | rfl <;> simp [Extern.findNext, h1, h2, e1, e2, e3, e4]

theorem f32bits_find (fn : Func) (h1 : fn.name = "math.Float32bits") : Extern.find fn = some Extern.MathFloatBits.float32bits := by
  have e1 : Extern.allGenericRows.lookup "math.Float32bits" = none := by kernel_rfl
  have e2 : Extern.allTypedRows.lookup "math.Float32bits" = none := by kernel_rfl
  have e3 : Extern.allRows.lookup "math.Float32bits" = some Extern.MathFloatBits.float32bits := by kernel_rfl
  simp [Extern.find, h1, e1, e2, e3]

theorem f64bits_find (fn : Func) (h1 : fn.name = "math.Float64bits") : Extern.find fn = some Extern.MathFloatBits.float64bits := by
  have e1 : Extern.allGenericRows.lookup "math.Float64bits" = none := by kernel_rfl
  have e2 : Extern.allTypedRows.lookup "math.Float64bits" = none := by kernel_rfl
  have e3 : Extern.allRows.lookup "math.Float64bits" = some Extern.MathFloatBits.float64bits := by kernel_rfl
  simp [Extern.find, h1, e1, e2, e3]

theorem f64from_find (fn : Func) (h1 : fn.name = "math.Float64frombits") : Extern.find fn = some Extern.MathFloatBits.float64frombits := by
  have e1 : Extern.allGenericRows.lookup "math.Float64frombits" = none := by kernel_rfl
  have e2 : Extern.allTypedRows.lookup "math.Float64frombits" = none := by kernel_rfl
  have e3 : Extern.allRows.lookup "math.Float64frombits" = some Extern.MathFloatBits.float64frombits := by kernel_rfl
  simp [Extern.find, h1, e1, e2, e3]

theorem run_ext {f : Nat} {n : String} (hx : isExt P f n = true) (hn : n = "math.Float32bits" ∨ n = "math.Float64bits" ∨ n = "math.Float64frombits") {e : Array Value → Sem Value}
    (he : ∀ fn : Func, fn.name = n → Extern.find fn = some e) (args : Array Value) : (callFunc f args).run P w = ((e args).run P w).andThen fun v w' => .ok (.value v) w' := by
  unfold isExt at hx
  split at hx
  · rename_i fn hfn
    simp only [Bool.and_eq_true, beq_iff_eq] at hx
    exact run_callFunc_extern hfn (by rw [hx.1.1]; rcases hn with rfl | rfl | rfl <;> decide) hx.2 (ext_next fn n hn hx.1.1 hx.1.2) (he fn hx.1.1) args w
  · cases hx

theorem ext_next2 (fn : Func) (n : String) (hn : n = "math.archFloor" ∨ n = "math.archCeil" ∨ n = "math.archTrunc") (h1 : fn.name = n) (h2 : fn.origin = "") : Extern.findNext fn = none := by
  have e1 : Extern.allNextRows.lookup "math.archFloor" = none := by kernel_rfl
  have e2 : Extern.allNextRows.lookup "" = none := by kernel_rfl
  have e3 : Extern.allNextRows.lookup "math.archCeil" = none := by kernel_rfl
  have e4 : Extern.allNextRows.lookup "math.archTrunc" = none := by kernel_rfl
  rcases hn with rfl | rfl | rfl <;> simp [Extern.findNext, h1, h2, e1, e2, e3, e4]

theorem floor_find (fn : Func) (h1 : fn.name = "math.archFloor") : Extern.find fn = some (Extern.MathFloor.toIntegral "math.archFloor" .down) := by
  have e1 : Extern.allGenericRows.lookup "math.archFloor" = none := by kernel_rfl
  have e2 : Extern.allTypedRows.lookup "math.archFloor" = none := by kernel_rfl
  have e3 : Extern.allRows.lookup "math.archFloor" = some (Extern.MathFloor.toIntegral "math.archFloor" .down) := by kernel_rfl
  simp [Extern.find, h1, e1, e2, e3]

theorem ceil_find (fn : Func) (h1 : fn.name = "math.archCeil") : Extern.find fn = some (Extern.MathFloor.toIntegral "math.archCeil" .up) := by
  have e1 : Extern.allGenericRows.lookup "math.archCeil" = none := by kernel_rfl
  have e2 : Extern.allTypedRows.lookup "math.archCeil" = none := by kernel_rfl
  have e3 : Extern.allRows.lookup "math.archCeil" = some (Extern.MathFloor.toIntegral "math.archCeil" .up) := by kernel_rfl
  simp [Extern.find, h1, e1, e2, e3]

theorem trunc_find (fn : Func) (h1 : fn.name = "math.archTrunc") : Extern.find fn = some (Extern.MathFloor.toIntegral "math.archTrunc" .zero) := by
  have e1 : Extern.allGenericRows.lookup "math.archTrunc" = none := by kernel_rfl
  have e2 : Extern.allTypedRows.lookup "math.archTrunc" = none := by kernel_rfl
  have e3 : Extern.allRows.lookup "math.archTrunc" = some (Extern.MathFloor.toIntegral "math.archTrunc" .zero) := by kernel_rfl
  simp [Extern.find, h1, e1, e2, e3]

theorem run_ext2 {f : Nat} {n : String} (hx : isExt P f n = true) (hn : n = "math.archFloor" ∨ n = "math.archCeil" ∨ n = "math.archTrunc") {e : Array Value → Sem Value}
    (he : ∀ fn : Func, fn.name = n → Extern.find fn = some e) (args : Array Value) : (callFunc f args).run P w = ((e args).run P w).andThen fun v w' => .ok (.value v) w' := by
  unfold isExt at hx
  split at hx
  · rename_i fn hfn
    simp only [Bool.and_eq_true, beq_iff_eq] at hx
    exact run_callFunc_extern hfn (by rw [hx.1.1]; rcases hn with rfl | rfl | rfl <;> decide) hx.2 (ext_next2 fn n hn hx.1.1 hx.1.2) (he fn hx.1.1) args w
  · cases hx

theorem run_enter {f : Nat} {args : Array Value} (hc : callable P f = true) : (callFunc f args).run P w = .ok (.enter f args) w := by
  unfold callable at hc
  cases hf : P.funcs[f]? with
  | none => simp [hf] at hc
  | some fn =>
    simp [hf] at hc
    obtain ⟨c, hb⟩ := Option.isSome_iff_exists.1 hc.2
    simp [callFunc, program, Sem.run, hf, hc.1, hb]

theorem run_equal_bool {t : Nat} (hu : P.underlying t = some .bool) (p q : Bool) : (Op.equal t (.bool p) (.bool q)).run P w = .ok (p == q) w := by
  show (Op.equalIn (9999 + 1) t (.bool p) (.bool q)).run P w = _
  unfold Op.equalIn
  simp only [Sem.run_bind, run_underlying hu, Result.andThen_ok]
  rfl

theorem run_eql_bool {t : Nat} (hu : P.underlying t = some .bool) (x y : Operand) (p q : Bool) : (do eqGuard .eql t x y (.bool p) (.bool q); binOp .eql t (.bool p) (.bool q) : Sem Value).run P w = .ok (.bool (p == q)) w := by
  rw [Sem.run_bind, eqGuard_bool, Result.andThen_ok]
  show (do pure (.bool (← Op.equal t (.bool p) (.bool q))) : Sem Value).run P w = _
  rw [Sem.run_bind, run_equal_bool hu]; rfl

theorem run_neq_bool {t : Nat} (hu : P.underlying t = some .bool) (x y : Operand) (p q : Bool) : (do eqGuard .neq t x y (.bool p) (.bool q); binOp .neq t (.bool p) (.bool q) : Sem Value).run P w = .ok (.bool (!(p == q))) w := by
  rw [Sem.run_bind, eqGuard_bool, Result.andThen_ok]
  show (do pure (.bool (!(← Op.equal t (.bool p) (.bool q)))) : Sem Value).run P w = _
  rw [Sem.run_bind, run_equal_bool hu]; rfl

/-- a call of a Go function by its number: what stood there -/
theorem cmp_call {o : Oper} {f : Nat} {args : List Operand} (hc : cmpOp P o = some (.call f args)) : ∃ (g : Unit) (c : Call), o.op = .call c ∧ c.callee = .value (.func f) ∧ callable P f = true ∧ c.args.toList = args := by
  unfold cmpOp at hc
  cases ho : o.op <;> simp only [ho] at hc
  case call c =>
    unfold cmpCall at hc
    split at hc
    case h_2 f' hcal =>
      split at hc
      · rename_i hcl
        cases hc
        exact ⟨(), c, rfl, hcal, hcl, rfl⟩
      · repeat' (first | (cases hc; done) | split at hc)
    all_goals (repeat' (first | (cases hc; done) | split at hc))
  all_goals (repeat' (first | (cases hc; done) | (exfalso; rename_i e; cases e; done) | (exfalso; rename_i e _; cases e; done) | (simp only [Option.map_eq_some_iff] at hc; obtain ⟨_, _, hc⟩ := hc) | split at hc))

theorem run_call {o : Oper} {c : Call} {f : Nat} {args : List Operand} (ho : o.op = .call c) (hcal : c.callee = .value (.func f)) (hcl : callable P f = true) (hfa : c.args.toList = args) :
    (execOp (Env.ev ρ) o).run P w = .ok (.enter f (args.map (Env.ev ρ)).toArray) w := by
  have e : (args.map (Env.ev ρ)).toArray = c.args.map (Env.ev ρ) := by rw [← hfa, ← Array.toList_map, Array.toArray_toList]
  rw [e, ← run_enter hcl]
  unfold execOp
  simp [ho, resolve, hcal, Deferred.ofValue, Env.ev, invoke]

/-- the known blocks lie in the world -/
def Lies (h : Hp) (w : World) : Prop := ∀ x ∈ h, Lay w x

theorem stepQ_val {k : Value → Prop} {o : Oper} {op : VO} (hc : cmpOp P o = some op) (hag : Agree N ρ a) (hs : stepQ P Rf op ρ h k) (hnc : ∀ f args, op ≠ .call f args) (H : Lies h w) :
    ValN P k w ((execOp a.eval o).run P w) op.exact := by
  have hev : a.eval = Env.ev ρ := funext hag.eval
  rw [hev]
  obtain ⟨dst, oop, ty, pos, after, guard⟩ := o
  unfold cmpOp at hc
  unfold execOp
  cases oop <;> simp only at hc ⊢ <;> try (cases hc; done)
  case move x => cases hc; exact ex_now hs
  case assign x => cases hc; exact ex_now hs
  case pick c x y =>
    cases hc
    simp only [stepQ] at hs
    unfold vpick at hs
    split at hs
    · rename_i t ht
      simp only [asBool, Sem.run_bind, Sem.run_pure, Result.andThen_ok, ht]
      exact ex_now (by cases t <;> simpa using hs)
    · exact hs.elim
  case box => cases hc; exact hs.elim
  case alloc => simp only [Option.map_eq_some_iff] at hc; obtain ⟨z, _, rfl⟩ := hc; exact hs.elim
  case store => simp only [Option.map_eq_some_iff] at hc; obtain ⟨z, _, rfl⟩ := hc; exact hs.elim
  case load t x =>
    simp only [Option.map_eq_some_iff] at hc
    obtain ⟨n, hn, rfl⟩ := hc
    simp only [stepQ] at hs
    unfold vload at hs
    split at hs
    · rename_i b off hx
      unfold vloadAt at hs
      split at hs
      · rename_i blk hl
        obtain ⟨hm, hb⟩ := look_mem hl
        subst hb
        obtain ⟨v, hr, hk⟩ := run_loadVar_blk (P := P) (H blk hm) hn hs
        refine ex_val ?_ hk
        simp only [Instr.loadAt, hx, Instr.sureAddr, Sem.run_bind, Sem.run_pure, Result.andThen_ok]
        exact hr
      · exact hs.elim
    · exact hs.elim
  case fieldAddr s x f =>
    split at hc
    · rename_i fs hfs
      split at hc
      · rename_i fd hfd
        split at hc
        · rename_i n hn
          cases hc
          simp only [stepQ] at hs
          unfold vaddr at hs
          split at hs
          · rename_i b off hx
            refine ex_val ?_ hs
            simp [Instr.fieldAt, run_underlying hfs, hfd, hx, Instr.sureAddr, run_fieldPlace hn]
          · exact hs.elim
        · cases hc
      · cases hc
    · cases hc
  case indexAddr t x i =>
    split at hc
    · rename_i len e hu
      simp only [Option.map_eq_some_iff] at hc
      obtain ⟨n, hn, rfl⟩ := hc
      simp only [stepQ] at hs
      unfold vidxA at hs
      split at hs
      · rename_i b off kd j hx hi
        refine ex_val ?_ hs.2
        have hb : (0 : Int) ≤ j ∧ j < (len : Int) := hs.1
        simp [Instr.indexAt, run_underlying hu, hx, hi, asIntOf, Instr.sureAddr, run_size hn, hb, addr_add]
      · exact hs.elim
    · rename_i e hu
      simp only [Option.map_eq_some_iff] at hc
      obtain ⟨n, hn, rfl⟩ := hc
      simp only [stepQ] at hs
      unfold vidxS at hs
      split at hs
      · rename_i b off len cap kd j hx hi
        refine ex_val ?_ hs.2
        have hb : (0 : Int) ≤ j ∧ j < (len : Int) := hs.1
        simp [Instr.indexAt, run_underlying hu, hx, hi, asIntOf, run_size hn, hb, addr_add]
      · exact hs.elim
    · cases hc
  case index t x i =>
    split at hc
    · rename_i len e hu
      split at hc
      · rename_i n s hn hz
        cases hc
        simp only [stepQ] at hs
        unfold vixA at hs
        split at hs
        · rename_i cs kd j hx hi
          obtain ⟨v, hr, hk⟩ := run_part (P := P) (w := w) hn hs.2
          refine ex_val ?_ hk
          have hb : (0 : Int) ≤ j ∧ j < (len : Int) := hs.1
          simp [Instr.index, run_underlying hu, hx, hi, asIntOf, run_size hz, hb, hr]
        · exact hs.elim
      · cases hc
    · rename_i hu
      cases hc
      simp only [stepQ] at hs
      unfold vixStr at hs
      split at hs
      · rename_i s kd j hx hi
        obtain ⟨h0, hk⟩ := hs
        cases hb : s[j.toNat]? with
        | none => simp [hb] at hk
        | some b =>
          simp [hb] at hk
          refine ex_val ?_ hk
          simp [Instr.index, run_underlying hu, hx, hi, asIntOf, h0, hb]
      · exact hs.elim
    · cases hc
  case field t x f =>
    split at hc
    · rename_i fs hfs
      split at hc
      · rename_i fd hfd
        simp only [Option.map_eq_some_iff] at hc
        obtain ⟨n, hn, rfl⟩ := hc
        simp only [stepQ] at hs
        unfold vfld at hs
        split at hs
        · rename_i cs hx
          obtain ⟨v, hr, hk⟩ := run_part (P := P) (w := w) hn hs
          refine ex_val ?_ hk
          simp [Instr.field, run_underlying hfs, hfd, hx, asAgg, hr]
        · exact hs.elim
      · cases hc
    · cases hc
  case binOp op t x y ty =>
    split at hc
    case h_1 | h_2 =>
      cases hc
      simp only [stepQ] at hs
      obtain ⟨v, hr, hk⟩ := run_vbin (P := P) (w := w) (t := t) (x := x) (y := y) hs
      exact ex_val hr hk
    case h_3 =>
      cases hc
      simp only [stepQ] at hs
      obtain ⟨v, n, hr, hk⟩ := run_vfbin (P := P) (w := w) (t := t) (x := x) (y := y) hs
      exact dr_val hr hk
    case h_4 hu =>
      split at hc
      · cases hc
        simp only [stepQ] at hs
        unfold vbeq at hs
        split at hs
        · rename_i p q hx hy
          refine ex_val ?_ hs
          rw [hx, hy]; exact run_eql_bool hu x y p q
        · exact hs.elim
      · cases hc
        simp only [stepQ] at hs
        unfold vbeq at hs
        split at hs
        · rename_i p q hx hy
          refine ex_val ?_ hs
          rw [hx, hy]; exact run_neq_bool hu x y p q
        · exact hs.elim
      · cases hc
    case h_5 fs hu =>
      split at hc
      · rename_i he
        split at hc
        · cases hc
          obtain ⟨v, hr, hk⟩ := run_vaeq (P := P) (w := w) (t := t) (x := x) (y := y) (op := .eql) (ne := false) rfl hu he hs
          exact ex_val hr hk
        · cases hc
          obtain ⟨v, hr, hk⟩ := run_vaeq (P := P) (w := w) (t := t) (x := x) (y := y) (op := .neq) (ne := true) rfl hu he hs
          exact ex_val hr hk
        · cases hc
      · cases hc
    case h_6 e hu =>
      split at hc
      · rename_i he
        split at hc
        · cases hc
          unfold isNilSlice at he
          split at he
          · rename_i a b
            obtain ⟨v, hr, hk⟩ := run_vsnil (P := P) (w := w) (t := t) (x := x) (y := .const (.slice none a b)) (a := a) (b := b) hu hs
            exact ex_val hr hk
          · cases he
        · cases hc
      · cases hc
    · cases hc
  case unOp op t x =>
    cases hc
    simp only [stepQ] at hs
    unfold vun at hs
    split at hs
    · rename_i b hx
      exact ex_val (by simp [Op.unary, hx]) hs
    · rename_i kd n hx
      exact ex_val (by simp [Op.unary, Op.intArith, hx]) hs
    · rename_i kd b hx
      exact ex_val (by simp [Op.unary, hx]) hs
    · exact hs.elim
  case convert src dst x =>
    split at hc
    · rename_i kd hsrc hdst
      cases hc
      obtain ⟨us, hus⟩ := Option.isSome_iff_exists.1 hsrc
      simp only [stepQ] at hs
      unfold vconvI at hs
      split at hs
      · rename_i k2 n hx
        refine ex_val ?_ hs
        rw [hx]
        cases us <;> simp [convert, run_underlying hus, run_underlying hdst, Conv.intToInt]
      · rename_i s b hx
        split at hs
        · rename_i n hn
          refine ex_val ?_ hs
          rw [hx]
          exact run_convert_float_int w src dst s kd b n hsrc hdst hn
        · exact hs.elim
      · exact hs.elim
    · rename_i kd hsrc hdst
      cases hc
      obtain ⟨us, hus⟩ := Option.isSome_iff_exists.1 hsrc
      simp only [stepQ] at hs
      unfold vconvF at hs
      split at hs
      · rename_i k2 n hx
        refine ex_val ?_ hs
        rw [hx]
        exact run_convert_int_float w src dst k2 kd n hsrc hdst
      · rename_i s b hx
        obtain ⟨v, n, hr, hk⟩ := run_convF (P := P) (w := w) hs
        refine dr_val (n := n) ?_ hk
        rw [hx]
        cases us <;> simp [convert, run_underlying hus, run_underlying hdst, hr]
      · exact hs.elim
    · cases hc
  case extract t i =>
    cases hc
    simp only [stepQ] at hs
    unfold vext at hs
    split at hs
    · rename_i vs hx
      cases hv : vs[i]? with
      | none => simp [hv] at hs
      | some v =>
        simp [hv] at hs
        exact ex_val (by simp [Instr.extract, hx, hv]) hs
    · exact hs.elim
  case nilCheck x =>
    cases hc
    simp only [stepQ] at hs
    unfold vnilc at hs
    split at hs
    · rename_i p hx
      rw [hx]; exact ex_now hs
    · rename_i f p q hx
      rw [hx]; exact ex_now hs
    · exact hs.elim
  case call c =>
    unfold cmpCall at hc
    split at hc
    · rename_i hcal
      have run_len : ∀ {x : Operand} {t : Nat} {v : Value}, c.args = #[x] → c.argTypes[0]? = some t → (Builtin.len_ c.argTypes ty #[Env.ev ρ x]).run P w = .ok v w → k v →
          ∀ ex, ValN P k w ((do let d ← resolve (Env.ev ρ) c ty; invoke d.target d.args : Sem Next).run P w) ex := by
        intro x t v hca ht hr hk ex
        simp only [resolve, hcal, hca, Sem.run_bind, Sem.run_pure, Result.andThen_ok, invoke, builtin]
        simp only [List.map_toArray, List.map_cons, List.map_nil, hr, Result.andThen_ok]
        exact ex_now hk
      split at hc
      · rename_i x hargs hty
        cases hc
        simp only [stepQ] at hs
        unfold vlenS at hs
        obtain ⟨t, ht, hu⟩ := Option.bind_eq_some_iff.1 hty
        have hca : c.args = #[x] := by rw [← Array.toList_inj]; simpa using hargs
        split at hs
        · rename_i s hx
          exact run_len hca ht (by simp [Builtin.len_, ht, run_underlying hu, hx, goInt]) hs _
        · exact hs.elim
      · rename_i x e hargs hty
        cases hc
        simp only [stepQ] at hs
        unfold vlenL at hs
        obtain ⟨t, ht, hu⟩ := Option.bind_eq_some_iff.1 hty
        have hca : c.args = #[x] := by rw [← Array.toList_inj]; simpa using hargs
        split at hs
        · rename_i p n cap hx
          exact run_len hca ht (by simp [Builtin.len_, ht, run_underlying hu, hx, goInt]) hs _
        · exact hs.elim
      · cases hc
    · rename_i f hcal
      have hres : ((do let d ← resolve (Env.ev ρ) c ty; invoke d.target d.args : Sem Next).run P w) = (callFunc f (c.args.map (Env.ev ρ))).run P w := by
        simp [resolve, hcal, Deferred.ofValue, Env.ev, invoke]
      rw [hres]
      split at hc
      · cases hc; exact (hnc _ _ rfl).elim
      · split at hc
        · rename_i x hargs
          have hca : c.args.map (Env.ev ρ) = #[Env.ev ρ x] := by
            have : c.args = #[x] := by rw [← Array.toList_inj]; simpa using hargs
            simp [this]
          rw [hca]
          split at hc
          · rename_i he
            cases hc
            simp only [stepQ] at hs
            unfold vf32bits at hs
            split at hs
            · rename_i b hx
              rw [hx, run_ext he (.inl rfl) f32bits_find]
              change ValN P k w (.ok (.value (.int .u32 b)) w) _
              exact ex_now hs
            · exact hs.elim
          · split at hc
            · rename_i he
              cases hc
              simp only [stepQ] at hs
              unfold vf64bits at hs
              split at hs
              · rename_i b hx
                rw [hx, run_ext he (.inr (.inl rfl)) f64bits_find]
                change ValN P k w (.ok (.value (.int .u64 b)) w) _
                exact ex_now hs
              · exact hs.elim
            · split at hc
              · rename_i he
                cases hc
                simp only [stepQ] at hs
                unfold vf64from at hs
                split at hs
                · rename_i b hx
                  rw [hx, run_ext he (.inr (.inr rfl)) f64from_find]
                  change ValN P k w (.ok (.value (.float .f64 b.toNat)) w) _
                  exact ex_now hs
                · exact hs.elim
              · split at hc
                · rename_i he
                  cases hc
                  obtain ⟨v, n, hr, hk⟩ := run_vinteg (P := P) (w := w) (name := "math.archFloor") hs
                  rw [run_ext2 he (.inl rfl) floor_find, hr]
                  exact ⟨v, n, rfl, hk, fun h => by cases h⟩
                · split at hc
                  · rename_i he
                    cases hc
                    obtain ⟨v, n, hr, hk⟩ := run_vinteg (P := P) (w := w) (name := "math.archCeil") hs
                    rw [run_ext2 he (.inr (.inl rfl)) ceil_find, hr]
                    exact ⟨v, n, rfl, hk, fun h => by cases h⟩
                  · split at hc
                    · rename_i he
                      cases hc
                      obtain ⟨v, n, hr, hk⟩ := run_vinteg (P := P) (w := w) (name := "math.archTrunc") hs
                      rw [run_ext2 he (.inr (.inr rfl)) trunc_find, hr]
                      exact ⟨v, n, rfl, hk, fun h => by cases h⟩
                    · cases hc
        · cases hc
    · cases hc; exact hs.elim
    · split at hc
      · split at hc
        · split at hc
          · split at hc
            · split at hc
              · split at hc
                · cases hc; exact hs.elim
                · cases hc
              · cases hc
            · cases hc
          · cases hc
        · cases hc
      · cases hc
    · rename_i hcal
      split at hc
      · rename_i x y kd hargs hty
        cases hc
        have hca : c.args = #[x, y] := by rw [← Array.toList_inj]; simpa using hargs
        obtain ⟨v, n, hr, hk⟩ := run_vfmax (P := P) (w := w) (ts := c.argTypes) (t := ty) hs
        refine ⟨v, n, ?_, hk, fun h => by cases h⟩
        simp only [resolve, hcal, hca, Sem.run_bind, Sem.run_pure, Result.andThen_ok, invoke, builtin]
        simp only [List.map_toArray, List.map_cons, List.map_nil, hr, Result.andThen_ok]
      · cases hc
    · cases hc
  case build t parts =>
    split at hc
    · rename_i it fs hit hu
      split at hc
      · rename_i z pl hz hpl
        cases hc
        simp only [stepQ] at hs
        unfold vbuild at hs
        split at hs
        · rename_i cs hcs
          refine ex_val (run_build w t _ cs ?_) hs
          have e : (parts.map fun (i, x) => (i, Env.ev ρ x)).toList = parts.toList.map fun p => (p.1, Env.ev ρ p.2) := by simp
          rw [e]
          unfold Program.built
          simp only [hit, hu, hz]
          have hpl' : fs.toList.mapM (fun f => (P.info? f.type).map fun i => (f.offset, i.size)) = some pl := hpl
          rw [hpl']
          exact hcs
        · exact hs.elim
      · cases hc
    · rename_i it m e hit hu
      split at hc
      · rename_i z n hz hn
        cases hc
        simp only [stepQ] at hs
        unfold vbuildA at hs
        split at hs
        · rename_i cs hcs
          refine ex_val (run_build w t _ cs ?_) hs
          have e1 : (parts.map fun (i, x) => (i, Env.ev ρ x)).toList = parts.toList.map fun p => (p.1, Env.ev ρ p.2) := by simp
          rw [e1]
          unfold Program.built
          unfold sizeN at hn
          cases hie : P.info? e with
          | none => simp [hie] at hn
          | some ie =>
            simp [hie] at hn
            subst hn
            simp only [hit, hu, hz, hie]
            exact hcs
        · exact hs.elim
      · cases hc
    · cases hc
  case buildSlice t len parts =>
    split at hc
    · split at hc
      · split at hc
        · split at hc
          · cases hc; exact hs.elim
          · cases hc
        · cases hc
      · cases hc
    · cases hc
  case makeFunc fn first captured =>
    cases fn <;> simp only at hc <;> try (cases hc; done)
    case func f =>
      cases hc
      have e1 : (List.map (Env.ev ρ) first.toList).toArray = first.map (Env.ev ρ) := by rw [← Array.toList_map, Array.toArray_toList]
      have e2 : (List.map (Env.ev ρ) captured.toList).toArray = captured.map (Env.ev ρ) := by rw [← Array.toList_map, Array.toArray_toList]
      simp only [stepQ, e1, e2] at hs
      exact ex_val rfl hs
  case makeSlice t l c =>
    split at hc
    · split at hc
      · split at hc
        · split at hc
          · cases hc; exact hs.elim
          · cases hc
        · cases hc
      · cases hc
    · cases hc
  case slice t x lo hi mx =>
    cases mx with
    | some m => cases hc
    | none =>
      simp only at hc
      split at hc
      · rename_i e hu
        simp only [Option.map_eq_some_iff] at hc
        obtain ⟨n, hn, rfl⟩ := hc
        simp only [stepQ] at hs
        unfold vslcL at hs
        split at hs
        · rename_i b off len cap kd l hx hlo hhi
          obtain ⟨⟨h0, h1, h2⟩, hk⟩ := hs
          refine ex_val ?_ hk
          have hl : l.toNat ≤ len := by omega
          simp only [Instr.sliceAt, Sem.run_bind, run_underlying hu, Result.andThen_ok, hx, hlo, hhi, Instr.slice, Option.map_none, Instr.sliceBounds, Sem.run_pure, Option.isSome_none, Instr.sliceBound, asIntOf]
          rw [if_pos ⟨h0, h1⟩]
          simp only [Sem.run_pure, Result.andThen_ok, run_size hn, addr_add]
          by_cases hcl : cap = l.toNat
          · have : (cap : Int) = l := by omega
            rw [if_pos hcl, if_pos this]
          · have : ¬ (cap : Int) = l := by omega
            rw [if_neg hcl, if_neg this, Option.map_some, addr_add]
        · exact hs.elim
      · cases hc

theorem stepQ_sound {k : Value → Prop} {o : Oper} {op : VO} (hc : cmpOp P o = some op) (hag : Agree N ρ a) (hs : stepQ P Rf op ρ h k) :
    ∀ w, Holds M w0 h w → relUpon P (Holds M w0 h) Rf k ((execOp a.eval o).run P w) := by
  intro w H
  by_cases hcall : ∃ f args, op = .call f args
  · obtain ⟨f, args, rfl⟩ := hcall
    have hev : a.eval = Env.ev ρ := funext hag.eval
    obtain ⟨g, c, ho, hcal, hcl, hfa⟩ := cmp_call hc
    simp only [stepQ] at hs
    unfold callQ at hs
    have hrun : (execOp a.eval o).run P w = .ok (.enter f (args.map (Env.ev ρ)).toArray) w := by
      rw [hev]
      exact run_call ho hcal hcl hfa
    rw [hrun]
    exact ⟨hs.1 M w0 w H, hs.2⟩
  · obtain ⟨v, n, hr, hk, _⟩ := stepQ_val hc hag hs (fun f args e => hcall ⟨f, args, e⟩) H.at_
    rw [hr]
    exact ⟨H.drewN n, hk⟩

end
end Go.Vc
