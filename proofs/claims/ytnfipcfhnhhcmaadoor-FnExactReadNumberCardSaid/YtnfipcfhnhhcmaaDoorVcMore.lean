/- Operations beside those of VcOps: interfaces made and held against nil, bytes and strings, slices of arrays, floats out of words; and all others, which no walk may come to. -/
import Derived.Test.YtnfipcfhnhhcmaaDoorVcSeq
import Derived.Laws.IdiomStrings
import Derived.Lib.AtoiErrMem
set_option linter.all false
namespace Go.Vc
open Go Go.Fl

def isNilI : Operand → Bool
  | .const .nilIface => true
  | _ => false

def isByteT (P : Program) (t : Nat) : Bool :=
  match P.underlying t with
  | some (.int .u8) => true
  | _ => false

def cmpNew (P : Program) (o : Oper) : Option VO :=
  match o.op with
  | .makeInterface T x =>
    match P.underlying T with
    | some (.interface _) => none
    | some _ => some (.ifc T x)
    | none => none
  | .binOp op t x y _ =>
    match P.underlying t with
    | some (.interface _) => if isNilI y then (match op with | .eql => some (.inil false x) | .neq => some (.inil true x) | _ => none) else none
    | _ => none
  | .convert src dst x =>
    match P.underlying src, P.underlying dst with
    | some (.slice e), some .string => if isByteT P e then some (.bstr x) else none
    | some .string, some (.slice e) => if isByteT P e then some (.strb x) else none
    | _, _ => none
  | .slice t x (some lo) none none =>
    match P.underlying t with
    | some (.array len e) => (sizeN P e).map fun n => .slcA len n x lo
    | _ => none
  | .call c =>
    match c.callee with
    | .value (.func f) =>
      match c.args.toList with
      | [x] => if isExt P f "math.Float32frombits" then some (.f32from x) else none
      | _ => none
    | _ => none
  | _ => none

def cmpOpY (P : Program) (o : Oper) : Option VO :=
  match cmpOp P o with
  | some op => some op
  | none => some ((cmpNew P o).getD .dead)

theorem f32from_find (fn : Func) (h1 : fn.name = "math.Float32frombits") : Extern.find fn = some Extern.MathFloatBits.float32frombits := by
  have e1 : Extern.allGenericRows.lookup "math.Float32frombits" = none := by kernel_rfl
  have e2 : Extern.allTypedRows.lookup "math.Float32frombits" = none := by kernel_rfl
  have e3 : Extern.allRows.lookup "math.Float32frombits" = some Extern.MathFloatBits.float32frombits := by kernel_rfl
  simp [Extern.find, h1, e1, e2, e3]

section
variable {P : Program} {N : Nat} {M : Nat → Prop} {w0 : World} {ρ : Env} {a : Act} {h : Hp} {w : World}

theorem run_f32from {f : Nat} (hx : isExt P f "math.Float32frombits" = true) (n : Int) : (callFunc f #[.int .u32 n]).run P w = .ok (.value (.float .f32 n.toNat)) w := by
  unfold isExt at hx
  split at hx
  · rename_i fn hfn
    simp only [Bool.and_eq_true, beq_iff_eq] at hx
    have hnx : Extern.findNext fn = none := by
      have e1 : Extern.allNextRows.lookup "math.Float32frombits" = none := by kernel_rfl
      have e2 : Extern.allNextRows.lookup "" = none := by kernel_rfl
      simp [Extern.findNext, hx.1.1, hx.1.2, e1, e2]
    rw [run_callFunc_extern hfn (by rw [hx.1.1]; decide) hx.2 hnx (f32from_find fn hx.1.1) _ w]
    rfl
  · cases hx

theorem run_vinil {t : Nat} {ms : Array (String × TypeId)} {op : BinOp} {ne : Bool} {x : Operand} {vx : Value} {k : Value → Prop} (hop : op = if ne then .neq else .eql) (hu : P.underlying t = some (.interface ms)) (hk : vinil ne vx k) :
    ∃ v, (do eqGuard op t x (.const .nilIface) vx .nilIface; binOp op t vx .nilIface : Sem Value).run P w = .ok v w ∧ k v := by
  unfold vinil at hk
  have e : ∀ d v, (v = .nilIface ∨ ∃ T u, v = .iface T u) → (Op.equalIn (d + 1) t v .nilIface).run P w = .ok (match v with | .nilIface => true | _ => false) w := fun d v hv => by
    rcases hv with rfl | ⟨T, u, rfl⟩ <;> simp [Op.equalIn, run_underlying hu]
  have g : ∀ v, (v = .nilIface ∨ ∃ T u, v = .iface T u) → (eqGuard op t x (.const .nilIface) v .nilIface).run P w = .ok () w := fun v hv => by
    rcases hv with rfl | ⟨T, u, rfl⟩ <;> (unfold eqGuard; simp)
  split at hk
  · refine ⟨_, ?_, hk⟩
    rw [Sem.run_bind, g _ (.inl rfl), Result.andThen_ok]
    cases ne <;> (simp only [Bool.false_eq_true, if_false, if_true] at hop; subst hop)
    · show (do pure (.bool (← Op.equal t .nilIface .nilIface)) : Sem Value).run P w = _
      rw [Sem.run_bind, show Op.equal t .nilIface .nilIface = Op.equalIn (9999 + 1) t .nilIface .nilIface from rfl, e 9999 _ (.inl rfl)]; rfl
    · show (do pure (.bool (!(← Op.equal t .nilIface .nilIface))) : Sem Value).run P w = _
      rw [Sem.run_bind, show Op.equal t .nilIface .nilIface = Op.equalIn (9999 + 1) t .nilIface .nilIface from rfl, e 9999 _ (.inl rfl)]; rfl
  · rename_i T u
    refine ⟨_, ?_, hk⟩
    rw [Sem.run_bind, g _ (.inr ⟨T, u, rfl⟩), Result.andThen_ok]
    cases ne <;> (simp only [Bool.false_eq_true, if_false, if_true] at hop; subst hop)
    · show (do pure (.bool (← Op.equal t (.iface T u) .nilIface)) : Sem Value).run P w = _
      rw [Sem.run_bind, show Op.equal t (.iface T u) .nilIface = Op.equalIn (9999 + 1) t (.iface T u) .nilIface from rfl, e 9999 _ (.inr ⟨T, u, rfl⟩)]; rfl
    · show (do pure (.bool (!(← Op.equal t (.iface T u) .nilIface))) : Sem Value).run P w = _
      rw [Sem.run_bind, show Op.equal t (.iface T u) .nilIface = Op.equalIn (9999 + 1) t (.iface T u) .nilIface from rfl, e 9999 _ (.inr ⟨T, u, rfl⟩)]; rfl
  · exact hk.elim

theorem isByteT_of {t : Nat} (h : isByteT P t = true) : P.underlying t = some (.int .u8) := by
  unfold isByteT at h
  split at h
  · assumption
  · cases h

theorem stepN_sound {k : Value → Hp → Prop} {o : Oper} {op : VO} (hc : cmpNew P o = some op) (hag : Agree N ρ a) (hs : stepV P op ρ h k) (H : Holds M w0 h w) :
    genUpon P M w0 k ((execOp a.eval o).run P w) := by
  have hev : a.eval = Env.ev ρ := funext hag.eval
  obtain ⟨dst, oop, ty, pos, after, guard⟩ := o
  unfold cmpNew at hc
  cases oop <;> simp only at hc <;> try (cases hc; done)
  case makeInterface T x =>
    split at hc
    · cases hc
    · rename_i d hni hu
      cases hc
      rw [hev]
      refine gen_val (v := .iface T (Env.ev ρ x)) (w' := w) ?_ H hs
      simp only [Instr.makeInterface, Sem.run_bind, run_underlying hu, Result.andThen_ok]
      cases d <;> first
        | rfl
        | exact absurd rfl (hni _)
    · cases hc
  case binOp bop t x y tt =>
    split at hc
    · rename_i ms hu
      split at hc
      · rename_i hy
        have hy' : y = .const .nilIface := by
          unfold isNilI at hy
          split at hy
          · rfl
          · cases hy
        subst hy'
        split at hc
        · cases hc
          rw [hev]
          obtain ⟨v, hr, hk⟩ := run_vinil (P := P) (w := w) (x := x) (op := .eql) (ne := false) rfl hu hs
          exact gen_val (w' := w) hr H hk
        · cases hc
          rw [hev]
          obtain ⟨v, hr, hk⟩ := run_vinil (P := P) (w := w) (x := x) (op := .neq) (ne := true) rfl hu hs
          exact gen_val (w' := w) hr H hk
        · cases hc
      · cases hc
    · cases hc
  case convert src dt x =>
    split at hc
    · rename_i e hsu hdu
      split at hc
      · rename_i hb
        cases hc
        rw [hev]
        change vbstr (Env.ev ρ x) h (kh k h) at hs
        unfold vbstr at hs
        split at hs
        · rename_i b off n cap hx
          obtain ⟨l, y, hl, rfl, hcells, hk⟩ := hs
          obtain ⟨hm, hbb⟩ := look_mem hl
          subst hbb
          refine gen_val (w' := w) ?_ H hk
          rw [hx]
          refine run_convert_bytes_back w src dt e ⟨y.base, off, none⟩ cap l hsu (isByteT_of hb) hdu (fun j hj => ?_)
          rw [addr_add, cell_of (H.at_ y hm)]
          exact hcells j hj
        · exact hs.elim
      · cases hc
    · rename_i e hsu hdu
      split at hc
      · rename_i hb
        cases hc
        rw [hev]
        change vstrb (Env.ev ρ x) h k at hs
        unfold vstrb at hs
        split at hs
        · rename_i s hx
          have hr := Lib.run_convert_string_bytes (P := P) w src dt e s hsu hdu (isByteT_of hb)
          have hf : Fresh w.heap.size h := fun x hx e => by have := H.lt hx; omega
          refine gen_val (w' := Lib.bytesWorld w e s) (h' := ⟨w.heap.size, Lib.bytesCells w e s, anyT, false⟩ :: h) (by rw [hx]; exact hr) ?_ (hs w.heap.size (Lib.bytesCells w e s) _ hf (fun j hj => ?_))
          · have hbel : Keep (· < w.heap.size) w (Lib.bytesWorld w e s) := Keep.of_below (Lib.bytesWorld_below w e s)
            have H' := H.step hbel
            refine ⟨H'.keep, H'.sub, ?_, ?_, ?_⟩
            · intro y hy
              cases hy with
              | head => exact .any (Lib.bytesWorld_at_new w e s) rfl rfl
              | tail _ hy => exact H'.at_ y hy
            · intro y hy ho
              cases hy with
              | head => cases ho
              | tail _ hy => exact H'.own y hy ho
            · simp only [List.map_cons, List.nodup_cons]
              refine ⟨fun hm => ?_, H'.nodup⟩
              obtain ⟨y, hy, he⟩ := List.mem_map.1 hm
              exact hf y hy he.symm
          · have := Lib.bytesWorld_cell w e s j hj
            simpa [World.cell?, Lib.bytesWorld_at_new] using this
        · exact hs.elim
      · cases hc
    · cases hc
  case slice t x lo hi mx =>
    cases lo with
    | none => cases hc
    | some lo =>
      cases hi with
      | some _ => cases hc
      | none =>
        cases mx with
        | some _ => cases hc
        | none =>
          simp only at hc
          split at hc
          · rename_i len e hu
            simp only [Option.map_eq_some_iff] at hc
            obtain ⟨n, hn, rfl⟩ := hc
            rw [hev]
            change vslcA len n (Env.ev ρ x) (Env.ev ρ lo) (kh k h) at hs
            unfold vslcA at hs
            split at hs
            · rename_i b off kd l hx hlo
              obtain ⟨⟨h0, h1⟩, hk⟩ := hs
              refine gen_val (w' := w) ?_ H hk
              simp only [Instr.sliceAt, Sem.run_bind, run_underlying hu, Result.andThen_ok, hx, hlo, Option.map_some, Option.map_none, Instr.sureAddr, Instr.sliceBounds, Sem.run_pure, Option.isSome_none, Instr.sliceBound, asIntOf]
              rw [if_pos ⟨h0, h1⟩]
              simp only [Sem.run_pure, Result.andThen_ok, run_size hn, addr_add]
              by_cases hcl : len = l.toNat
              · have : (len : Int) = l := by omega
                rw [if_pos hcl, if_pos this]
              · have : ¬ (len : Int) = l := by omega
                rw [if_neg hcl, if_neg this]
            · exact hs.elim
          · cases hc
  case call c =>
    split at hc
    · rename_i f hcal
      split at hc
      · rename_i x hargs
        split at hc
        · rename_i he
          cases hc
          rw [hev]
          have hca : c.args.map (Env.ev ρ) = #[Env.ev ρ x] := by
            have : c.args = #[x] := by rw [← Array.toList_inj]; simpa using hargs
            simp [this]
          have hres : ((do let d ← resolve (Env.ev ρ) c ty; invoke d.target d.args : Sem Next).run P w) = (callFunc f (c.args.map (Env.ev ρ))).run P w := by
            simp [resolve, hcal, Deferred.ofValue, Env.ev, invoke]
          change vf32from (Env.ev ρ x) (kh k h) at hs
          unfold vf32from at hs
          split at hs
          · rename_i n hx
            show genUpon P M w0 k ((do let d ← resolve (Env.ev ρ) c ty; invoke d.target d.args : Sem Next).run P w)
            rw [hres, hca, hx, run_f32from he]
            exact ⟨h, H, hs⟩
          · exact hs.elim
        · cases hc
      · cases hc
    · cases hc

theorem stepV_soundY {k : Value → Hp → Prop} {o : Oper} {op : VO} (hc : cmpOpY P o = some op) (hag : Agree N ρ a) (hs : stepV P op ρ h k) (H : Holds M w0 h w) :
    genUpon P M w0 k ((execOp a.eval o).run P w) := by
  unfold cmpOpY at hc
  cases h0 : cmpOp P o with
  | some op' => rw [h0] at hc; cases hc; exact stepV_sound h0 hag hs H
  | none =>
    rw [h0] at hc
    simp only [Option.some.injEq] at hc
    cases h1 : cmpNew P o with
    | some op' => rw [h1] at hc; cases hc; exact stepN_sound h1 hag hs H
    | none => rw [h1] at hc; cases hc; exact hs.elim

/-- an operation of the new kinds is neither exact nor a read nor quiet -/
theorem cmpNew_kind {o : Oper} {op : VO} (hc : cmpNew P o = some op) : op.exact = false ∧ op.reads = false ∧ ∀ (Rf : Nat → Array Value → Value → Prop) (ρ : Env) (h : Hp) (k : Value → Prop), ¬ stepQ P Rf op ρ h k := by
  have key : op = .dead ∨ (∃ T x, op = .ifc T x) ∨ (∃ n x, op = .inil n x) ∨ (∃ x, op = .bstr x) ∨ (∃ x, op = .strb x) ∨ (∃ l e x y, op = .slcA l e x y) ∨ (∃ x, op = .f32from x) := by
    unfold cmpNew at hc
    split at hc
    · split at hc
      · cases hc
      · cases hc; exact .inr (.inl ⟨_, _, rfl⟩)
      · cases hc
    · split at hc
      · split at hc
        · split at hc
          · cases hc; exact .inr (.inr (.inl ⟨_, _, rfl⟩))
          · cases hc; exact .inr (.inr (.inl ⟨_, _, rfl⟩))
          · cases hc
        · cases hc
      · cases hc
    · split at hc
      · split at hc
        · cases hc; exact .inr (.inr (.inr (.inl ⟨_, rfl⟩)))
        · cases hc
      · split at hc
        · cases hc; exact .inr (.inr (.inr (.inr (.inl ⟨_, rfl⟩))))
        · cases hc
      · cases hc
    · split at hc
      · simp only [Option.map_eq_some_iff] at hc
        obtain ⟨n, _, rfl⟩ := hc
        exact .inr (.inr (.inr (.inr (.inr (.inl ⟨_, _, _, _, rfl⟩)))))
      · cases hc
    · split at hc
      · split at hc
        · split at hc
          · cases hc; exact .inr (.inr (.inr (.inr (.inr (.inr ⟨_, rfl⟩)))))
          · cases hc
        · cases hc
      · cases hc
    · cases hc
  rcases key with rfl | ⟨_, _, rfl⟩ | ⟨_, _, rfl⟩ | ⟨_, rfl⟩ | ⟨_, rfl⟩ | ⟨_, _, _, _, rfl⟩ | ⟨_, rfl⟩ <;> exact ⟨rfl, rfl, fun _ _ _ _ h => h⟩

theorem cmpOpY_old {o : Oper} {op : VO} (hc : cmpOpY P o = some op) : cmpOp P o = some op ∨ (cmpOp P o = none ∧ op.exact = false ∧ op.reads = false ∧ ∀ (Rf : Nat → Array Value → Value → Prop) (ρ : Env) (h : Hp) (k : Value → Prop), ¬ stepQ P Rf op ρ h k) := by
  unfold cmpOpY at hc
  cases h0 : cmpOp P o with
  | some op' => rw [h0] at hc; exact .inl hc
  | none =>
    rw [h0] at hc
    simp only [Option.some.injEq] at hc
    right
    refine ⟨rfl, ?_⟩
    cases h1 : cmpNew P o with
    | some op' => rw [h1] at hc; cases hc; exact cmpNew_kind h1
    | none => rw [h1] at hc; cases hc; exact ⟨rfl, rfl, fun _ _ _ _ h => h⟩

theorem exO_eq {o : Oper} {op : VO} (hc : cmpOpY P o = some op) : exO P o = op.exact := by
  unfold exO
  rcases cmpOpY_old hc with h | ⟨h, h1, _, _⟩
  · rw [h]
  · rw [h, h1]
theorem plO_eq {o : Oper} {op : VO} (hc : cmpOpY P o = some op) : plO P o = op.plain := by
  unfold plO
  rcases cmpOpY_old hc with h | ⟨h, h1, _, _⟩
  · rw [h]
  · rw [h]; simp [VO.plain, h1]
theorem rdO_eq {o : Oper} {op : VO} (hc : cmpOpY P o = some op) : rdO P o = op.reads := by
  unfold rdO
  rcases cmpOpY_old hc with h | ⟨h, _, h1, _⟩
  · rw [h]
  · rw [h, h1]
theorem cmpOp_of_Q {o : Oper} {op : VO} {Rf : Nat → Array Value → Value → Prop} {ρ : Env} {h : Hp} {k : Value → Prop} (hc : cmpOpY P o = some op) (hs : stepQ P Rf op ρ h k) : cmpOp P o = some op :=
  (cmpOpY_old hc).resolve_right fun hh => hh.2.2.2 _ _ _ _ hs

end
end Go.Vc
