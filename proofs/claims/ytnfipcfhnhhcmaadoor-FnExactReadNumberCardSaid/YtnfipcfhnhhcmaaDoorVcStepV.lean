/- One operation of the model does what the generator says: those that make or write memory, and any call. -/
import Derived.Test.YtnfipcfhnhhcmaaDoorVcStep
import Derived.Laws.AppendOwn
set_option linter.all false
namespace Go.Vc
open Go Go.Fl

section
variable {P : Program} {N : Nat} {M : Nat → Prop} {w0 : World} {ρ : Env} {a : Act} {h : Hp} {w : World}

/-- what an operation may do: a value and other known blocks -/
def genUpon (P : Program) (M : Nat → Prop) (w0 : World) (k : Value → Hp → Prop) : Result Next → Prop
  | .ok (.value u) w' => ∃ h', Holds M w0 h' w' ∧ k u h'
  | .ok .skip w' => ∃ h', Holds M w0 h' w' ∧ k undef h'
  | .ok (.enter f args) w' => Calls P f args w' (fun e w'' => ∃ u h', e = .returned u ∧ Holds M w0 h' w'' ∧ k u h')
  | _ => False

theorem gen_of_rel {k : Value → Hp → Prop} {Rf : Nat → Array Value → Value → Prop} {r : Result Next} (hr : relUpon P (Holds M w0 h) Rf (kh k h) r) : genUpon P M w0 k r := by
  cases r with
  | halt x w => exact hr.elim
  | ok n w =>
    cases n with
    | value u => exact ⟨h, hr.1, hr.2⟩
    | skip => exact ⟨h, hr.1, hr.2⟩
    | enter f args => exact hr.1.mono fun e w' ⟨u, he, hH, hR⟩ => ⟨u, h, he, hH, hr.2 u hR⟩
    | _ => exact hr.elim

theorem gen_val {k : Value → Hp → Prop} {s : Sem Value} {v : Value} {w' : World} {h' : Hp} (hr : s.run P w = .ok v w') (H : Holds M w0 h' w') (hk : k v h') :
    genUpon P M w0 k ((do pure (Next.value (← s)) : Sem Next).run P w) := by
  simp only [Sem.run_bind, hr, Result.andThen_ok, Sem.run_pure]
  exact ⟨h', H, hk⟩

theorem splice_one {cs : Array Value} {off : Nat} {v : Value} (ho : off + 1 ≤ cs.size) : cs.setIfInBounds off v = (cs.toList.take off ++ [v] ++ cs.toList.drop (off + 1)).toArray := by
  apply Array.ext'
  simp only [Array.toList_setIfInBounds]
  rw [List.set_eq_take_append_cons_drop, if_pos (by simp; omega)]
  simp

theorem splice_many {cs vs : Array Value} {off : Nat} : splice cs off vs = (cs.toList.take off ++ vs.toList ++ cs.toList.drop (off + vs.toList.length)).toArray := by
  apply Array.ext'
  simp [splice, List.take_of_length_le]

theorem stored_eq {cs : Array Value} {off : Nat} {v : Value} (ho : off + v.cells.size ≤ cs.size) : stored cs off v = (cs.toList.take off ++ v.cells.toList ++ cs.toList.drop (off + v.cells.toList.length)).toArray := by
  cases v <;> first
    | exact splice_many
    | exact splice_one (by simpa [Value.cells] using ho)

theorem keep_setRow (b : Nat) (cs : Array Value) : Keep (· ≠ b) w (w.setRow b cs) :=
  ⟨rfl, rfl, rfl, by simp, fun k hk => setRow_other w b k cs hk⟩

theorem keep_drew_alloc (o : Obj) : Keep (· < w.heap.size) w (w.drew.alloc o) :=
  ⟨rfl, rfl, rfl, by show w.heap.size ≤ (w.heap.push o).size; simp, fun k hk => heap_alloc_old w o hk⟩

theorem nextcap_le (n c : Nat) (h : c < n) : Builtin.nextslicecap n c ≤ 4 * n + 2000 := by
  unfold Builtin.nextslicecap
  split
  · omega
  · split
    · omega
    · have key : ∀ r m, m ≤ 2 * n + 1000 → Builtin.growBy n r m ≤ 4 * n + 2000 := by
        intro r
        induction r with
        | zero => intro m hm; simp only [Builtin.growBy]; omega
        | succ r ih =>
          intro m hm
          simp only [Builtin.growBy]
          split
          · omega
          · exact ih _ (by omega)
      exact key 4 c (by omega)

theorem drop_sub {h : Hp} {b : Nat} {x : Blk} (hx : x ∈ drop h b) : x ∈ h := by
  induction h with
  | nil => cases hx
  | cons y h ih =>
    simp only [drop] at hx
    split at hx
    · exact List.mem_cons_of_mem _ hx
    · cases hx with
      | head => exact List.mem_cons_self
      | tail _ hx => exact List.mem_cons_of_mem _ (ih hx)

theorem drop_sublist (h : Hp) (b : Nat) : (drop h b).Sublist h := by
  induction h with
  | nil => exact List.Sublist.refl _
  | cons y h ih =>
    simp only [drop]
    split
    · exact List.sublist_cons_self _ _
    · exact ih.cons_cons _

theorem drop_ne {h : Hp} {b : Nat} (hn : (h.map (·.base)).Nodup) {x : Blk} (hx : x ∈ drop h b) : x.base ≠ b := by
  induction h with
  | nil => cases hx
  | cons y h ih =>
    simp only [List.map_cons, List.nodup_cons] at hn
    simp only [drop] at hx
    split at hx
    · rename_i e
      intro e'
      exact hn.1 (List.mem_map.2 ⟨x, hx, by rw [e', e]⟩)
    · cases hx with
      | head => rename_i e; exact fun e' => e e'.symm
      | tail _ hx => exact ih hn.2 hx

theorem Holds.sublist {h h' : Hp} (H : Holds M w0 h w) (hs : h'.Sublist h) : Holds M w0 h' w :=
  ⟨H.keep, H.sub, fun x hx => H.at_ x (hs.subset hx), fun x hx => H.own x (hs.subset hx), (hs.map _).nodup H.nodup⟩

/-- the block 'b' holds other cells, and nothing else is known of it any more but these -/
theorem Holds.redo {b : Nat} {x : Blk} (H : Holds M w0 h w) (hl : look h b = some x) (ho : x.own = true) {cs : Array Value} {w' : World} (hk : Keep (· ≠ b) w w')
    (hw : w'.heap[b]? = some (.cells cs x.elem (0, 0))) : Holds M w0 (⟨b, cs, x.elem, true⟩ :: drop h b) w' := by
  obtain ⟨hm, hb⟩ := look_mem hl
  have hnm : ¬ M b := hb ▸ H.own x hm ho
  refine ⟨H.keep.trans (hk.mono fun k hMk e => hnm (e ▸ hMk)), H.sub, ?_, ?_, ?_⟩
  · intro y hy
    cases hy with
    | head => exact .mk hw
    | tail _ hy => exact (H.at_ y (drop_sub hy)).same (hk.block _ (drop_ne H.nodup hy))
  · intro y hy hyo
    cases hy with
    | head => exact hnm
    | tail _ hy => exact H.own y (drop_sub hy) hyo
  · simp only [List.map_cons, List.nodup_cons]
    refine ⟨fun hm' => ?_, ((drop_sublist h b).map _).nodup H.nodup⟩
    obtain ⟨y, hy, e⟩ := List.mem_map.1 hm'
    exact drop_ne H.nodup hy e

theorem fresh_drop {b : Nat} (hn : (h.map (·.base)).Nodup) : Fresh b (drop h b) := fun _ hx e => drop_ne hn hx e.symm
theorem fresh_sub {b c : Nat} (hf : Fresh b h) : Fresh b (drop h c) := fun x hx => hf x (drop_sub hx)

theorem all_one {cs : Array Value} (h : cs.all (·.oneCell') = true) : ∀ u ∈ cs.toList, u.oneCell' = true := fun u hu => (Array.all_eq_true_iff_forall_mem.1 h) u (by simpa using hu)

theorem run_vapp {t ty e : Nat} {i : TypeInfo} {z : Value} {s x : Value} {k : Value → Hp → Prop} (H : Holds M w0 h w) (ht : P.underlying t = some (.slice e)) (hi : P.info? e = some i) (hz : i.zero = some z)
    (hzs : z.cells.size = i.size) (h0 : 0 < i.size) (hby : i.bytes ≤ 64) (hs : vapp e i.size s x h k) :
    ∃ v w' h', (Builtin.append_ #[t, t] ty #[s, x]).run P w = .ok v w' ∧ Holds M w0 h' w' ∧ k v h' := by
  unfold vapp at hs
  split at hs
  · rename_i b n cap b2 off2 m cap2
    unfold vappAt at hs
    split at hs
    · rename_i bx by_ hl1 hl2
      obtain ⟨⟨ho, hel, hsz, hnc, hy, hone, hbd⟩, hk⟩ := hs
      obtain ⟨hm1, hb1⟩ := look_mem hl1
      obtain ⟨hm2, hb2⟩ := look_mem hl2
      have hg1 := (H.at_ bx hm1).exact (.inl ho)
      have hg2 := H.at_ by_ hm2
      rw [hb1, hel] at hg1
      have hnews : ∀ j u, (by_.cells.extract off2 (off2 + m * i.size)).toList[j]? = some u → w.cell? ((⟨b2, off2, none⟩ : Addr).add j) = some u := by
        intro j u hj
        rw [addr_add, ← hb2, cell_of hg2]
        simp only [Array.getElem?_toList, Array.getElem?_extract] at hj
        split at hj
        · exact hj
        · cases hj
      have hlen : (by_.cells.extract off2 (off2 + m * i.size)).toList.length = m * i.size := by simp; omega
      by_cases hroom : n + m ≤ cap
      · have hfit : n * i.size + m * i.size ≤ bx.cells.size := by rw [hsz, ← Nat.add_mul]; exact Nat.mul_le_mul_right _ hroom
        have hr := run_append_room (P := P) w t ty e i ht hi b n cap bx.cells hg1 ⟨b2, off2, none⟩ m cap2 (by_.cells.extract off2 (off2 + m * i.size)).toList hlen hnews (all_one hone) hroom (by rw [hlen]; exact hfit)
        refine ⟨_, _, _, hr, H.redo hl1 ho (keep_setRow b _) (by rw [hel]; exact setRow_heap w b bx.cells _ e (0, 0) hg1), ?_⟩
        have hk' := hk b cap (bx.cells.extract (n * i.size + m * i.size) bx.cells.size) (fresh_drop H.nodup) hroom (by simp [hsz, Nat.sub_mul, Nat.add_mul])
        have e1 : (bx.cells.toList.take (n * i.size) ++ (by_.cells.extract off2 (off2 + m * i.size)).toList ++ bx.cells.toList.drop (n * i.size + (by_.cells.extract off2 (off2 + m * i.size)).toList.length)).toArray =
            bx.cells.extract 0 (n * i.size) ++ by_.cells.extract off2 (off2 + m * i.size) ++ bx.cells.extract (n * i.size + m * i.size) bx.cells.size := by
          apply Array.ext'
          rw [hlen]
          simp [List.take_of_length_le]
        rw [e1, hel]; exact hk'
      · have hlo : (bx.cells.extract 0 (n * i.size)).toList.length = n * i.size := by
          have : n * i.size ≤ bx.cells.size := by rw [hsz]; exact Nat.mul_le_mul_right _ hnc
          simp; omega
        have holds : ∀ j v, (bx.cells.extract 0 (n * i.size)).toList[j]? = some v → w.cell? ((⟨b, 0, none⟩ : Addr).add j) = some v := by
          intro j v hj
          rw [addr_add, cell_of_row w b _ _ _ _ hg1]
          simp only [Array.getElem?_toList, Array.getElem?_extract] at hj
          split at hj
          · exact hj
          · cases hj
        have hcap : Builtin.nextslicecap (n + m) cap * i.bytes ≤ 281474976710656 := by
          have h1 := nextcap_le (n + m) cap (by omega)
          calc Builtin.nextslicecap (n + m) cap * i.bytes ≤ (4 * (n + m) + 2000) * 64 := Nat.mul_le_mul h1 hby
            _ ≤ 281474976710656 := by omega
        have hr := run_append_grow (P := P) w t ty e i z ht hi hz ⟨b, 0, none⟩ n cap (bx.cells.extract 0 (n * i.size)).toList hlo holds ⟨b2, off2, none⟩ m cap2 (by_.cells.extract off2 (off2 + m * i.size)).toList hlen hnews (by omega) (by omega) hcap
        have hge := grownCap_ge w (n + m) cap e
        have H' := (H.drewN 1).alloc (bx.cells.extract 0 (n * i.size) ++ by_.cells.extract off2 (off2 + m * i.size) ++ Builtin.zeroCells z.cells (grownCap w (n + m) cap e - (n + m))) e
        refine ⟨_, _, _, hr, ?_, hk w.heap.size (grownCap w (n + m) cap e) (Builtin.zeroCells z.cells (grownCap w (n + m) cap e - (n + m))) (fresh_sub H'.2) hge (by rw [size_zeroCells, hzs])⟩
        have e2 : ((bx.cells.extract 0 (n * i.size)).toList.toArray ++ (by_.cells.extract off2 (off2 + m * i.size)).toList.toArray) = bx.cells.extract 0 (n * i.size) ++ by_.cells.extract off2 (off2 + m * i.size) := by
          rw [Array.toArray_toList, Array.toArray_toList]
        rw [e2]
        exact H'.1.sublist ((drop_sublist h b).cons_cons _)
    · exact hs.elim
  · exact hs.elim

theorem run_bslice {t e len : Nat} {i : TypeInfo} {z : Value} {parts : Array (Nat × Value)} {cs : Array Value} (hu : P.underlying t = some (.slice e)) (hi : P.info? e = some i) (hz : i.zero = some z)
    (hl : len * i.size ≤ 1024) (hcs : bcells i.size len z.cells parts.toList = some cs) :
    (Instr.buildSlice t len parts).run P w = .ok (.slice (some ⟨w.heap.size, 0, none⟩) len len) (w.alloc (.cells cs e)) := by
  have h24 : ¬ (len * i.size > 2 ^ 24) := by omega
  unfold bcells at hcs
  have hsz : (sizeOf e).run P w = .ok i.size w := by simp [sizeOf, run_info hi]
  have hzv : (zeroValue e).run P w = .ok z w := by simp [zeroValue, run_info hi, hz]
  simp only [Instr.buildSlice, Sem.run_bind, run_underlying hu, Result.andThen_ok, hsz]
  rw [if_neg h24]
  by_cases hz0 : len * i.size = 0
  · rw [if_pos hz0] at hcs
    rw [if_pos hz0]
    rw [pure_bind, hcs]
    rfl
  · rw [if_neg hz0] at hcs
    rw [if_neg hz0]
    simp only [Sem.run_bind, hzv, Sem.run_pure, Result.andThen_ok]
    rw [hcs]
    rfl

theorem run_newVar {t : Nat} {v : Value} : (newVar t v).run P w = .ok ⟨w.heap.size, 0, none⟩ (w.alloc (.cells v.cells t)) := rfl

theorem run_vstore {t n : Nat} {p v : Value} {k : Value → Hp → Prop} (H : Holds M w0 h w) (hn : sizeN P t = some n) (hs : vstore n p v h k) :
    ∃ w' h', (Instr.storeAt t p v).run P w = .ok () w' ∧ Holds M w0 h' w' ∧ k undef h' := by
  unfold vstore at hs
  split at hs
  · rename_i b off
    unfold vstoreAt at hs
    split at hs
    · rename_i bx hl
      obtain ⟨ho, hsz, hle, hone, hk⟩ := hs
      obtain ⟨hm, hb⟩ := look_mem hl
      have hg := (H.at_ bx hm).exact (.inl ho)
      rw [hb] at hg
      have hst := run_storeCells_at P b off bx.elem v.cells.toList 0 bx.cells w hg (by simp; omega) (all_one hone)
      have hrun : (Instr.storeAt t (.pointer (some ⟨b, off, none⟩)) v).run P w = .ok () (w.setRow b (bx.cells.toList.take off ++ v.cells.toList ++ bx.cells.toList.drop (off + v.cells.toList.length)).toArray) := by
        simp only [Instr.storeAt, Instr.sureAddr, Sem.run_bind, Sem.run_pure, Result.andThen_ok, storeVar, run_size hn]
        rw [if_neg (by simpa using hsz)]
        simpa using hst
      refine ⟨_, _, hrun, H.upd hl ho (keep_setRow b _) ?_, hk⟩
      have e := stored_eq (cs := bx.cells) (off := off) (v := v) (by omega)
      rw [e]
      exact setRow_heap w b bx.cells _ bx.elem (0, 0) hg
    · exact hs.elim
  · exact hs.elim

theorem stepV_sound {k : Value → Hp → Prop} {o : Oper} {op : VO} (hc : cmpOp P o = some op) (hag : Agree N ρ a) (hs : stepV P op ρ h k) (H : Holds M w0 h w) :
    genUpon P M w0 k ((execOp a.eval o).run P w) := by
  have quiet : stepQ P noRf op ρ h (kh k h) → genUpon P M w0 k ((execOp a.eval o).run P w) := fun hq => gen_of_rel (stepQ_sound hc hag hq w H)
  have hev : a.eval = Env.ev ρ := funext hag.eval
  obtain ⟨dst, oop, ty, pos, after, guard⟩ := o
  unfold cmpOp at hc
  cases oop <;> simp only at hc
  case move x => cases hc; exact quiet hs
  case assign x => cases hc; exact quiet hs
  case pick => cases hc; exact quiet hs
  case box T x =>
    cases hc
    rw [hev]
    exact gen_val (w' := w.alloc (.cells (Env.ev ρ x).cells T)) rfl (H.alloc _ T).1 (hs w.heap.size (H.alloc (Env.ev ρ x).cells T).2)
  case alloc T =>
    simp only [Option.map_eq_some_iff] at hc
    obtain ⟨z, hz, rfl⟩ := hc
    obtain ⟨i, hi, hz⟩ := Option.bind_eq_some_iff.1 hz
    refine gen_val (w' := w.alloc (.cells z.cells T)) ?_ (H.alloc _ T).1 (hs w.heap.size (H.alloc z.cells T).2)
    simp only [Instr.alloc, zeroValue, Sem.run_bind, run_info hi, Result.andThen_ok, hz, Sem.run_pure]
    rfl
  case store t x y =>
    simp only [Option.map_eq_some_iff] at hc
    obtain ⟨n, hn, rfl⟩ := hc
    rw [hev]
    obtain ⟨w', h', hr, H', hk⟩ := run_vstore H hn hs
    unfold execOp
    simp only [Sem.run_bind, hr, Result.andThen_ok, Sem.run_pure]
    exact ⟨h', H', hk⟩
  case load => simp only [Option.map_eq_some_iff] at hc; obtain ⟨n, hn, rfl⟩ := hc; exact quiet hs
  case fieldAddr =>
    split at hc
    · split at hc
      · split at hc
        · cases hc; exact quiet hs
        · cases hc
      · cases hc
    · cases hc
  case indexAddr =>
    split at hc
    · simp only [Option.map_eq_some_iff] at hc; obtain ⟨n, hn, rfl⟩ := hc; exact quiet hs
    · simp only [Option.map_eq_some_iff] at hc; obtain ⟨n, hn, rfl⟩ := hc; exact quiet hs
    · cases hc
  case index =>
    split at hc
    · split at hc
      · cases hc; exact quiet hs
      · cases hc
    · cases hc; exact quiet hs
    · cases hc
  case field =>
    split at hc
    · split at hc
      · simp only [Option.map_eq_some_iff] at hc; obtain ⟨n, hn, rfl⟩ := hc; exact quiet hs
      · cases hc
    · cases hc
  case binOp =>
    split at hc
    case h_1 | h_2 | h_3 => cases hc; exact quiet hs
    case h_4 =>
      split at hc
      · cases hc; exact quiet hs
      · cases hc; exact quiet hs
      · cases hc
    case h_5 =>
      split at hc
      · split at hc
        · cases hc; exact quiet hs
        · cases hc; exact quiet hs
        · cases hc
      · cases hc
    case h_6 =>
      split at hc
      · split at hc
        · cases hc; exact quiet hs
        · cases hc
      · cases hc
    · cases hc
  case unOp => cases hc; exact quiet hs
  case convert =>
    split at hc
    · cases hc; exact quiet hs
    · cases hc; exact quiet hs
    · cases hc
  case extract => cases hc; exact quiet hs
  case nilCheck => cases hc; exact quiet hs
  case build =>
    split at hc
    · split at hc
      · cases hc; exact quiet hs
      · cases hc
    · split at hc
      · cases hc; exact quiet hs
      · cases hc
    · cases hc
  case makeFunc fn first captured =>
    cases fn <;> simp only at hc <;> try (cases hc; done)
    cases hc; exact quiet hs
  case slice t x lo hi mx =>
    cases mx with
    | some m => cases hc
    | none =>
      simp only at hc
      split at hc
      · simp only [Option.map_eq_some_iff] at hc; obtain ⟨n, hn, rfl⟩ := hc; exact quiet hs
      · cases hc
  case buildSlice t len parts =>
    split at hc
    · rename_i e hu
      split at hc
      · rename_i i hi
        split at hc
        · rename_i z hz
          split at hc
          · rename_i hl
            cases hc
            simp only [stepV] at hs
            unfold vbslice at hs
            split at hs
            · rename_i cs hcs
              rw [hev]
              refine gen_val (run_bslice (cs := cs) hu hi hz hl ?_) (H.alloc cs e).1 (hs _ (H.alloc cs e).2)
              have e1 : (parts.map fun (i, x) => (i, Env.ev ρ x)).toList = parts.toList.map fun p => (p.1, Env.ev ρ p.2) := by simp
              rw [e1]; exact hcs
            · exact hs.elim
          · cases hc
        · cases hc
      · cases hc
    · cases hc
  case call c =>
    unfold cmpCall at hc
    split at hc
    · split at hc
      · cases hc; exact quiet hs
      · cases hc; exact quiet hs
      · cases hc
    · rename_i f hcal
      split at hc
      · rename_i hcall
        cases hc
        simp only [stepV] at hs
        have e : (List.map (Env.ev ρ) c.args.toList).toArray = c.args.map (Env.ev ρ) := by rw [← Array.toList_map, Array.toArray_toList]
        rw [e] at hs
        have hres : ((do let d ← resolve (Env.ev ρ) c ty; invoke d.target d.args : Sem Next).run P w) = .ok (.enter f (c.args.map (Env.ev ρ))) w := by
          rw [← run_enter hcall]
          simp [resolve, hcal, Deferred.ofValue, Env.ev, invoke]
        rw [hev]
        unfold execOp
        rw [hres]
        exact hs M w0 w H
      · split at hc
        · split at hc
          · cases hc; exact quiet hs
          · split at hc
            · cases hc; exact quiet hs
            · split at hc
              · cases hc; exact quiet hs
              · split at hc
                · cases hc; exact quiet hs
                · split at hc
                  · cases hc; exact quiet hs
                  · split at hc
                    · cases hc; exact quiet hs
                    · cases hc
        · cases hc
    · rename_i t hcal
      cases hc
      simp only [stepV] at hs
      unfold vcallv at hs
      split at hs
      · rename_i f first captured hx
        obtain ⟨hcall, hs⟩ := hs
        have e : (List.map (Env.ev ρ) c.args.toList).toArray = c.args.map (Env.ev ρ) := by rw [← Array.toList_map, Array.toArray_toList]
        rw [e] at hs
        have hres : ((do let d ← resolve (Env.ev ρ) c ty; invoke d.target d.args : Sem Next).run P w) = .ok (.enter f (first ++ c.args.map (Env.ev ρ) ++ captured)) w := by
          rw [← run_enter hcall]
          simp [resolve, hcal, Deferred.ofValue, hx, invoke]
        rw [hev]
        unfold execOp
        rw [hres]
        exact hs M w0 w H
      · exact hs.elim
    · rename_i hcal
      split at hc
      · rename_i s x t t' hargs htys
        split at hc
        · rename_i htt
          subst htt
          split at hc
          · rename_i e hu
            split at hc
            · rename_i i hi
              split at hc
              · rename_i z hz
                split at hc
                · rename_i hcond
                  cases hc
                  simp only [stepV] at hs
                  have hca : c.args = #[s, x] := by rw [← Array.toList_inj]; simpa using hargs
                  have hct : c.argTypes = #[t, t] := by rw [← Array.toList_inj]; simpa using htys
                  obtain ⟨v, w', h', hr, H', hk⟩ := run_vapp (ty := ty) H hu hi hz hcond.1 hcond.2.1 hcond.2.2 hs
                  rw [hev]
                  unfold execOp
                  simp only [resolve, hcal, hca, hct, Sem.run_bind, Sem.run_pure, Result.andThen_ok, invoke, builtin]
                  simp only [List.map_toArray, List.map_cons, List.map_nil, hr, Result.andThen_ok]
                  exact ⟨h', H', hk⟩
                · cases hc
              · cases hc
            · cases hc
          · cases hc
        · cases hc
      · cases hc
    · split at hc
      · cases hc; exact quiet hs
      · cases hc
    · cases hc
  case makeSlice t l c =>
    split at hc
    · rename_i e hu
      split at hc
      · rename_i i hi
        split at hc
        · rename_i z hz
          split at hc
          · rename_i hcond
            cases hc
            simp only [stepV] at hs
            unfold vmks at hs
            split at hs
            · rename_i k1 l' k2 m hl hm
              obtain ⟨⟨rfl, h0, h1⟩, hk⟩ := hs
              rw [hev]
              have hb : (i.bytes : Int) * l' ≤ 281474976710656 := by
                have h2 : (i.bytes : Int) ≤ 64 := by omega
                calc (i.bytes : Int) * l' ≤ 64 * l' := Int.mul_le_mul_of_nonneg_right h2 h0
                  _ ≤ 281474976710656 := by omega
              have hr := run_make (P := P) w t e i z hu hi hz k1 k2 l' l' h0 (Int.le_refl _) hb (by omega)
              refine gen_val (w' := w.alloc (.cells (madeCells z.cells (l'.toNat * i.size)) e)) ?_ (H.alloc (madeCells z.cells (l'.toNat * i.size)) e).1 (hk _ (H.alloc (madeCells z.cells (l'.toNat * i.size)) e).2)
              rw [hl, hm]; exact hr
            · exact hs.elim
          · cases hc
        · cases hc
      · cases hc
    · cases hc
  all_goals (cases hc; done)

end
end Go.Vc
