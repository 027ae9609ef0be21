/- Functions: contracts out of the generator; the generator's equations. -/
import Derived.Test.YtnfipcfhnhhcmaaDoorVcCode
set_option linter.all false
namespace Go.Vc
open Go Go.Fl

inductive RV where
  | tmp (t : Nat)
  | cell (t : Nat) (n : Option Nat)

structure FV where
  n : Nat
  rs : List RV
  body : V

def cmpRV (P : Program) : ResultVar → Option RV
  | .tmp t => some (.tmp t)
  | .cell t ty => (aggN P ty).map (.cell t)

def cmpRVs (P : Program) : List ResultVar → Option (List RV)
  | [] => some []
  | r :: l => match cmpRV P r, cmpRVs P l with | some r, some l => some (r :: l) | _, _ => none

def cmpF (P : Program) (fn : Func) : Option FV :=
  match fn.body with
  | some c =>
    match cmp P fn.ntmps c, cmpRVs P fn.results.toList with
    | some v, some rs => some ⟨fn.ntmps, rs, v⟩
    | _, _ => none
  | none => none

def resv : RV → Env → Hp → (Value → Prop) → Prop
  | .tmp t, ρ, _, k => k (Env.get ρ t)
  | .cell t n, ρ, h, k => vload n (Env.get ρ t) h k

def ret2b (Q : Value → Hp → Prop) (h : Hp) (u v : Value) : Prop := Q (.tuple #[u, v]) h
def ret2 (Q : Value → Hp → Prop) (r : RV) (ρ : Env) (h : Hp) (u : Value) : Prop := resv r ρ h (ret2b Q h u)
def ret3c (Q : Value → Hp → Prop) (h : Hp) (u v x : Value) : Prop := Q (.tuple #[u, v, x]) h
def ret3b (Q : Value → Hp → Prop) (r : RV) (ρ : Env) (h : Hp) (u v : Value) : Prop := resv r ρ h (ret3c Q h u v)
def ret3 (Q : Value → Hp → Prop) (r s : RV) (ρ : Env) (h : Hp) (u : Value) : Prop := resv r ρ h (ret3b Q s ρ h u)

def vret (rs : List RV) (Q : Value → Hp → Prop) : Kont := fun ρ h =>
  match rs with
  | [] => Q (.tuple #[]) h
  | [r] => resv r ρ h (kh Q h)
  | [r, s] => resv r ρ h (ret2 Q s ρ h)
  | [r, s, t] => resv r ρ h (ret3 Q s t ρ h)
  | _ => False

def argEnv : List Value → Nat → Env
  | [], _ => []
  | v :: vs, i => (i, v) :: argEnv vs (i + 1)

theorem argEnv_get (vs : List Value) : ∀ (i t : Nat), Env.get (argEnv vs i) t = if i ≤ t then (vs[t - i]?).getD undef else undef := by
  induction vs with
  | nil => intro i t; simp [argEnv, Env.get]
  | cons v vs ih =>
    intro i t
    simp only [argEnv, Env.get]
    by_cases h : t = i
    · subst h; simp
    · rw [if_neg h, ih]
      by_cases h2 : i + 1 ≤ t
      · rw [if_pos h2, if_pos (by omega), show t - i = (t - (i + 1)) + 1 by omega]
        simp
      · rw [if_neg h2, if_neg (by omega)]

section
variable {P : Program} {M : Nat → Prop} {w0 w : World} {h : Hp}

/-- one result of a function -/
def resS (tmps : Array Value) : ResultVar → Sem Value
  | .tmp t => pure (tmps.getD t undef)
  | .cell t ty => do loadVar ty (← asAddr (tmps.getD t undef))

theorem results_eq (fn : Func) (tmps : Array Value) : results fn tmps = (do let vs ← fn.results.mapM (resS tmps); pure (if h : vs.size = 1 then vs[0] else .tuple vs)) := by
  unfold results
  congr 1

theorem run_resv {r : ResultVar} {rv : RV} {N : Nat} {ρ : Env} {a : Act} {k : Value → Prop} (hr : cmpRV P r = some rv) (hag : Agree N ρ a) (H : Holds M w0 h w) (hk : resv rv ρ h k) :
    ∃ v, (resS a.tmps r).run P w = .ok v w ∧ k v := by
  cases r with
  | tmp t =>
    simp only [cmpRV, Option.some.injEq] at hr; subst hr
    exact ⟨_, rfl, by rw [hag.eq]; exact hk⟩
  | cell t ty =>
    simp only [cmpRV, Option.map_eq_some_iff] at hr
    obtain ⟨n, hn, rfl⟩ := hr
    simp only [resv] at hk
    unfold vload at hk
    split at hk
    · rename_i b off hx
      unfold vloadAt at hk
      split at hk
      · rename_i blk hl
        obtain ⟨hm, hb⟩ := look_mem hl
        subst hb
        obtain ⟨v, hrun, hk⟩ := run_loadVar_blk (P := P) (H.at_ blk hm) hn hk
        refine ⟨v, ?_, hk⟩
        simp only [resS, hag.eq, hx, asAddr, Sem.run_bind, Sem.run_pure, Result.andThen_ok]
        exact hrun
      · exact hk.elim
    · exact hk.elim

theorem run_vret {fn : Func} {rs : List RV} {N : Nat} {ρ : Env} {a : Act} {Q : Value → Hp → Prop} (hr : cmpRVs P fn.results.toList = some rs) (hag : Agree N ρ a) (H : Holds M w0 h w) (hv : vret rs Q ρ h) :
    ∃ v, (results fn a.tmps).run P w = .ok v w ∧ Q v h := by
  have hres : fn.results = fn.results.toList.toArray := by simp
  generalize hl : fn.results.toList = l at hr hres
  rw [results_eq, hres]
  match l, rs, hr with
  | [], rs, hr =>
    simp only [cmpRVs, Option.some.injEq] at hr; subst hr
    exact ⟨_, by simp, hv⟩
  | [r], rs, hr =>
    simp only [cmpRVs] at hr
    cases h1 : cmpRV P r with
    | none => simp [h1] at hr
    | some r1 =>
      simp [h1] at hr; subst hr
      obtain ⟨v, e1, hk⟩ := run_resv h1 hag H hv
      refine ⟨v, ?_, hk⟩
      simp [e1]
  | [r, s], rs, hr =>
    simp only [cmpRVs] at hr
    cases h1 : cmpRV P r with
    | none => simp [h1] at hr
    | some r1 =>
      cases h2 : cmpRV P s with
      | none => simp [h1, h2] at hr
      | some s1 =>
        simp [h1, h2] at hr; subst hr
        obtain ⟨u, e1, hk⟩ := run_resv h1 hag H hv
        obtain ⟨v, e2, hk⟩ := run_resv h2 hag H hk
        refine ⟨_, ?_, hk⟩
        simp [e1, e2]
  | [r, s, t], rs, hr =>
    simp only [cmpRVs] at hr
    cases h1 : cmpRV P r with
    | none => simp [h1] at hr
    | some r1 =>
      cases h2 : cmpRV P s with
      | none => simp [h1, h2] at hr
      | some s1 =>
        cases h3 : cmpRV P t with
        | none => simp [h1, h2, h3] at hr
        | some t1 =>
          simp [h1, h2, h3] at hr; subst hr
          obtain ⟨u, e1, hk⟩ := run_resv h1 hag H hv
          obtain ⟨v, e2, hk⟩ := run_resv h2 hag H hk
          obtain ⟨x, e3, hk⟩ := run_resv h3 hag H hk
          refine ⟨_, ?_, hk⟩
          simp [e1, e2, e3]
  | r :: s :: t :: u :: l, rs, hr =>
    exfalso
    have : ∀ (l : List ResultVar) (rs : List RV), cmpRVs P l = some rs → rs.length = l.length := by
      intro l
      induction l with
      | nil => intro rs hr; simp only [cmpRVs, Option.some.injEq] at hr; subst hr; rfl
      | cons r l ih =>
        intro rs hr
        simp only [cmpRVs] at hr
        split at hr
        · rename_i r' l' h1 h2
          simp only [Option.some.injEq] at hr; subst hr
          simp [ih _ h2]
        · cases hr
    have hlen := this _ _ hr
    match rs, hlen with
    | a :: b :: c :: d :: rs, _ => exact hv.elim

theorem calls_of_vc {f : Nat} {fn : Func} {fv : FV} {args : Array Value} {Q : Value → Hp → Prop} (hf : P.funcs[f]? = some fn) (hc : cmpF P fn = some fv) (hargs : Nat.ble args.size fv.n = true) (H : Holds M w0 h w)
    (hv : vc P (vret fv.rs Q) fv.body (vret fv.rs Q) [] (argEnv args.toList 0) h) :
    Calls P f args w fun e w' => ∃ v h', e = .returned v ∧ Holds M w0 h' w' ∧ Q v h' := by
  unfold cmpF at hc
  split at hc
  case h_2 => cases hc
  rename_i c hb
  split at hc
  case h_2 => cases hc
  rename_i v rs hcv hcr
  simp only [Option.some.injEq] at hc; subst hc
  refine calls_of_wp hf hb ?_
  replace hargs := Nat.le_of_ble_eq_true hargs
  have hag : Agree fn.ntmps (argEnv args.toList 0) { tmps := args ++ Array.replicate (fn.ntmps - args.size) undef, defers := [] } := by
    refine ⟨by simp; simp at hargs; omega, rfl, fun t => ?_⟩
    rw [argEnv_get]
    simp only [Nat.zero_le, if_true, Nat.sub_zero, Array.getElem?_toList, Array.getD_eq_getD_getElem?, Array.getElem?_append]
    by_cases ht : t < args.size
    · rw [if_pos ht]
    · have h1 : args[t]? = none := Array.getElem?_eq_none (by omega)
      rw [if_neg ht, h1]
      simp only [Array.getElem?_replicate]
      split <;> rfl
  refine wp_mono (vc_sound c v _ _ _ h _ w hcv hv hag H) ?_
  intro e a w' hp
  cases e with
  | normal =>
    obtain ⟨ρ', h', h1, h2, h3⟩ := hp
    obtain ⟨u, hr, hQ⟩ := run_vret hcr h1 h2 h3
    exact ⟨h1.defers, u, hr, u, h', rfl, h2, hQ⟩
  | ret =>
    obtain ⟨ρ', h', h1, h2, h3⟩ := hp
    obtain ⟨u, hr, hQ⟩ := run_vret hcr h1 h2 h3
    exact ⟨h1.defers, u, hr, u, h', rfl, h2, hQ⟩
  | exit id =>
    obtain ⟨ρ', h', h1, h2, h3⟩ := hp
    exact h3.elim
  | goto l => exact hp.elim
  | panic ch => exact hp.elim
  | outgrown => exact hp.elim

/-- a call that leaves all that was there as it was, and whose result is of the set -/
def PureC (P : Program) (f : Nat) (args : Array Value) (w : World) (R : Value → Prop) : Prop :=
  Calls P f args w fun e w' => ∃ v, e = .returned v ∧ Keep (· < w.heap.size) w w' ∧ R v

/-- .. and that hands back new memory -/
def MemC (P : Program) (f : Nat) (args : Array Value) (w : World) (Q : Value → Hp → Prop) : Prop :=
  Calls P f args w fun e w' => ∃ v h', e = .returned v ∧ Holds (· < w.heap.size) w h' w' ∧ (∀ x ∈ h', x.own = true) ∧ Q v h'

/-- .. and that writes the block b -/
def MutC (P : Program) (f : Nat) (args : Array Value) (w : World) (b T : Nat) (Q : Value → Array Value → Prop) : Prop :=
  Calls P f args w fun e w' => ∃ v cs, e = .returned v ∧ Keep (fun k => k < w.heap.size ∧ k ≠ b) w w' ∧ w'.heap[b]? = some (.cells cs T (0, 0)) ∧ Q v cs

/-- blocks that lie in a world -/
structure There (w : World) (h : Hp) : Prop where
  at_ : ∀ x ∈ h, Lay w x ∧ x.own = false
  nodup : (h.map (·.base)).Nodup

theorem There.nil : There w [] := ⟨fun _ hx => (by cases hx), List.nodup_nil⟩

theorem There.holds (ht : There w h) : Holds (· < w.heap.size) w h w :=
  ⟨Keep.refl _ _, fun _ hk => hk, fun x hx => (ht.at_ x hx).1, fun x hx ho => absurd ho (by rw [(ht.at_ x hx).2]; decide), ht.nodup⟩

theorem There.of_holds (H : Holds M w0 h w) {l : Hp} (hl : ∀ x ∈ l, x.own = false ∧ ∃ y ∈ h, y.base = x.base ∧ y.cells = x.cells ∧ y.elem = x.elem) (hn : (l.map (·.base)).Nodup) : There w l :=
  ⟨fun x hx => by
    obtain ⟨h1, y, hy, e1, e2, e3⟩ := hl x hx
    obtain ⟨T, fz, k1, k2⟩ := H.at_ y hy
    rw [e1, e2] at k1
    refine ⟨⟨T, fz, k1, fun ho => ?_⟩, h1⟩
    rcases ho with ho | ho
    · rw [h1] at ho; cases ho
    · rw [← e3] at ho ⊢; exact k2 (.inr ho), hn⟩

theorem pure_of_vc {f : Nat} {fn : Func} {fv : FV} {args : Array Value} {R : Value → Prop} (hf : P.funcs[f]? = some fn) (hc : cmpF P fn = some fv) (hargs : Nat.ble args.size fv.n = true) (ht : There w h)
    (hv : vc P (vret fv.rs (fun v _ => R v)) fv.body (vret fv.rs (fun v _ => R v)) [] (argEnv args.toList 0) h) : PureC P f args w R :=
  (calls_of_vc hf hc hargs ht.holds hv).mono fun _ _ ⟨v, _, he, H, hR⟩ => ⟨v, he, H.keep, hR⟩

theorem mem_of_vc {f : Nat} {fn : Func} {fv : FV} {args : Array Value} {Q : Value → Hp → Prop} (hf : P.funcs[f]? = some fn) (hc : cmpF P fn = some fv) (hargs : Nat.ble args.size fv.n = true) (ht : There w h)
    (hv : vc P (vret fv.rs (fun v h => ∃ h', h'.Sublist h ∧ (∀ x ∈ h', x.own = true) ∧ Q v h')) fv.body (vret fv.rs (fun v h => ∃ h', h'.Sublist h ∧ (∀ x ∈ h', x.own = true) ∧ Q v h')) [] (argEnv args.toList 0) h) : MemC P f args w Q :=
  (calls_of_vc hf hc hargs ht.holds hv).mono fun _ _ ⟨v, _, he, H, h', hs, ho, hQ⟩ => ⟨v, h', he, H.sublist hs, ho, hQ⟩

theorem mut_of_vc {f : Nat} {fn : Func} {fv : FV} {args : Array Value} {b T : Nat} {cs : Array Value} {Q : Value → Array Value → Prop} (hf : P.funcs[f]? = some fn) (hc : cmpF P fn = some fv) (hargs : Nat.ble args.size fv.n = true)
    (hb : w.heap[b]? = some (.cells cs T (0, 0))) (ht : There w h) (hfr : Fresh b h) (hT0 : T ≠ anyT)
    (hv : vc P (vret fv.rs (fun v h => ∃ x, look h b = some x ∧ x.elem = T ∧ Q v x.cells)) fv.body (vret fv.rs (fun v h => ∃ x, look h b = some x ∧ x.elem = T ∧ Q v x.cells)) [] (argEnv args.toList 0) (⟨b, cs, T, true⟩ :: h)) : MutC P f args w b T Q := by
  have H : Holds (fun k => k < w.heap.size ∧ k ≠ b) w (⟨b, cs, T, true⟩ :: h) w := by
    refine ⟨Keep.refl _ _, fun _ hk => hk.1, ?_, ?_, ?_⟩
    · intro x hx
      cases hx with
      | head => exact .mk hb
      | tail _ hx => exact (ht.at_ x hx).1
    · intro x hx ho
      cases hx with
      | head => exact fun hk => hk.2 rfl
      | tail _ hx => rw [(ht.at_ x hx).2] at ho; cases ho
    · simp only [List.map_cons, List.nodup_cons]
      exact ⟨fun hm => by obtain ⟨x, hx, e⟩ := List.mem_map.1 hm; exact hfr x hx e.symm, ht.nodup⟩
  refine (calls_of_vc hf hc hargs H hv).mono fun _ w' ⟨v, h', he, H', x, hl, hT, hQ⟩ => ⟨v, x.cells, he, H'.keep, ?_, hQ⟩
  obtain ⟨hm, hb'⟩ := look_mem hl
  have := (H'.at_ x hm).exact (.inr (by rw [hT]; exact hT0))
  rw [hb', hT] at this
  exact this

theorem callG_pure {f : Nat} {args : Array Value} {R : Value → Prop} {k : Value → Hp → Prop} (hp : ∀ M w0 w, Holds M w0 h w → PureC P f args w R) (hk : ∀ v, R v → k v h) : callG P f args h k :=
  fun M w0 w H => (hp M w0 w H).mono fun _ _ ⟨v, he, hkeep, hR⟩ => ⟨v, h, he, H.step hkeep, hk v hR⟩

theorem callQ_pure {f : Nat} {args : Array Value} {Rf : Nat → Array Value → Value → Prop} {k : Value → Prop} (hp : ∀ M w0 w, Holds M w0 h w → PureC P f args w (Rf f args)) (hk : ∀ v, Rf f args v → k v) : callQ P Rf f args h k :=
  ⟨fun M w0 w H => (hp M w0 w H).mono fun _ _ ⟨v, he, hkeep, hR⟩ => ⟨v, he, H.step hkeep, hR⟩, hk⟩

theorem Holds.join {h' : Hp} {w' : World} (H : Holds M w0 h w) (H' : Holds (· < w.heap.size) w h' w') (ho : ∀ x ∈ h', x.own = true) : Holds M w0 (h' ++ h) w' ∧ ∀ x ∈ h', Fresh x.base h := by
  have hge : ∀ x ∈ h', w.heap.size ≤ x.base := fun x hx => Nat.le_of_not_lt (H'.own x hx (ho x hx))
  have hf : ∀ x ∈ h', Fresh x.base h := fun x hx y hy e => by have := hge x hx; have := H.lt hy; omega
  have Hs := H.step H'.keep
  refine ⟨⟨Hs.keep, H.sub, ?_, ?_, ?_⟩, hf⟩
  · intro x hx
    rcases List.mem_append.1 hx with hx | hx
    · exact H'.at_ x hx
    · exact Hs.at_ x hx
  · intro x hx hxo
    rcases List.mem_append.1 hx with hx | hx
    · intro hM
      have := H.sub _ hM
      have := hge x hx
      have := H.keep.size
      omega
    · exact H.own x hx hxo
  · rw [List.map_append]
    refine List.nodup_append.2 ⟨H'.nodup, H.nodup, ?_⟩
    intro a ha b hb e
    obtain ⟨x, hx, rfl⟩ := List.mem_map.1 ha
    obtain ⟨y, hy, rfl⟩ := List.mem_map.1 hb
    exact hf x hx y hy e

theorem callG_mem {f : Nat} {args : Array Value} {Q : Value → Hp → Prop} {k : Value → Hp → Prop} (hp : ∀ M w0 w, Holds M w0 h w → MemC P f args w Q)
    (hk : ∀ v h', Q v h' → (∀ x ∈ h', Fresh x.base h) → k v (h' ++ h)) : callG P f args h k :=
  fun M w0 w H => (hp M w0 w H).mono fun _ _ ⟨v, h', he, H', ho, hQ⟩ =>
    let hj := H.join H' ho
    ⟨v, h' ++ h, he, hj.1, hk v h' hQ hj.2⟩

theorem base_inj : ∀ (l : Hp), (l.map (·.base)).Nodup → ∀ p ∈ l, ∀ q ∈ l, p.base = q.base → p = q := by
  intro l
  induction l with
  | nil => intro _ p hp; cases hp
  | cons a l ih =>
    intro hn p hp q hq e
    simp only [List.map_cons, List.nodup_cons] at hn
    cases hp with
    | head => cases hq with
      | head => rfl
      | tail _ hq => exact absurd (List.mem_map.2 ⟨q, hq, e.symm⟩) hn.1
    | tail _ hp => cases hq with
      | head => exact absurd (List.mem_map.2 ⟨p, hp, e⟩) hn.1
      | tail _ hq => exact ih hn.2 p hp q hq e

theorem callG_mut {f : Nat} {args : Array Value} {b : Nat} {x : Blk} {Q : Value → Array Value → Prop} {k : Value → Hp → Prop} (hl : look h b = some x) (hown : x.own = true) (hp : ∀ M w0 w, Holds M w0 h w → MutC P f args w b x.elem Q)
    (hk : ∀ v cs, Q v cs → k v (upd h b cs)) : callG P f args h k := by
  intro M w0 w H
  refine (hp M w0 w H).mono fun _ w' ⟨v, cs, he, hkeep, hb, hQ⟩ => ⟨v, upd h b cs, he, ?_, hk v cs hQ⟩
  obtain ⟨hm, hbb⟩ := look_mem hl
  have hlt := H.lt hm
  -- the block and the others
  have hnm : ¬ M b := hbb ▸ H.own x hm hown
  refine ⟨H.keep.trans (hkeep.mono fun k hMk => ⟨Nat.lt_of_lt_of_le (H.sub k hMk) H.keep.size, fun e => hnm (e ▸ hMk)⟩), H.sub, ?_, ?_, ?_⟩
  · intro y hy
    rcases upd_mem H.nodup hy with ⟨h1, h2⟩ | ⟨z, h1, h2, rfl⟩
    · exact (H.at_ y h1).same (hkeep.block _ ⟨H.lt h1, h2⟩)
    · obtain rfl : z = x := base_inj h H.nodup z h1 x hm (h2.trans hbb.symm)
      refine .mk ?_
      show w'.heap[z.base]? = some (.cells cs z.elem (0, 0))
      rw [h2]; exact hb
  · intro y hy hyo
    rcases upd_mem H.nodup hy with ⟨h1, h2⟩ | ⟨z, h1, h2, rfl⟩
    · exact H.own y h1 hyo
    · show ¬ M z.base
      rw [h2]; exact hnm
  · rw [upd_base]; exact H.nodup

theorem PureC.mono {f : Nat} {args : Array Value} {R R' : Value → Prop} (hp : PureC P f args w R) (hr : ∀ v, R v → R' v) : PureC P f args w R' :=
  Calls.mono hp fun _ _ ⟨v, he, hk, hR⟩ => ⟨v, he, hk, hr v hR⟩

end
end Go.Vc
