/- Regions that draw their order, whose operations keep what is known of the heap and yield a value out of a set: one walk in the order of the text serves every order. -/
import Derived.Test.YtnfipcfhnhhcmaaDoorVcBase
set_option linter.all false
namespace Go.Vc
open Go

section
variable {P : Program} {ops : Array Oper} {md : Region.Mode} {C : World → Prop} {Rf : Nat → Array Value → Value → Prop}

/-- what one operation may do: a value of the set, a world of the class; of a call: a value out of the callee's own set 'Rf f args', which is named ahead for the whole region -/
def relUpon (P : Program) (C : World → Prop) (Rf : Nat → Array Value → Value → Prop) (S : Value → Prop) : Result Next → Prop
  | .ok (.value u) w' => C w' ∧ S u
  | .ok .skip w' => C w' ∧ S undef
  | .ok (.enter f args) w' => Calls P f args w' (fun e w'' => ∃ u, e = .returned u ∧ C w'' ∧ Rf f args u) ∧ ∀ u, Rf f args u → S u
  | _ => False

def relAt (P : Program) (C : World → Prop) (Rf : Nat → Array Value → Value → Prop) (o : Oper) (a : Act) (S : Value → Prop) : Prop := ∀ w, C w → relUpon P C Rf S ((execOp a.eval o).run P w)

theorem relUpon_mono {S S' : Value → Prop} (h : ∀ v, S v → S' v) {r : Result Next} (hr : relUpon P C Rf S r) : relUpon P C Rf S' r := by
  cases r with
  | halt x w => exact hr
  | ok n w =>
    cases n <;> first
      | exact hr
      | exact ⟨hr.1, h _ hr.2⟩
      | exact ⟨hr.1, fun u hu => h _ (hr.2 u hu)⟩

/-- the lexical walk -/
def wpRel (P : Program) (ops : Array Oper) (C : World → Prop) (Rf : Nat → Array Value → Value → Prop) (Q : Act → Prop) : List Oper → Act → Prop
  | [], a => Q a
  | o :: rest, a =>
    if Region.wanted o (yielded ops a.tmps) then ∃ S : Value → Prop, relAt P C Rf o a S ∧ ∀ v, S v → wpRel P ops C Rf Q rest (a.put o.dst v)
    else wpRel P ops C Rf Q rest (a.put o.dst undef)

def rOp (P : Program) (ops : Array Oper) (C : World → Prop) (Rf : Nat → Array Value → Value → Prop) (i : Nat) (K : Act → Prop) (a : Act) : Prop :=
  match ops[i]? with
  | none => K a
  | some o => if Region.wanted o (yielded ops a.tmps) then ∃ S : Value → Prop, relAt P C Rf o a S ∧ ∀ v, S v → K (a.put o.dst v) else K (a.put o.dst undef)

theorem rOp_mono {i : Nat} {a : Act} {K K' : Act → Prop} (h : ∀ a, K a → K' a) (hh : rOp P ops C Rf i K a) : rOp P ops C Rf i K' a := by
  unfold rOp at *
  split
  · exact h _ (by simpa [*] using hh)
  · rename_i o ho
    simp only [ho] at hh
    split
    · rename_i hw; simp only [hw, if_true] at hh; obtain ⟨S, h1, h2⟩ := hh; exact ⟨S, h1, fun v hv => h _ (h2 v hv)⟩
    · rename_i hw; simp only [hw] at hh; exact h _ hh

def wpAnyR (P : Program) (md : Region.Mode) (ops : Array Oper) (C : World → Prop) (Rf : Nat → Array Value → Value → Prop) (Q : Act → Prop) : Nat → Array Bool → Act → Prop
  | 0, listed, a => Region.ready md ops listed = [] ∧ Q a
  | fuel + 1, listed, a =>
    (Region.ready md ops listed = [] → Q a) ∧
    ∀ i ∈ Region.ready md ops listed, rOp P ops C Rf i (wpAnyR P md ops C Rf Q fuel (listed.setIfInBounds i true)) a

theorem wp_of_rel {o : Oper} {a : Act} {S : Value → Prop} {K : Act → Prop} {K' : Act → World → Prop} {Q' : Exit → Act → World → Prop} {w : World} (hw : C w)
    (h : ∀ a w', C w' → K a → K' a w') (hr : relAt P C Rf o a S) (hS : ∀ v, S v → K (a.put o.dst v)) : o.wp P a w K' Q' := by
  have h3 := hr w hw
  unfold Oper.wp
  generalize (execOp a.eval o).run P w = r at *
  cases r with
  | ok n w' =>
    cases n <;> simp only [relUpon] at h3 <;> simp only [Oper.upon]
    case value u => exact h _ _ h3.1 (hS _ h3.2)
    case skip => exact h _ _ h3.1 (hS _ h3.2)
    case enter f args => exact h3.1.mono fun e w'' ⟨u, he, hc, hs⟩ => by subst he; exact h _ _ hc (hS _ (h3.2 _ hs))
  | halt x w' => simp only [relUpon] at h3

theorem wpOp_of_rOp {i : Nat} {a : Act} {K : Act → Prop} {K' : Act → World → Prop} {Q' : Exit → Act → World → Prop} {w : World} (hC : C w) (h : ∀ a w', C w' → K a → K' a w') (hh : rOp P ops C Rf i K a) : wpOp P ops Q' i K' a w := by
  unfold rOp at hh
  unfold wpOp
  split
  · rename_i ho; simp only [ho] at hh; exact h _ _ hC hh
  · rename_i o ho
    simp only [ho] at hh
    split
    · rename_i hw; simp only [hw, if_true] at hh; obtain ⟨S, h1, h2⟩ := hh; exact .inl (wp_of_rel hC h h1 h2)
    · rename_i hw; simp only [hw] at hh; exact h _ _ hC hh

theorem wpAny_of_rel {Q : Act → Prop} {Q' : Exit → Act → World → Prop} (hQ : ∀ a w, C w → Q a → Q' .normal a w) : ∀ (fuel : Nat) (listed : Array Bool) (a : Act) (w : World), C w →
    wpAnyR P md ops C Rf Q fuel listed a → wpAny P md ops Q' fuel listed a w
  | 0, _, _, _, hw, h => ⟨h.1, hQ _ _ hw h.2⟩
  | fuel + 1, _, _, _, hw, h => ⟨fun h0 => hQ _ _ hw (h.1 h0), fun i hi => wpOp_of_rOp hw (fun a' w' hw' => wpAny_of_rel hQ fuel _ a' w' hw') (h.2 i hi)⟩

/-- in state 'a' the operation yields a value of the set -/
def YieldsR (P : Program) (ops : Array Oper) (C : World → Prop) (Rf : Nat → Array Value → Value → Prop) (o : Oper) (S : Value → Prop) (a : Act) : Prop :=
  (Region.wanted o (yielded ops a.tmps) = true ∧ relAt P C Rf o a S) ∨
  (Region.wanted o (yielded ops a.tmps) = false ∧ S undef)

theorem YieldsR.rOp {i : Nat} {o : Oper} {S : Value → Prop} {a : Act} (hi : ops[i]? = some o) (hy : YieldsR P ops C Rf o S a) {K : Act → Prop} (h : ∀ v, S v → K (a.put o.dst v)) : rOp P ops C Rf i K a := by
  unfold Vc.rOp
  simp only [hi]
  rcases hy with ⟨hw, hv⟩ | ⟨hw, hs⟩
  · simp only [hw, if_true]; exact ⟨S, hv, h⟩
  · simp only [hw, Bool.false_eq_true, if_false]; exact h _ hs

theorem YieldsR.of_same {o : Oper} {S : Value → Prop} {a a' : Act} (hy : YieldsR P ops C Rf o S a) (he : execOp a'.eval o = execOp a.eval o)
    (hw : Region.wanted o (yielded ops a'.tmps) = Region.wanted o (yielded ops a.tmps)) : YieldsR P ops C Rf o S a' := by
  unfold YieldsR relAt at *
  rw [he, hw]
  exact hy

theorem yieldsR_of_rOp {i : Nat} {o : Oper} {a : Act} {K : Act → Prop} (hi : ops[i]? = some o) (h : rOp P ops C Rf i K a) : ∃ S : Value → Prop, YieldsR P ops C Rf o S a ∧ ∀ v, S v → K (a.put o.dst v) := by
  unfold rOp at h
  simp only [hi] at h
  by_cases hw : Region.wanted o (yielded ops a.tmps) = true
  · simp only [hw, if_true] at h
    obtain ⟨S, h1, h2⟩ := h
    exact ⟨S, .inl ⟨hw, h1⟩, h2⟩
  · simp only [hw] at h
    exact ⟨fun v => v = undef, .inr ⟨by simpa using hw, rfl⟩, fun v hv => by subst hv; exact h⟩

/-- the sets met after each value of a set, as one set -/
theorem rel_all {S : Value → Prop} {o : Oper} {a : Act} {K : Value → Value → Prop} (hS : ∃ v, S v)
    (h : ∀ v, S v → ∃ T : Value → Prop, relAt P C Rf o a T ∧ ∀ u, T u → K v u) : ∃ T : Value → Prop, relAt P C Rf o a T ∧ ∀ u, T u → ∀ v, S v → K v u := by
  refine ⟨fun u => ∀ v, S v → K v u, fun w hw => ?_, fun u h v hv => h v hv⟩
  have key : ∀ v, S v → relUpon P C Rf (K v) ((execOp a.eval o).run P w) := fun v hv => by
    obtain ⟨T, h1, h2⟩ := h v hv
    exact relUpon_mono h2 (h1 w hw)
  obtain ⟨v0, h0⟩ := hS
  have k0 := key v0 h0
  generalize (execOp a.eval o).run P w = r at *
  cases r with
  | halt x w' => exact k0.elim
  | ok n w' =>
    cases n with
    | value u => exact ⟨k0.1, fun v hv => (key v hv).2⟩
    | skip => exact ⟨k0.1, fun v hv => (key v hv).2⟩
    | enter f args => exact ⟨k0.1, fun u hu v hv => (key v hv).2 u hu⟩
    | _ => exact k0.elim

/-- an operation apart from another: the other's value makes no difference to it, and it makes none to the other -/
theorem rOp_put {j : Nat} {oi oj : Oper} {S : Value → Prop} (hS : ∃ v, S v) (hj : ops[j]? = some oj) (hap : oi.apart ops oj = true)
    (hsi : ∀ cs b, oi.op ≠ .select cs b) (hsj : ∀ cs b, oj.op ≠ .select cs b) {K : Act → Prop} {a : Act}
    (hy : YieldsR P ops C Rf oi S a) (h : ∀ v, S v → rOp P ops C Rf j K (a.put oi.dst v)) :
    rOp P ops C Rf j (fun a' => YieldsR P ops C Rf oi S a' ∧ ∀ v, S v → K (a'.put oi.dst v)) a := by
  obtain ⟨h1, h2, h3⟩ := Oper.apart_spec hap
  have keep : ∀ (a : Act), YieldsR P ops C Rf oi S a → ∀ u, YieldsR P ops C Rf oi S (a.put oj.dst u) := fun a hy u =>
    hy.of_same (execOp_put oi hsi a oj.dst u h3) (wanted_put oi a oj.dst u h3)
  unfold rOp at *
  simp only [hj] at *
  by_cases hw : Region.wanted oj (yielded ops a.tmps) = true
  · simp only [hw, if_true]
    have h' : ∀ v, S v → ∃ T : Value → Prop, relAt P C Rf oj a T ∧ ∀ u, T u → K ((a.put oi.dst v).put oj.dst u) := fun v hv => by
      have := h v hv
      rw [wanted_put oj a oi.dst v h1, if_pos hw] at this
      obtain ⟨T, hT, hn⟩ := this
      refine ⟨T, fun w hw' => ?_, hn⟩
      have := hT w hw'
      rwa [execOp_put oj hsj a oi.dst v h1] at this
    obtain ⟨T, hT, hn⟩ := rel_all (K := fun v u => K ((a.put oi.dst v).put oj.dst u)) hS h'
    exact ⟨T, hT, fun u hu => ⟨keep a hy u, fun v hv => by rw [← Act.put_comm a v u h2]; exact hn u hu v hv⟩⟩
  · rw [if_neg hw]
    refine ⟨keep a hy _, fun v hv => ?_⟩
    have := h v hv
    rw [wanted_put oj a oi.dst v h1, if_neg hw] at this
    rw [← Act.put_comm a v undef h2]; exact this

theorem wpAnyR_first {Q : Act → Prop} {i : Nat} {oi : Oper} {S : Value → Prop} (hS : ∃ v, S v) (hi : ops[i]? = some oi) (hsel : ∀ (j : Nat) (o : Oper) cs b, ops[j]? = some o → o.op ≠ .select cs b) :
    ∀ (fuel : Nat) (listed : Array Bool) (a : Act),
      (∀ j oj, ops[j]? = some oj → j ≠ i → listed.getD j true = false → (∀ e ∈ oj.after, Region.binds md e = true → e.on ≠ i) → oi.apart ops oj = true) →
      i ∈ Region.ready md ops listed → YieldsR P ops C Rf oi S a →
      (∀ v, S v → wpAnyR P md ops C Rf Q fuel (listed.setIfInBounds i true) (a.put oi.dst v)) → wpAnyR P md ops C Rf Q (fuel + 1) listed a := by
  intro fuel
  induction fuel with
  | zero =>
    intro listed a _ hr hy H
    refine ⟨fun h => (by rw [h] at hr; cases hr), fun j hj => ?_⟩
    by_cases hji : j = i
    · subst hji; exact hy.rOp hi H
    · have := ready_mono hj hji
      obtain ⟨v0, h0⟩ := hS
      rw [(H v0 h0).1] at this
      cases this
  | succ fuel ih =>
    intro listed a hfree hr hy H
    refine ⟨fun h => (by rw [h] at hr; cases hr), fun j hj => ?_⟩
    by_cases hji : j = i
    · subst hji; exact hy.rOp hi H
    · have h1 : ∀ v, S v → rOp P ops C Rf j _ (a.put oi.dst v) := fun v hv => (H v hv).2 j (ready_mono hj hji)
      obtain ⟨hjun, oj, hoj, hall⟩ := mem_ready.1 hj
      have hnot : ∀ e ∈ oj.after, Region.binds md e = true → e.on ≠ i := fun e he hb heq => by
        have h1 := hall e he hb
        have h0 := (mem_ready.1 hr).1
        rw [heq] at h1
        rcases Nat.lt_or_ge i listed.size with h' | h'
        · simp [h'] at h0 h1; rw [h0] at h1; cases h1
        · simp [Array.getElem?_eq_none h'] at h1
      have h2 := rOp_put hS hoj (hfree j oj hoj hji hjun hnot) (fun cs b => hsel i oi cs b hi) (fun cs b => hsel j oj cs b hoj) hy h1
      have hfree' : ∀ k ok, ops[k]? = some ok → k ≠ i → (listed.setIfInBounds j true).getD k true = false →
          (∀ e ∈ ok.after, Region.binds md e = true → e.on ≠ i) → oi.apart ops ok = true := fun k ok hk hki hun hno => by
        refine hfree k ok hk hki ?_ hno
        by_cases hjk : j = k
        · subst hjk; exact hjun
        · rw [getD_set_ne true hjk] at hun; exact hun
      refine rOp_mono (fun a' h3 => ih (listed.setIfInBounds j true) a' hfree' (ready_mono hr (Ne.symm hji)) h3.1 fun v hv => ?_) h2
      rw [Array.setIfInBounds_comm _ _ hji]
      exact h3.2 v hv

/-- no set of a walk is empty, or the walk is idle -/
theorem wpAnyR_lex {Q : Act → Prop} (hC : ∃ w, C w) (hs : Region.noSelect ops = true) : ∀ (l : List Oper) (k : Nat) (listed : Array Bool) (a : Act), (∀ j, l[j]? = ops[k + j]?) →
    Region.lexFrom md ops l.length k listed = true → wpRel P ops C Rf Q l a → (∀ o ∈ l, ∀ a S, relAt P C Rf o a S → ∃ v, S v) → wpAnyR P md ops C Rf Q l.length listed a
  | [], _, _, _, _, hB, h, _ => ⟨by simpa [Region.lexFrom] using hB, h⟩
  | o :: l, k, listed, a, hl, hB, h, hne => by
    have h0 : ops[k]? = some o := by simpa using (hl 0).symm
    simp only [List.length_cons, Region.lexFrom, Bool.and_eq_true] at hB
    obtain ⟨⟨hr, hf⟩, hB'⟩ := hB
    have hst : rOp P ops C Rf k (wpRel P ops C Rf Q l) a := by unfold rOp; simp only [h0]; exact h
    obtain ⟨S, hy, hK⟩ := yieldsR_of_rOp h0 hst
    have hSne : ∃ v, S v := by
      rcases hy with ⟨_, hr⟩ | ⟨_, hu⟩
      · exact hne o List.mem_cons_self a S hr
      · exact ⟨_, hu⟩
    exact wpAnyR_first hSne h0 (Region.noSelect_spec hs) l.length listed a (Region.free_spec h0 hf) (by simpa using hr) hy fun v hv =>
      wpAnyR_lex hC hs l (k + 1) _ _ (fun j => by have := hl (j + 1); simpa [Nat.add_assoc, Nat.add_comm 1 j] using this) hB' (hK v hv) fun o ho => hne o (List.mem_cons_of_mem _ ho)

/-- what a run may yield is never nothing, unless a callee's own set is empty -/
theorem rel_nonempty {o : Oper} {a : Act} {S : Value → Prop} {w : World} (hw : C w) (hr : relAt P C Rf o a S) : ∃ v, S v := by
  have h := hr w hw
  generalize (execOp a.eval o).run P w = r at h
  cases r with
  | halt x w' => exact h.elim
  | ok n w' =>
    cases n with
    | value u => exact ⟨u, h.2⟩
    | skip => exact ⟨_, h.2⟩
    | enter f args =>
      obtain ⟨e, w2, fr, ⟨u, he, hc, hu⟩, _⟩ := h.1 []
      exact ⟨u, h.2 u hu⟩
    | _ => exact h.elim

/-- **one walk in the order of the text serves every order** -/
theorem wp_region_rel {id : Nat} {Q : Exit → Act → World → Prop} {a : Act} {w : World} (hm : P.follows .mixedOrders = true) (hB : Region.lexB .any ops = true) (hC : C { w with drawn := w.drawn + 1 })
    (h : wpRel P ops C Rf (fun a' => ∀ w', C w' → Q .normal a' w') ops.toList a) : (Code.region id ops true).wp P Q a w := by
  simp only [Region.lexB, Bool.and_eq_true] at hB
  refine wp_region_any hm (wpAny_of_rel (Rf := Rf) (Q := fun a' => ∀ w', C w' → Q .normal a' w') (fun _ w' hw' h => h w' hw') _ _ _ _ hC ?_)
  have := wpAnyR_lex (C := C) (Rf := Rf) (md := .any) ⟨_, hC⟩ hB.1 ops.toList 0 (Array.replicate ops.size false) a (by simp) (by simpa using hB.2) h (fun o _ a S hr => rel_nonempty hC hr)
  simpa using this

end
end Go.Vc
