/- Regions that draw their order, walked in the order of the text as if they drew none: of each two operations that may come in either order one hangs on its operands alone, or both only read memory. -/
import Derived.Test.YtnfipcfhnhhcmaaDoorVcExact
set_option linter.all false
namespace Go.Vc
open Go

section
variable {P : Program} {ops : Array Oper} {md : Region.Mode} {C : World → Prop} {ex rd : Oper → Bool}

def mOp3 (P : Program) (ops : Array Oper) (C : World → Prop) (ex rd : Oper → Bool) (o : Oper) (K : Act → World → Prop) (a : Act) (w : World) : Prop :=
  if Region.wanted o (yielded ops a.tmps) then
    if ex o then ∃ v, pureAt P C o a v ∧ K (a.put o.dst v) w
    else if rd o then ∃ v, (execOp a.eval o).run P w = .ok (.value v) w ∧ K (a.put o.dst v) w
    else actUpon P C (fun v w' => K (a.put o.dst v) w') ((execOp a.eval o).run P w)
  else K (a.put o.dst undef) w

theorem mOp3_skip {o : Oper} {K : Act → World → Prop} {a : Act} {w : World} (hw : ¬ Region.wanted o (yielded ops a.tmps) = true) : mOp3 P ops C ex rd o K a w = K (a.put o.dst undef) w := by
  unfold mOp3; rw [if_neg hw]
theorem mOp3_ex {o : Oper} {K : Act → World → Prop} {a : Act} {w : World} (hw : Region.wanted o (yielded ops a.tmps) = true) (he : ex o = true) : mOp3 P ops C ex rd o K a w = ∃ v, pureAt P C o a v ∧ K (a.put o.dst v) w := by
  unfold mOp3; rw [if_pos hw, if_pos he]
theorem mOp3_rd {o : Oper} {K : Act → World → Prop} {a : Act} {w : World} (hw : Region.wanted o (yielded ops a.tmps) = true) (he : ¬ ex o = true) (hr : rd o = true) : mOp3 P ops C ex rd o K a w = ∃ v, (execOp a.eval o).run P w = .ok (.value v) w ∧ K (a.put o.dst v) w := by
  unfold mOp3; rw [if_pos hw, if_neg he, if_pos hr]
theorem mOp3_non {o : Oper} {K : Act → World → Prop} {a : Act} {w : World} (hw : Region.wanted o (yielded ops a.tmps) = true) (he : ¬ ex o = true) (hr : ¬ rd o = true) : mOp3 P ops C ex rd o K a w = actUpon P C (fun v w' => K (a.put o.dst v) w') ((execOp a.eval o).run P w) := by
  unfold mOp3; rw [if_pos hw, if_neg he, if_neg hr]

def mOpI3 (P : Program) (ops : Array Oper) (C : World → Prop) (ex rd : Oper → Bool) (i : Nat) (K : Act → World → Prop) (a : Act) (w : World) : Prop :=
  match ops[i]? with
  | none => K a w
  | some o => mOp3 P ops C ex rd o K a w

/-- the lexical walk -/
def wpMix3 (P : Program) (ops : Array Oper) (C : World → Prop) (ex rd : Oper → Bool) (Q : Act → World → Prop) : List Oper → Act → World → Prop
  | [], a, w => Q a w
  | o :: rest, a, w => mOp3 P ops C ex rd o (wpMix3 P ops C ex rd Q rest) a w

def wpAnyM3 (P : Program) (md : Region.Mode) (ops : Array Oper) (C : World → Prop) (ex rd : Oper → Bool) (Q : Act → World → Prop) : Nat → Array Bool → Act → World → Prop
  | 0, listed, a, w => Region.ready md ops listed = [] ∧ Q a w
  | fuel + 1, listed, a, w =>
    (Region.ready md ops listed = [] → Q a w) ∧
    ∀ i ∈ Region.ready md ops listed, mOpI3 P ops C ex rd i (wpAnyM3 P md ops C ex rd Q fuel (listed.setIfInBounds i true)) a w

theorem mOp3_mono {o : Oper} {a : Act} {w : World} {K K' : Act → World → Prop} (hC : C w) (h : ∀ v w, C w → K (a.put o.dst v) w → K' (a.put o.dst v) w) (hh : mOp3 P ops C ex rd o K a w) : mOp3 P ops C ex rd o K' a w := by
  by_cases hw : Region.wanted o (yielded ops a.tmps) = true
  · by_cases he : ex o = true
    · rw [mOp3_ex hw he] at *
      obtain ⟨v, h1, h2⟩ := hh
      exact ⟨v, h1, h v w hC h2⟩
    · by_cases hr : rd o = true
      · rw [mOp3_rd hw he hr] at *
        obtain ⟨v, h1, h2⟩ := hh
        exact ⟨v, h1, h v w hC h2⟩
      · rw [mOp3_non hw he hr] at *
        exact actUpon_mono (fun v w' hc hk => h v w' hc hk) hh
  · rw [mOp3_skip hw] at *
    exact h _ w hC hh

theorem wpOp_of_mOp3 {i : Nat} {a : Act} {w : World} {K K' : Act → World → Prop} {Q : Exit → Act → World → Prop} (hC : C w) (h : ∀ a w, C w → K a w → K' a w) (hh : mOpI3 P ops C ex rd i K a w) : wpOp P ops Q i K' a w := by
  unfold mOpI3 at hh
  unfold wpOp
  split
  · rename_i ho; simp only [ho] at hh; exact h _ _ hC hh
  · rename_i o ho
    simp only [ho] at hh
    by_cases hw : Region.wanted o (yielded ops a.tmps) = true
    · rw [if_pos hw]
      refine .inl ?_
      unfold Oper.wp
      by_cases he : ex o = true
      · rw [mOp3_ex hw he] at hh
        obtain ⟨v, h1, h2⟩ := hh
        rw [h1 w hC]
        exact h _ _ hC h2
      · by_cases hr : rd o = true
        · rw [mOp3_rd hw he hr] at hh
          obtain ⟨v, h1, h2⟩ := hh
          rw [h1]
          exact h _ _ hC h2
        · rw [mOp3_non hw he hr] at hh
          generalize (execOp a.eval o).run P w = r at *
          cases r with
          | halt x w' => exact hh.elim
          | ok n w' =>
            cases n with
            | value u => exact h _ _ hh.1 hh.2
            | skip => exact h _ _ hh.1 hh.2
            | enter f args => exact Calls.mono hh fun e w'' ⟨u, he, hc, hk⟩ => by subst he; exact h _ _ hc hk
            | _ => exact hh.elim
    · rw [if_neg hw]
      rw [mOp3_skip hw] at hh
      exact h _ _ hC hh

theorem wpAny_of_mix3 {Q : Act → World → Prop} {Q' : Exit → Act → World → Prop} (hQ : ∀ a w, C w → Q a w → Q' .normal a w) : ∀ (fuel : Nat) (listed : Array Bool) (a : Act) (w : World), C w →
    wpAnyM3 P md ops C ex rd Q fuel listed a w → wpAny P md ops Q' fuel listed a w
  | 0, _, _, _, hw, h => ⟨h.1, hQ _ _ hw h.2⟩
  | fuel + 1, _, _, _, hw, h => ⟨fun h0 => hQ _ _ hw (h.1 h0), fun i hi => wpOp_of_mOp3 hw (fun a' w' hw' => wpAny_of_mix3 hQ fuel _ a' w' hw') (h.2 i hi)⟩

/-- two operations apart may change places, where one is exact or both read -/
theorem mOp3_swap {oi oj : Oper} {a : Act} {w : World} {K : Act → World → Prop} (hC : C w) (hap : oi.apart ops oj = true) (hex : ex oi = true ∨ ex oj = true ∨ (rd oi = true ∧ rd oj = true))
    (hsi : ∀ cs b, oi.op ≠ .select cs b) (hsj : ∀ cs b, oj.op ≠ .select cs b)
    (h : mOp3 P ops C ex rd oi (fun a' w' => mOp3 P ops C ex rd oj K a' w') a w) : mOp3 P ops C ex rd oj (fun a' w' => mOp3 P ops C ex rd oi K a' w') a w := by
  obtain ⟨h1, h2, h3⟩ := Oper.apart_spec hap
  have wi : ∀ u, Region.wanted oi (yielded ops (a.put oj.dst u).tmps) = Region.wanted oi (yielded ops a.tmps) := fun u => wanted_put oi a oj.dst u h3
  have wj : ∀ u, Region.wanted oj (yielded ops (a.put oi.dst u).tmps) = Region.wanted oj (yielded ops a.tmps) := fun u => wanted_put oj a oi.dst u h1
  have ei : ∀ u, execOp (a.put oj.dst u).eval oi = execOp a.eval oi := fun u => execOp_put oi hsi a oj.dst u h3
  have ej : ∀ u, execOp (a.put oi.dst u).eval oj = execOp a.eval oj := fun u => execOp_put oj hsj a oi.dst u h1
  have comm : ∀ v u, (a.put oi.dst v).put oj.dst u = (a.put oj.dst u).put oi.dst v := fun v u => Act.put_comm a v u h2
  have shift : ∀ v w, C w → mOp3 P ops C ex rd oj K (a.put oi.dst v) w → mOp3 P ops C ex rd oj (fun a' w' => K (a'.put oi.dst v) w') a w := by
    intro v w hC hh
    by_cases hw : Region.wanted oj (yielded ops a.tmps) = true
    · have hw' : Region.wanted oj (yielded ops (a.put oi.dst v).tmps) = true := by rw [wj]; exact hw
      by_cases he : ex oj = true
      · rw [mOp3_ex hw he]
        rw [mOp3_ex hw' he] at hh
        obtain ⟨u, hp, hk⟩ := hh
        refine ⟨u, fun w' hw' => by have := hp w' hw'; rwa [ej] at this, ?_⟩
        show K ((a.put oj.dst u).put oi.dst v) w
        rw [← comm]; exact hk
      · by_cases hr : rd oj = true
        · rw [mOp3_rd hw he hr]
          rw [mOp3_rd hw' he hr, ej] at hh
          obtain ⟨u, hp, hk⟩ := hh
          refine ⟨u, hp, ?_⟩
          show K ((a.put oj.dst u).put oi.dst v) w
          rw [← comm]; exact hk
        · rw [mOp3_non hw he hr]
          rw [mOp3_non hw' he hr, ej] at hh
          exact actUpon_mono (fun u w' _ hk => by
            show K ((a.put oj.dst u).put oi.dst v) w'
            rw [← comm]; exact hk) hh
    · have hw' : ¬ Region.wanted oj (yielded ops (a.put oi.dst v).tmps) = true := by rw [wj]; exact hw
      rw [mOp3_skip hw]
      rw [mOp3_skip hw'] at hh
      show K ((a.put oj.dst undef).put oi.dst v) w
      rw [← comm]; exact hh
  by_cases hwi : Region.wanted oi (yielded ops a.tmps) = true
  · by_cases hei : ex oi = true
    · rw [mOp3_ex hwi hei] at h
      obtain ⟨v, hp, hk⟩ := h
      refine mOp3_mono hC (fun u w' hw' hh => ?_) (shift v w hC hk)
      show mOp3 P ops C ex rd oi K (a.put oj.dst u) w'
      rw [mOp3_ex (by rw [wi]; exact hwi) hei]
      exact ⟨v, fun w hw => by rw [ei]; exact hp w hw, hh⟩
    · by_cases hri : rd oi = true
      · rw [mOp3_rd hwi hei hri] at h
        obtain ⟨v, hp, hk⟩ := h
        have hs := shift v w hC hk
        have back : ∀ u, K ((a.put oj.dst u).put oi.dst v) w → mOp3 P ops C ex rd oi K (a.put oj.dst u) w := fun u hu => by
          rw [mOp3_rd (by rw [wi]; exact hwi) hei hri, ei]
          exact ⟨v, hp, hu⟩
        by_cases hwj : Region.wanted oj (yielded ops a.tmps) = true
        · by_cases hej : ex oj = true
          · rw [mOp3_ex hwj hej] at *
            obtain ⟨u, hpu, hku⟩ := hs
            exact ⟨u, hpu, back u hku⟩
          · have hrj : rd oj = true := ((hex.resolve_left hei).resolve_left hej).2
            rw [mOp3_rd hwj hej hrj] at *
            obtain ⟨u, hpu, hku⟩ := hs
            exact ⟨u, hpu, back u hku⟩
        · rw [mOp3_skip hwj] at *
          exact back _ hs
      · have hej : ex oj = true := (hex.resolve_left hei).resolve_right fun hh => hri hh.1
        rw [mOp3_non hwi hei hri] at h
        by_cases hwj : Region.wanted oj (yielded ops a.tmps) = true
        · rw [mOp3_ex hwj hej]
          obtain ⟨v0, w1, hc1, hm⟩ := actUpon_some h
          replace hm : mOp3 P ops C ex rd oj K (a.put oi.dst v0) w1 := hm
          rw [mOp3_ex (by rw [wj]; exact hwj) hej] at hm
          obtain ⟨u, hp, _⟩ := hm
          have hp' : pureAt P C oj a u := fun w hw => by have := hp w hw; rwa [ej] at this
          refine ⟨u, hp', ?_⟩
          show mOp3 P ops C ex rd oi K (a.put oj.dst u) w
          rw [mOp3_non (by rw [wi]; exact hwi) hei hri, ei]
          refine actUpon_mono (fun v w' hw' hh => ?_) h
          replace hh : mOp3 P ops C ex rd oj K (a.put oi.dst v) w' := hh
          rw [mOp3_ex (by rw [wj]; exact hwj) hej] at hh
          obtain ⟨u', hpu, hk⟩ := hh
          have e1 := hp' w' hw'
          have e2 := hpu w' hw'
          rw [ej, e1] at e2
          have : u = u' := by injection e2 with e3 _; injection e3
          subst this
          rw [← comm]; exact hk
        · rw [mOp3_skip hwj]
          show mOp3 P ops C ex rd oi K (a.put oj.dst undef) w
          rw [mOp3_non (by rw [wi]; exact hwi) hei hri, ei]
          refine actUpon_mono (fun v w' hw' hh => ?_) h
          replace hh : mOp3 P ops C ex rd oj K (a.put oi.dst v) w' := hh
          rw [mOp3_skip (by rw [wj]; exact hwj)] at hh
          rw [← comm]; exact hh
  · rw [mOp3_skip hwi] at h
    refine mOp3_mono hC (fun u w' hw' hh => ?_) (shift undef w hC h)
    show mOp3 P ops C ex rd oi K (a.put oj.dst u) w'
    rw [mOp3_skip (by rw [wi]; exact hwi)]
    exact hh

/-- with each operation those that it comes after -/
def Closed (md : Region.Mode) (ops : Array Oper) (listed : Array Bool) : Prop :=
  ∀ m om, ops[m]? = some om → listed.getD m false = true → ∀ e ∈ om.after, Region.binds md e = true → listed.getD e.on false = true

theorem Closed.set {listed : Array Bool} {j : Nat} (hc : Closed md ops listed) (hj : j ∈ Region.ready md ops listed) : Closed md ops (listed.setIfInBounds j true) := by
  intro m om hom hm e he hb
  by_cases hmj : j = m
  · subst hmj
    obtain ⟨_, o, ho, hall⟩ := mem_ready.1 hj
    rw [hom] at ho; cases ho
    exact getD_set_true (hall e he hb)
  · rw [getD_set_ne false hmj] at hm
    exact getD_set_true (hc m om hom hm e he hb)

theorem Closed.none : Closed md ops (Array.replicate ops.size false) := by
  intro m om hom hm
  rcases Nat.lt_or_ge m ops.size with h | h <;> simp [h] at hm

theorem wpAnyM3_first {Q : Act → World → Prop} {i : Nat} {oi : Oper} (hi : ops[i]? = some oi) (hsel : ∀ (j : Nat) (o : Oper) cs b, ops[j]? = some o → o.op ≠ .select cs b)
    (hexx : ∀ listed j oj, Closed md ops listed → ops[j]? = some oj → listed.getD i true = false → j ∈ Region.ready md ops listed → i < j → ex oi = true ∨ ex oj = true ∨ (rd oi = true ∧ rd oj = true)) :
    ∀ (fuel : Nat) (listed : Array Bool) (a : Act) (w : World), C w → Closed md ops listed → (∀ k, k < i → listed.getD k true = true) →
      (∀ j oj, ops[j]? = some oj → j ≠ i → listed.getD j true = false → (∀ e ∈ oj.after, Region.binds md e = true → e.on ≠ i) → oi.apart ops oj = true) →
      i ∈ Region.ready md ops listed →
      mOp3 P ops C ex rd oi (wpAnyM3 P md ops C ex rd Q fuel (listed.setIfInBounds i true)) a w → wpAnyM3 P md ops C ex rd Q (fuel + 1) listed a w := by
  intro fuel
  induction fuel with
  | zero =>
    intro listed a w hC hcl hlow _ hr H
    refine ⟨fun h => (by rw [h] at hr; cases hr), fun j hj => ?_⟩
    by_cases hji : j = i
    · subst hji; unfold mOpI3; rw [hi]; exact H
    · exfalso
      have hrd := ready_mono hj hji
      have h0 : Region.ready md ops (listed.setIfInBounds i true) = [] := by
        unfold mOp3 at H
        split at H
        · split at H
          · obtain ⟨v, _, h0⟩ := H; exact h0.1
          · split at H
            · obtain ⟨v, _, h0⟩ := H; exact h0.1
            · obtain ⟨v, w', _, h0⟩ := actUpon_some H; exact h0.1
        · exact H.1
      rw [h0] at hrd
      cases hrd
  | succ fuel ih =>
    intro listed a w hC hcl hlow hfree hr H
    refine ⟨fun h => (by rw [h] at hr; cases hr), fun j hj => ?_⟩
    by_cases hji : j = i
    · subst hji; unfold mOpI3; rw [hi]; exact H
    · obtain ⟨hjun, oj, hoj, hall⟩ := mem_ready.1 hj
      have hnot : ∀ e ∈ oj.after, Region.binds md e = true → e.on ≠ i := fun e he hb heq => by
        have h1 := hall e he hb
        have h0 := (mem_ready.1 hr).1
        rw [heq] at h1
        rcases Nat.lt_or_ge i listed.size with h' | h'
        · simp [h'] at h0 h1; rw [h0] at h1; cases h1
        · simp [Array.getElem?_eq_none h'] at h1
      have hij : i < j := by
        rcases Nat.lt_or_ge i j with h' | h'
        · exact h'
        · have := hlow j (by omega)
          rw [this] at hjun
          cases hjun
      have hap := hfree j oj hoj hji hjun hnot
      have h1 : mOp3 P ops C ex rd oi (fun a' w' => mOp3 P ops C ex rd oj (wpAnyM3 P md ops C ex rd Q fuel ((listed.setIfInBounds i true).setIfInBounds j true)) a' w') a w := by
        refine mOp3_mono hC (fun v w' _ hh => ?_) H
        have := hh.2 j (ready_mono hj hji)
        unfold mOpI3 at this
        rw [hoj] at this
        exact this
      have h2 := mOp3_swap hC hap (hexx listed j oj hcl hoj (mem_ready.1 hr).1 hj hij) (fun cs b => hsel i oi cs b hi) (fun cs b => hsel j oj cs b hoj) h1
      have hfree' : ∀ k ok, ops[k]? = some ok → k ≠ i → (listed.setIfInBounds j true).getD k true = false →
          (∀ e ∈ ok.after, Region.binds md e = true → e.on ≠ i) → oi.apart ops ok = true := fun k ok hk hki hun hno => by
        refine hfree k ok hk hki ?_ hno
        by_cases hjk : j = k
        · subst hjk; exact hjun
        · rw [getD_set_ne true hjk] at hun; exact hun
      unfold mOpI3
      rw [hoj]
      refine mOp3_mono hC (fun u w' hw' h3 => ih (listed.setIfInBounds j true) _ w' hw' (hcl.set hj) (fun k hk => ?_) hfree' (ready_mono hr (Ne.symm hji)) ?_) h2
      · rw [getD_set_ne true (by omega)]; exact hlow k hk
      · rw [Array.setIfInBounds_comm _ _ hji]
        exact h3

/-! ### which operations surely come after which -/
def maskOf (md : Region.Mode) (acc : List Nat) (o : Oper) : Nat :=
  o.after.toList.foldl (fun m e => if Region.binds md e then m ||| (acc.getD e.on 0 ||| 2 ^ e.on) else m) 0

def masks (md : Region.Mode) : List Oper → List Nat → List Nat
  | [], acc => acc
  | o :: l, acc => masks md l (acc ++ [maskOf md acc o])

theorem maskOf_spec {acc : List Nat} {o : Oper} {k : Nat} (h : (maskOf md acc o).testBit k = true) : ∃ e ∈ o.after, Region.binds md e = true ∧ (k = e.on ∨ (acc.getD e.on 0).testBit k = true) := by
  have : ∀ (l : List _) (m : Nat), (l.foldl (fun m e => if Region.binds md e then m ||| (acc.getD e.on 0 ||| 2 ^ e.on) else m) m).testBit k = true →
      m.testBit k = true ∨ ∃ e ∈ l, Region.binds md e = true ∧ (k = e.on ∨ (acc.getD e.on 0).testBit k = true) := by
    intro l
    induction l with
    | nil => intro m hm; exact .inl hm
    | cons e l ih =>
      intro m hm
      rw [List.foldl_cons] at hm
      rcases ih _ hm with hm | ⟨e', he', hh⟩
      · split at hm
        · rename_i hb
          rw [Nat.testBit_or, Nat.testBit_or, Nat.testBit_two_pow] at hm
          simp only [Bool.or_eq_true, decide_eq_true_eq] at hm
          rcases hm with hm | hm | hm
          · exact .inl hm
          · exact .inr ⟨e, List.mem_cons_self, hb, .inr hm⟩
          · exact .inr ⟨e, List.mem_cons_self, hb, .inl hm.symm⟩
        · exact .inl hm
      · exact .inr ⟨e', List.mem_cons_of_mem _ he', hh⟩
  rcases this _ _ h with h | ⟨e, he, hh⟩
  · simp at h
  · exact ⟨e, by simpa using he, hh⟩

def GoodM (md : Region.Mode) (ops : Array Oper) (acc : List Nat) : Prop :=
  ∀ j k, (acc.getD j 0).testBit k = true → ∃ oj, ops[j]? = some oj ∧ ∀ listed, Closed md ops listed → (∀ e ∈ oj.after, Region.binds md e = true → listed.getD e.on false = true) → listed.getD k false = true

theorem masks_good : ∀ (l : List Oper) (acc : List Nat), (∀ m, l[m]? = ops[acc.length + m]?) → GoodM md ops acc → GoodM md ops (masks md l acc)
  | [], acc, _, hg => hg
  | o :: l, acc, hl, hg => by
    refine masks_good l _ (fun m => ?_) ?_
    · have := hl (m + 1)
      simp only [List.length_append, List.length_cons, List.length_nil]
      rw [show acc.length + (0 + 1) + m = acc.length + (m + 1) by omega, ← this]
      rfl
    · have h0 : ops[acc.length]? = some o := by have := hl 0; simpa using this.symm
      intro j k hk
      by_cases hj : j < acc.length
      · rw [List.getD_eq_getElem?_getD, List.getElem?_append_left hj, ← List.getD_eq_getElem?_getD] at hk
        exact hg j k hk
      · by_cases hje : j = acc.length
        · subst hje
          rw [List.getD_eq_getElem?_getD, List.getElem?_append_right (Nat.le_refl _), Nat.sub_self] at hk
          simp only [List.getElem?_cons_zero, Option.getD_some] at hk
          obtain ⟨e, he, hb, hk⟩ := maskOf_spec hk
          refine ⟨o, h0, fun listed hcl hall => ?_⟩
          rcases hk with rfl | hk
          · exact hall e he hb
          · obtain ⟨oj, hoj, hh⟩ := hg _ _ hk
            exact hh listed hcl (hcl _ _ hoj (hall e he hb))
        · rw [List.getD_eq_getElem?_getD, List.getElem?_eq_none (by simp; omega)] at hk
          simp at hk

/-- may the order of the text be taken for any order -/
def mix3From (ex rd : Oper → Bool) (ms : List Nat) : List Oper → Nat → Bool
  | [], _ => true
  | o :: l, k => (ex o || (l.zipIdx (k + 1)).all fun (oj, j) => ex oj || (rd o && rd oj) || (ms.getD j 0).testBit k) && mix3From ex rd ms l (k + 1)

theorem mix3From_spec {ms : List Nat} {o : Oper} {l : List Oper} {k : Nat} (hg : GoodM md ops ms) (h : mix3From ex rd ms (o :: l) k = true) (hl : ∀ j, (o :: l)[j]? = ops[k + j]?) :
    ∀ listed j oj, Closed md ops listed → ops[j]? = some oj → listed.getD k true = false → j ∈ Region.ready md ops listed → k < j → ex o = true ∨ ex oj = true ∨ (rd o = true ∧ rd oj = true) := by
  intro listed j oj hcl hoj hun hj hkj
  simp only [mix3From, Bool.and_eq_true, Bool.or_eq_true] at h
  rcases h.1 with h1 | h1
  · exact .inl h1
  · right
    obtain ⟨m, rfl⟩ : ∃ m, j = k + 1 + m := ⟨j - (k + 1), by omega⟩
    have hm : l[m]? = some oj := by
      have := hl (m + 1)
      rw [show k + (m + 1) = k + 1 + m by omega, hoj] at this
      simpa using this
    have hmem : (oj, k + 1 + m) ∈ l.zipIdx (k + 1) := by
      rw [List.mem_iff_getElem?]
      exact ⟨m, by rw [List.getElem?_zipIdx, hm]; rfl⟩
    have := List.all_eq_true.1 h1 _ hmem
    simp only [Bool.or_eq_true, Bool.and_eq_true] at this
    rcases this with (h2 | h2) | h2
    · exact .inl h2
    · exact .inr h2
    · exfalso
      obtain ⟨oj', hoj', hh⟩ := hg _ _ h2
      obtain ⟨_, o2, ho2, hall⟩ := mem_ready.1 hj
      rw [hoj'] at ho2; cases ho2
      have := hh listed hcl hall
      rcases Nat.lt_or_ge k listed.size with h' | h'
      · simp [h'] at hun this; rw [hun] at this; cases this
      · simp [Array.getElem?_eq_none h'] at this

theorem wpAnyM3_lex {ms : List Nat} {Q : Act → World → Prop} (hg : GoodM md ops ms) (hs : Region.noSelect ops = true) : ∀ (l : List Oper) (k : Nat) (listed : Array Bool) (a : Act) (w : World), C w → Closed md ops listed → (∀ j, l[j]? = ops[k + j]?) →
    (∀ m, m < k → listed.getD m true = true) → Region.lexFrom md ops l.length k listed = true → mix3From ex rd ms l k = true → wpMix3 P ops C ex rd Q l a w → wpAnyM3 P md ops C ex rd Q l.length listed a w
  | [], _, _, _, _, _, _, _, _, hB, _, h => ⟨by simpa [Region.lexFrom] using hB, h⟩
  | o :: l, k, listed, a, w, hC, hcl, hl, hlow, hB, hm, h => by
    have h0 : ops[k]? = some o := by simpa using (hl 0).symm
    have hspec := mix3From_spec hg hm hl
    simp only [List.length_cons, Region.lexFrom, Bool.and_eq_true] at hB
    obtain ⟨⟨hr, hf⟩, hB'⟩ := hB
    have hr' : k ∈ Region.ready md ops listed := by simpa using hr
    have hm' : mix3From ex rd ms l (k + 1) = true := by simp only [mix3From, Bool.and_eq_true] at hm; exact hm.2
    refine wpAnyM3_first h0 (Region.noSelect_spec hs) hspec l.length listed a w hC hcl hlow (Region.free_spec h0 hf) hr' ?_
    refine mOp3_mono hC (fun v w' hw' hh => ?_) h
    refine wpAnyM3_lex hg hs l (k + 1) _ _ w' hw' (hcl.set hr') (fun j => by have := hl (j + 1); simpa [Nat.add_assoc, Nat.add_comm 1 j] using this) (fun m hmk => ?_) hB' hm' hh
    by_cases hmk' : m = k
    · subst hmk'
      rcases Nat.lt_or_ge m listed.size with h' | h'
      · simp [h']
      · simp [Array.getElem?_eq_none h']
    · rw [getD_set_ne true (by omega)]
      exact hlow m (by omega)

/-- **one walk in the order of the text serves every order** -/
theorem wp_region_mix3 {id : Nat} {Q : Exit → Act → World → Prop} {a : Act} {w : World} (hm : P.follows .mixedOrders = true) (hB : Region.lexB .any ops = true) (hx : mix3From ex rd (masks .any ops.toList []) ops.toList 0 = true)
    (hC : C { w with drawn := w.drawn + 1 }) (h : wpMix3 P ops C ex rd (fun a' w' => Q .normal a' w') ops.toList a { w with drawn := w.drawn + 1 }) : (Code.region id ops true).wp P Q a w := by
  simp only [Region.lexB, Bool.and_eq_true] at hB
  refine wp_region_any hm (wpAny_of_mix3 (ex := ex) (rd := rd) (Q := fun a' w' => Q .normal a' w') (fun _ _ _ h => h) _ _ _ _ hC ?_)
  have hg : GoodM .any ops (masks .any ops.toList []) := masks_good ops.toList [] (fun m => by simp) (fun j k hk => by simp at hk)
  have := wpAnyM3_lex (P := P) (C := C) (md := .any) (Q := fun a' w' => Q .normal a' w') hg hB.1 ops.toList 0 (Array.replicate ops.size false) a _ hC Closed.none (by simp) (fun m hm => by omega) (by simpa using hB.2) hx h
  simpa using this

theorem wpMix3_mono {Q Q' : Act → World → Prop} (hq : ∀ a w, Q a w → Q' a w) : ∀ (l : List Oper) (a : Act) (w : World), C w → wpMix3 P ops C ex rd Q l a w → wpMix3 P ops C ex rd Q' l a w
  | [], _, _, _, h => hq _ _ h
  | _ :: l, _, _, hC, h => mOp3_mono hC (fun _ _ hC' hk => wpMix3_mono hq l _ _ hC' hk) h

theorem wpMix3_of_mix {Q : Act → World → Prop} : ∀ (l : List Oper) (a : Act) (w : World), C w → wpMix P ops C ex Q l a w → wpMix3 P ops C ex (fun _ => false) Q l a w
  | [], _, _, _, h => h
  | o :: l, a, w, hC, h => by
    have h' : mOp P ops C ex o (wpMix3 P ops C ex (fun _ => false) Q l) a w := mOp_mono hC (fun v w hC' hk => wpMix3_of_mix l _ _ hC' hk) h
    show mOp3 P ops C ex (fun _ => false) o (wpMix3 P ops C ex (fun _ => false) Q l) a w
    unfold mOp at h'
    unfold mOp3
    simpa using h'

end

/-- an operation that reads memory and leaves it as it is -/
def VO.reads : VO → Bool
  | .load .. => true
  | _ => false

/-- an operation whose value hangs on its operands alone -/
def VO.plain (op : VO) : Bool := op.exact && !op.reads

def plO (P : Program) (o : Oper) : Bool :=
  match cmpOp P o with
  | some op => op.plain
  | none => false
def rdO (P : Program) (o : Oper) : Bool :=
  match cmpOp P o with
  | some op => op.reads
  | none => false

theorem plain_any {P : Program} {Rf : Nat → Array Value → Value → Prop} {op : VO} (hx : op.plain = true) {ρ : Env} {h h' : Hp} {k : Value → Prop} (hs : stepQ P Rf op ρ h k) : stepQ P Rf op ρ h' k := by
  cases op <;> first
    | (cases hx; done)
    | exact hs

theorem stepV_exact {P : Program} {op : VO} (hx : op.exact = true) {ρ : Env} {h : Hp} {k : Value → Hp → Prop} (hs : stepV P op ρ h k) : stepQ P noRf op ρ h (kh k h) := by
  cases op <;> first
    | (cases hx; done)
    | exact hs

end Go.Vc
