/- Regions that draw their order: of each two operations that may come in either order one is exact (its value hangs on its operands and on blocks that the region leaves alone). One walk in the order of the text serves every order. -/
import Derived.Test.YtjnkmhdpbahbiaaVcBase
set_option linter.all false
namespace Go.Vc
open Go

section
variable {P : Program} {ops : Array Oper} {md : Region.Mode} {C : World → Prop} {ex : Oper → Bool}

/-- an exact operation's value -/
def pureAt (P : Program) (C : World → Prop) (o : Oper) (a : Act) (v : Value) : Prop := ∀ w, C w → (execOp a.eval o).run P w = .ok (.value v) w

/-- any other operation -/
def actUpon (P : Program) (C : World → Prop) (k : Value → World → Prop) : Result Next → Prop
  | .ok (.value u) w' => C w' ∧ k u w'
  | .ok .skip w' => C w' ∧ k undef w'
  | .ok (.enter f args) w' => Calls P f args w' (fun e w'' => ∃ u, e = .returned u ∧ C w'' ∧ k u w'')
  | _ => False

theorem actUpon_mono {k k' : Value → World → Prop} (h : ∀ v w, C w → k v w → k' v w) {r : Result Next} (hr : actUpon P C k r) : actUpon P C k' r := by
  cases r with
  | halt x w => exact hr
  | ok n w =>
    cases n <;> first
      | exact hr
      | exact ⟨hr.1, h _ _ hr.1 hr.2⟩
      | exact Calls.mono hr fun e w ⟨u, h1, h2, h3⟩ => ⟨u, h1, h2, h _ _ h2 h3⟩

theorem actUpon_some {k : Value → World → Prop} {r : Result Next} (hr : actUpon P C k r) : ∃ v w, C w ∧ k v w := by
  cases r with
  | halt x w => exact hr.elim
  | ok n w =>
    cases n with
    | value u => exact ⟨_, _, hr⟩
    | skip => exact ⟨_, _, hr⟩
    | enter f args => obtain ⟨e, w2, fr, ⟨u, he, hc, hu⟩, _⟩ := hr []; exact ⟨u, w2, hc, hu⟩
    | _ => exact hr.elim

def mOp (P : Program) (ops : Array Oper) (C : World → Prop) (ex : Oper → Bool) (o : Oper) (K : Act → World → Prop) (a : Act) (w : World) : Prop :=
  if Region.wanted o (yielded ops a.tmps) then
    if ex o then ∃ v, pureAt P C o a v ∧ K (a.put o.dst v) w
    else actUpon P C (fun v w' => K (a.put o.dst v) w') ((execOp a.eval o).run P w)
  else K (a.put o.dst undef) w

def mOpI (P : Program) (ops : Array Oper) (C : World → Prop) (ex : Oper → Bool) (i : Nat) (K : Act → World → Prop) (a : Act) (w : World) : Prop :=
  match ops[i]? with
  | none => K a w
  | some o => mOp P ops C ex o K a w

/-- the lexical walk -/
def wpMix (P : Program) (ops : Array Oper) (C : World → Prop) (ex : Oper → Bool) (Q : Act → World → Prop) : List Oper → Act → World → Prop
  | [], a, w => Q a w
  | o :: rest, a, w => mOp P ops C ex o (wpMix P ops C ex Q rest) a w

def wpAnyM (P : Program) (md : Region.Mode) (ops : Array Oper) (C : World → Prop) (ex : Oper → Bool) (Q : Act → World → Prop) : Nat → Array Bool → Act → World → Prop
  | 0, listed, a, w => Region.ready md ops listed = [] ∧ Q a w
  | fuel + 1, listed, a, w =>
    (Region.ready md ops listed = [] → Q a w) ∧
    ∀ i ∈ Region.ready md ops listed, mOpI P ops C ex i (wpAnyM P md ops C ex Q fuel (listed.setIfInBounds i true)) a w

theorem mOp_mono {o : Oper} {a : Act} {w : World} {K K' : Act → World → Prop} (hC : C w) (h : ∀ v w, C w → K (a.put o.dst v) w → K' (a.put o.dst v) w) (hh : mOp P ops C ex o K a w) : mOp P ops C ex o K' a w := by
  unfold mOp at *
  split
  · rename_i hw
    rw [if_pos hw] at hh
    split
    · rename_i he
      rw [if_pos he] at hh
      obtain ⟨v, h1, h2⟩ := hh
      exact ⟨v, h1, h v w hC h2⟩
    · rename_i he
      rw [if_neg he] at hh
      exact actUpon_mono (fun v w' hc hk => h v w' hc hk) hh
  · rename_i hw
    rw [if_neg hw] at hh
    exact h _ w hC hh

theorem wpOp_of_mOp {i : Nat} {a : Act} {w : World} {K K' : Act → World → Prop} {Q : Exit → Act → World → Prop} (hC : C w) (h : ∀ a w, C w → K a w → K' a w) (hh : mOpI P ops C ex i K a w) : wpOp P ops Q i K' a w := by
  unfold mOpI at hh
  unfold wpOp
  split
  · rename_i ho; simp only [ho] at hh; exact h _ _ hC hh
  · rename_i o ho
    simp only [ho] at hh
    unfold mOp at hh
    split
    · rename_i hw
      rw [if_pos hw] at hh
      refine .inl ?_
      unfold Oper.wp
      split at hh
      · obtain ⟨v, h1, h2⟩ := hh
        rw [h1 w hC]
        exact h _ _ hC h2
      · generalize (execOp a.eval o).run P w = r at *
        cases r with
        | halt x w' => exact hh.elim
        | ok n w' =>
          cases n with
          | value u => exact h _ _ hh.1 hh.2
          | skip => exact h _ _ hh.1 hh.2
          | enter f args => exact Calls.mono hh fun e w'' ⟨u, he, hc, hk⟩ => by subst he; exact h _ _ hc hk
          | _ => exact hh.elim
    · rename_i hw
      rw [if_neg hw] at hh
      exact h _ _ hC hh

theorem wpAny_of_mix {Q : Act → World → Prop} {Q' : Exit → Act → World → Prop} (hQ : ∀ a w, C w → Q a w → Q' .normal a w) : ∀ (fuel : Nat) (listed : Array Bool) (a : Act) (w : World), C w →
    wpAnyM P md ops C ex Q fuel listed a w → wpAny P md ops Q' fuel listed a w
  | 0, _, _, _, hw, h => ⟨h.1, hQ _ _ hw h.2⟩
  | fuel + 1, _, _, _, hw, h => ⟨fun h0 => hQ _ _ hw (h.1 h0), fun i hi => wpOp_of_mOp hw (fun a' w' hw' => wpAny_of_mix hQ fuel _ a' w' hw') (h.2 i hi)⟩

theorem mOp_skip {o : Oper} {K : Act → World → Prop} {a : Act} {w : World} (hw : ¬ Region.wanted o (yielded ops a.tmps) = true) : mOp P ops C ex o K a w = K (a.put o.dst undef) w := by
  unfold mOp; rw [if_neg hw]
theorem mOp_ex {o : Oper} {K : Act → World → Prop} {a : Act} {w : World} (hw : Region.wanted o (yielded ops a.tmps) = true) (he : ex o = true) : mOp P ops C ex o K a w = ∃ v, pureAt P C o a v ∧ K (a.put o.dst v) w := by
  unfold mOp; rw [if_pos hw, if_pos he]
theorem mOp_non {o : Oper} {K : Act → World → Prop} {a : Act} {w : World} (hw : Region.wanted o (yielded ops a.tmps) = true) (he : ¬ ex o = true) : mOp P ops C ex o K a w = actUpon P C (fun v w' => K (a.put o.dst v) w') ((execOp a.eval o).run P w) := by
  unfold mOp; rw [if_pos hw, if_neg he]

/-- two operations apart, one of them exact, may change places -/
theorem mOp_swap {oi oj : Oper} {a : Act} {w : World} {K : Act → World → Prop} (hC : C w) (hap : oi.apart ops oj = true) (hex : ex oi = true ∨ ex oj = true)
    (hsi : ∀ cs b, oi.op ≠ .select cs b) (hsj : ∀ cs b, oj.op ≠ .select cs b)
    (h : mOp P ops C ex oi (fun a' w' => mOp P ops C ex oj K a' w') a w) : mOp P ops C ex oj (fun a' w' => mOp P ops C ex oi K a' w') a w := by
  obtain ⟨h1, h2, h3⟩ := Oper.apart_spec hap
  have wi : ∀ u, Region.wanted oi (yielded ops (a.put oj.dst u).tmps) = Region.wanted oi (yielded ops a.tmps) := fun u => wanted_put oi a oj.dst u h3
  have wj : ∀ u, Region.wanted oj (yielded ops (a.put oi.dst u).tmps) = Region.wanted oj (yielded ops a.tmps) := fun u => wanted_put oj a oi.dst u h1
  have ei : ∀ u, execOp (a.put oj.dst u).eval oi = execOp a.eval oi := fun u => execOp_put oi hsi a oj.dst u h3
  have ej : ∀ u, execOp (a.put oi.dst u).eval oj = execOp a.eval oj := fun u => execOp_put oj hsj a oi.dst u h1
  have comm : ∀ v u, (a.put oi.dst v).put oj.dst u = (a.put oj.dst u).put oi.dst v := fun v u => Act.put_comm a v u h2
  -- the inner operation at the outer state
  have shift : ∀ v w, C w → mOp P ops C ex oj K (a.put oi.dst v) w → mOp P ops C ex oj (fun a' w' => K (a'.put oi.dst v) w') a w := by
    intro v w hC hh
    by_cases hw : Region.wanted oj (yielded ops a.tmps) = true
    · have hw' : Region.wanted oj (yielded ops (a.put oi.dst v).tmps) = true := by rw [wj]; exact hw
      by_cases he : ex oj = true
      · rw [mOp_ex hw he]
        rw [mOp_ex hw' he] at hh
        obtain ⟨u, hp, hk⟩ := hh
        refine ⟨u, fun w' hw' => by have := hp w' hw'; rwa [ej] at this, ?_⟩
        show K ((a.put oj.dst u).put oi.dst v) w
        rw [← comm]; exact hk
      · rw [mOp_non hw he]
        rw [mOp_non hw' he, ej] at hh
        exact actUpon_mono (fun u w' _ hk => by
          show K ((a.put oj.dst u).put oi.dst v) w'
          rw [← comm]; exact hk) hh
    · have hw' : ¬ Region.wanted oj (yielded ops (a.put oi.dst v).tmps) = true := by rw [wj]; exact hw
      rw [mOp_skip hw]
      rw [mOp_skip hw'] at hh
      show K ((a.put oj.dst undef).put oi.dst v) w
      rw [← comm]; exact hh
  by_cases hwi : Region.wanted oi (yielded ops a.tmps) = true
  · by_cases hei : ex oi = true
    · -- oi is exact
      rw [mOp_ex hwi hei] at h
      obtain ⟨v, hp, hk⟩ := h
      refine mOp_mono hC (fun u w' hw' hh => ?_) (shift v w hC hk)
      show mOp P ops C ex oi K (a.put oj.dst u) w'
      rw [mOp_ex (by rw [wi]; exact hwi) hei]
      exact ⟨v, fun w hw => by rw [ei]; exact hp w hw, hh⟩
    · have hej : ex oj = true := hex.resolve_left hei
      rw [mOp_non hwi hei] at h
      by_cases hwj : Region.wanted oj (yielded ops a.tmps) = true
      · rw [mOp_ex hwj hej]
        -- oj's value, the same whatever oi yields
        obtain ⟨v0, w1, hc1, hm⟩ := actUpon_some h
        replace hm : mOp P ops C ex oj K (a.put oi.dst v0) w1 := hm
        rw [mOp_ex (by rw [wj]; exact hwj) hej] at hm
        obtain ⟨u, hp, _⟩ := hm
        have hp' : pureAt P C oj a u := fun w hw => by have := hp w hw; rwa [ej] at this
        refine ⟨u, hp', ?_⟩
        show mOp P ops C ex oi K (a.put oj.dst u) w
        rw [mOp_non (by rw [wi]; exact hwi) hei, ei]
        refine actUpon_mono (fun v w' hw' hh => ?_) h
        replace hh : mOp P ops C ex oj K (a.put oi.dst v) w' := hh
        rw [mOp_ex (by rw [wj]; exact hwj) hej] at hh
        obtain ⟨u', hpu, hk⟩ := hh
        have e1 := hp' w' hw'
        have e2 := hpu w' hw'
        rw [ej, e1] at e2
        have : u = u' := by injection e2 with e3 _; injection e3
        subst this
        rw [← comm]; exact hk
      · rw [mOp_skip hwj]
        show mOp P ops C ex oi K (a.put oj.dst undef) w
        rw [mOp_non (by rw [wi]; exact hwi) hei, ei]
        refine actUpon_mono (fun v w' hw' hh => ?_) h
        replace hh : mOp P ops C ex oj K (a.put oi.dst v) w' := hh
        rw [mOp_skip (by rw [wj]; exact hwj)] at hh
        rw [← comm]; exact hh
  · rw [mOp_skip hwi] at h
    refine mOp_mono hC (fun u w' hw' hh => ?_) (shift undef w hC h)
    show mOp P ops C ex oi K (a.put oj.dst u) w'
    rw [mOp_skip (by rw [wi]; exact hwi)]
    exact hh

theorem wpAnyM_first {Q : Act → World → Prop} {i : Nat} {oi : Oper} (hi : ops[i]? = some oi) (hsel : ∀ (j : Nat) (o : Oper) cs b, ops[j]? = some o → o.op ≠ .select cs b)
    (hexx : ∀ j oj, ops[j]? = some oj → j ≠ i → (∀ e ∈ oj.after, Region.binds md e = true → e.on ≠ i) → i < j → ex oi = true ∨ ex oj = true) :
    ∀ (fuel : Nat) (listed : Array Bool) (a : Act) (w : World), C w → (∀ k, k < i → listed.getD k true = true) →
      (∀ j oj, ops[j]? = some oj → j ≠ i → listed.getD j true = false → (∀ e ∈ oj.after, Region.binds md e = true → e.on ≠ i) → oi.apart ops oj = true) →
      i ∈ Region.ready md ops listed →
      mOp P ops C ex oi (wpAnyM P md ops C ex Q fuel (listed.setIfInBounds i true)) a w → wpAnyM P md ops C ex Q (fuel + 1) listed a w := by
  intro fuel
  induction fuel with
  | zero =>
    intro listed a w hC hlow _ hr H
    refine ⟨fun h => (by rw [h] at hr; cases hr), fun j hj => ?_⟩
    by_cases hji : j = i
    · subst hji; unfold mOpI; rw [hi]; exact H
    · -- another one is ready: then after i as well, but no step is left
      exfalso
      have hrd := ready_mono hj hji
      have h0 : Region.ready md ops (listed.setIfInBounds i true) = [] := by
        unfold mOp at H
        split at H
        · split at H
          · obtain ⟨v, _, h0⟩ := H; exact h0.1
          · obtain ⟨v, w', _, h0⟩ := actUpon_some H; exact h0.1
        · exact H.1
      rw [h0] at hrd
      cases hrd
  | succ fuel ih =>
    intro listed a w hC hlow hfree hr H
    refine ⟨fun h => (by rw [h] at hr; cases hr), fun j hj => ?_⟩
    by_cases hji : j = i
    · subst hji; unfold mOpI; rw [hi]; exact H
    · obtain ⟨hjun, oj, hoj, hall⟩ := mem_ready.1 hj
      have hnot : ∀ e ∈ oj.after, Region.binds md e = true → e.on ≠ i := fun e he hb heq => by
        have h1 := hall e he hb
        have h0 := (mem_ready.1 hr).1
        rw [heq] at h1
        rcases Nat.lt_or_ge i listed.size with h' | h'
        · simp [h'] at h0 h1; rw [h0] at h1; cases h1
        · simp [Array.getElem?_eq_none h'] at h1
      have hij : i < j := by
        rcases Nat.lt_or_ge i j with h' | h'
        · exact h'
        · have := hlow j (by omega)
          rw [this] at hjun
          cases hjun
      have hap := hfree j oj hoj hji hjun hnot
      have h1 : mOp P ops C ex oi (fun a' w' => mOp P ops C ex oj (wpAnyM P md ops C ex Q fuel ((listed.setIfInBounds i true).setIfInBounds j true)) a' w') a w := by
        refine mOp_mono hC (fun v w' _ hh => ?_) H
        have := hh.2 j (ready_mono hj hji)
        unfold mOpI at this
        rw [hoj] at this
        exact this
      have h2 := mOp_swap hC hap (hexx j oj hoj hji hnot hij) (fun cs b => hsel i oi cs b hi) (fun cs b => hsel j oj cs b hoj) h1
      have hfree' : ∀ k ok, ops[k]? = some ok → k ≠ i → (listed.setIfInBounds j true).getD k true = false →
          (∀ e ∈ ok.after, Region.binds md e = true → e.on ≠ i) → oi.apart ops ok = true := fun k ok hk hki hun hno => by
        refine hfree k ok hk hki ?_ hno
        by_cases hjk : j = k
        · subst hjk; exact hjun
        · rw [getD_set_ne true hjk] at hun; exact hun
      unfold mOpI
      rw [hoj]
      refine mOp_mono hC (fun u w' hw' h3 => ih (listed.setIfInBounds j true) _ w' hw' (fun k hk => ?_) hfree' (ready_mono hr (Ne.symm hji)) ?_) h2
      · rw [getD_set_ne true (by omega)]; exact hlow k hk
      · rw [Array.setIfInBounds_comm _ _ hji]
        exact h3

/-- may the order of the text be taken for any order: of each two operations with no edge between them one is exact -/
def mixFrom (ex : Oper → Bool) (ops : Array Oper) (md : Region.Mode) : List Oper → Nat → Bool
  | [], _ => true
  | o :: l, k => (ex o || (l.zipIdx (k + 1)).all fun (oj, _) => ex oj || oj.after.any fun e => Region.binds md e && e.on == k) && mixFrom ex ops md l (k + 1)

theorem mixFrom_spec {o : Oper} {l : List Oper} {k : Nat} (h : mixFrom ex ops md (o :: l) k = true) (hl : ∀ j, (o :: l)[j]? = ops[k + j]?) :
    ∀ j oj, ops[j]? = some oj → j ≠ k → (∀ e ∈ oj.after, Region.binds md e = true → e.on ≠ k) → k < j → ex o = true ∨ ex oj = true := by
  intro j oj hoj _ hno hkj
  simp only [mixFrom, Bool.and_eq_true, Bool.or_eq_true] at h
  rcases h.1 with h1 | h1
  · exact .inl h1
  · right
    obtain ⟨m, rfl⟩ : ∃ m, j = k + 1 + m := ⟨j - (k + 1), by omega⟩
    have hm : l[m]? = some oj := by
      have := hl (m + 1)
      rw [show k + (m + 1) = k + 1 + m by omega, hoj] at this
      simpa using this
    have hmem : (oj, k + 1 + m) ∈ l.zipIdx (k + 1) := by
      rw [List.mem_iff_getElem?]
      exact ⟨m, by rw [List.getElem?_zipIdx, hm]; rfl⟩
    have := List.all_eq_true.1 h1 _ hmem
    simp only [Bool.or_eq_true] at this
    rcases this with h2 | h2
    · exact h2
    · exfalso
      rw [Array.any_eq_true] at h2
      obtain ⟨n, hn, h3⟩ := h2
      simp only [Bool.and_eq_true, beq_iff_eq] at h3
      exact hno _ (Array.getElem_mem hn) h3.1 h3.2

theorem wpAnyM_lex {Q : Act → World → Prop} (hs : Region.noSelect ops = true) : ∀ (l : List Oper) (k : Nat) (listed : Array Bool) (a : Act) (w : World), C w → (∀ j, l[j]? = ops[k + j]?) →
    (∀ m, m < k → listed.getD m true = true) → Region.lexFrom md ops l.length k listed = true → mixFrom ex ops md l k = true → wpMix P ops C ex Q l a w → wpAnyM P md ops C ex Q l.length listed a w
  | [], _, _, _, _, _, _, _, hB, _, h => ⟨by simpa [Region.lexFrom] using hB, h⟩
  | o :: l, k, listed, a, w, hC, hl, hlow, hB, hm, h => by
    have h0 : ops[k]? = some o := by simpa using (hl 0).symm
    have hspec := mixFrom_spec hm hl
    simp only [List.length_cons, Region.lexFrom, Bool.and_eq_true] at hB
    obtain ⟨⟨hr, hf⟩, hB'⟩ := hB
    have hr' : k ∈ Region.ready md ops listed := by simpa using hr
    have hm' : mixFrom ex ops md l (k + 1) = true := by simp only [mixFrom, Bool.and_eq_true] at hm; exact hm.2
    refine wpAnyM_first h0 (Region.noSelect_spec hs) hspec l.length listed a w hC hlow (Region.free_spec h0 hf) hr' ?_
    refine mOp_mono hC (fun v w' hw' hh => ?_) h
    refine wpAnyM_lex hs l (k + 1) _ _ w' hw' (fun j => by have := hl (j + 1); simpa [Nat.add_assoc, Nat.add_comm 1 j] using this) (fun m hmk => ?_) hB' hm' hh
    by_cases hmk' : m = k
    · subst hmk'
      rcases Nat.lt_or_ge m listed.size with h' | h'
      · simp [h']
      · simp [Array.getElem?_eq_none h']
    · rw [getD_set_ne true (by omega)]
      exact hlow m (by omega)

/-- **one walk in the order of the text serves every order** -/
theorem wp_region_mix {id : Nat} {Q : Exit → Act → World → Prop} {a : Act} {w : World} (hm : P.follows .mixedOrders = true) (hB : Region.lexB .any ops = true) (hx : mixFrom ex ops .any ops.toList 0 = true)
    (hC : C { w with drawn := w.drawn + 1 }) (h : wpMix P ops C ex (fun a' w' => Q .normal a' w') ops.toList a { w with drawn := w.drawn + 1 }) : (Code.region id ops true).wp P Q a w := by
  simp only [Region.lexB, Bool.and_eq_true] at hB
  refine wp_region_any hm (wpAny_of_mix (ex := ex) (Q := fun a' w' => Q .normal a' w') (fun _ _ _ h => h) _ _ _ _ hC ?_)
  have := wpAnyM_lex (P := P) (C := C) (md := .any) (Q := fun a' w' => Q .normal a' w') hB.1 ops.toList 0 (Array.replicate ops.size false) a _ hC (by simp) (fun m hm => by omega) (by simpa using hB.2) hx h
  simpa using this

end
end Go.Vc
