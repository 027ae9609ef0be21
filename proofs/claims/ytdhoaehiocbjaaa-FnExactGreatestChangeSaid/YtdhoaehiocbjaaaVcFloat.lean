/- Regions that draw their order and make one new block that may come before calls: the walks in which it comes at each such place serve every order. -/
import Derived.Test.YtdhoaehiocbjaaaVcSeq
set_option linter.all false
namespace Go.Vc
open Go

abbrev noRd : Oper → Bool := fun _ => false

section
variable {P : Program} {ops : Array Oper} {md : Region.Mode} {C : World → Prop} {ex : Oper → Bool}

theorem mOp3_and {o : Oper} {a : Act} {w : World} {K K' : Act → World → Prop} (hC : C w) (he : ex o = true) (h : mOp3 P ops C ex noRd o K a w) (h' : mOp3 P ops C ex noRd o K' a w) : mOp3 P ops C ex noRd o (fun a w => K a w ∧ K' a w) a w := by
  by_cases hw : Region.wanted o (yielded ops a.tmps) = true
  · rw [mOp3_ex hw he] at *
    obtain ⟨v, p, k⟩ := h
    obtain ⟨v', p', k'⟩ := h'
    have e1 := p w hC
    have e2 := p' w hC
    rw [e1] at e2
    have : v = v' := by injection e2 with e3 _; injection e3
    subst this
    exact ⟨v, p, k, k'⟩
  · rw [mOp3_skip hw] at *
    exact ⟨h, h'⟩

theorem mOp3_some {o : Oper} {a : Act} {w : World} {K : Act → World → Prop} (hC : C w) (h : mOp3 P ops C ex noRd o K a w) : ∃ v w', C w' ∧ K (a.put o.dst v) w' := by
  by_cases hw : Region.wanted o (yielded ops a.tmps) = true
  · by_cases he : ex o = true
    · rw [mOp3_ex hw he] at h
      obtain ⟨v, _, k⟩ := h
      exact ⟨v, w, hC, k⟩
    · rw [mOp3_non hw he (by simp)] at h
      exact actUpon_some h
  · rw [mOp3_skip hw] at h
    exact ⟨_, w, hC, h⟩

/-- what holds still when more is listed -/
def Grow (listed0 listed : Array Bool) : Prop := listed.size = listed0.size ∧ ∀ k, listed0.getD k false = true → listed.getD k false = true
theorem Grow.refl (l : Array Bool) : Grow l l := ⟨rfl, fun _ h => h⟩
theorem Grow.set {l0 l : Array Bool} (h : Grow l0 l) (j : Nat) : Grow l0 (l.setIfInBounds j true) := ⟨by simp [h.1], fun k hk => getD_set_true (h.2 k hk)⟩
theorem Grow.un {l0 l : Array Bool} (h : Grow l0 l) {j : Nat} (hu : l.getD j true = false) : l0.getD j true = false := by
  rcases Nat.lt_or_ge j l.size with h1 | h1
  · have h2 : j < l0.size := by rw [← h.1]; exact h1
    cases hb : l0[j] with
    | false => simp [h2, hb]
    | true =>
      have := h.2 j (by simp [h2, hb])
      simp [h1] at this hu
      rw [this] at hu; cases hu
  · simp [Array.getElem?_eq_none h1] at hu

theorem wpAnyM3_firstG {G : Array Bool → Prop} (hG : ∀ l j, G l → G (l.setIfInBounds j true)) {Q : Act → World → Prop} {i : Nat} {oi : Oper} (hi : ops[i]? = some oi) (hsel : ∀ (j : Nat) (o : Oper) cs b, ops[j]? = some o → o.op ≠ .select cs b)
    (hexx : ∀ listed j oj, G listed → Closed md ops listed → ops[j]? = some oj → listed.getD i true = false → j ∈ Region.ready md ops listed → i < j → ex oi = true ∨ ex oj = true) :
    ∀ (fuel : Nat) (listed : Array Bool) (a : Act) (w : World), G listed → C w → Closed md ops listed → (∀ k, k < i → listed.getD k true = true) →
      (∀ j oj, ops[j]? = some oj → j ≠ i → listed.getD j true = false → (∀ e ∈ oj.after, Region.binds md e = true → e.on ≠ i) → oi.apart ops oj = true) →
      i ∈ Region.ready md ops listed →
      mOp3 P ops C ex noRd oi (wpAnyM3 P md ops C ex noRd Q fuel (listed.setIfInBounds i true)) a w → wpAnyM3 P md ops C ex noRd Q (fuel + 1) listed a w := by
  intro fuel
  induction fuel with
  | zero =>
    intro listed a w hg hC hcl hlow _ hr H
    refine ⟨fun h => (by rw [h] at hr; cases hr), fun j hj => ?_⟩
    by_cases hji : j = i
    · subst hji; unfold mOpI3; rw [hi]; exact H
    · exfalso
      have hrd := ready_mono hj hji
      obtain ⟨v, w', _, h0⟩ := mOp3_some hC H
      rw [h0.1] at hrd
      cases hrd
  | succ fuel ih =>
    intro listed a w hg hC hcl hlow hfree hr H
    refine ⟨fun h => (by rw [h] at hr; cases hr), fun j hj => ?_⟩
    by_cases hji : j = i
    · subst hji; unfold mOpI3; rw [hi]; exact H
    · obtain ⟨hjun, oj, hoj, hall⟩ := mem_ready.1 hj
      have hnot : ∀ e ∈ oj.after, Region.binds md e = true → e.on ≠ i := fun e he hb heq => by
        have h1 := hall e he hb
        have h0 := (mem_ready.1 hr).1
        rw [heq] at h1
        rcases Nat.lt_or_ge i listed.size with h' | h'
        · simp [h'] at h0 h1; rw [h0] at h1; cases h1
        · simp [Array.getElem?_eq_none h'] at h1
      have hij : i < j := by
        rcases Nat.lt_or_ge i j with h' | h'
        · exact h'
        · have := hlow j (by omega)
          rw [this] at hjun
          cases hjun
      have hap := hfree j oj hoj hji hjun hnot
      have h1 : mOp3 P ops C ex noRd oi (fun a' w' => mOp3 P ops C ex noRd oj (wpAnyM3 P md ops C ex noRd Q fuel ((listed.setIfInBounds i true).setIfInBounds j true)) a' w') a w := by
        refine mOp3_mono hC (fun v w' _ hh => ?_) H
        have := hh.2 j (ready_mono hj hji)
        unfold mOpI3 at this
        rw [hoj] at this
        exact this
      have hx := hexx listed j oj hg hcl hoj (mem_ready.1 hr).1 hj hij
      have h2 := mOp3_swap hC hap (hx.imp id .inl) (fun cs b => hsel i oi cs b hi) (fun cs b => hsel j oj cs b hoj) h1
      have hfree' : ∀ k ok, ops[k]? = some ok → k ≠ i → (listed.setIfInBounds j true).getD k true = false →
          (∀ e ∈ ok.after, Region.binds md e = true → e.on ≠ i) → oi.apart ops ok = true := fun k ok hk hki hun hno => by
        refine hfree k ok hk hki ?_ hno
        by_cases hjk : j = k
        · subst hjk; exact hjun
        · rw [getD_set_ne true hjk] at hun; exact hun
      unfold mOpI3
      rw [hoj]
      refine mOp3_mono hC (fun u w' hw' h3 => ih (listed.setIfInBounds j true) _ w' (hG _ _ hg) hw' (hcl.set hj) (fun k hk => ?_) hfree' (ready_mono hr (Ne.symm hji)) ?_) h2
      · rw [getD_set_ne true (by omega)]; exact hlow k hk
      · rw [Array.setIfInBounds_comm _ _ hji]
        exact h3

/-- two operations may come next, each is served -/
theorem wpAnyM3_two {G : Array Bool → Prop} (hG : ∀ l j, G l → G (l.setIfInBounds j true)) {Q : Act → World → Prop} {i p : Nat} {oi op : Oper} (hi : ops[i]? = some oi) (hp : ops[p]? = some op) (hne : i ≠ p)
    (hsel : ∀ (j : Nat) (o : Oper) cs b, ops[j]? = some o → o.op ≠ .select cs b)
    (hexx : ∀ listed j oj, G listed → Closed md ops listed → ops[j]? = some oj → listed.getD i true = false → j ∈ Region.ready md ops listed → i < j → j ≠ p → ex oj = true) :
    ∀ (fuel : Nat) (listed : Array Bool) (a : Act) (w : World), G listed → C w → Closed md ops listed → (∀ k, k < i → listed.getD k true = true) →
      (∀ j oj, ops[j]? = some oj → j ≠ i → listed.getD j true = false → (∀ e ∈ oj.after, Region.binds md e = true → e.on ≠ i) → oi.apart ops oj = true) →
      (∀ j oj, ops[j]? = some oj → j ≠ p → listed.getD j true = false → (∀ e ∈ oj.after, Region.binds md e = true → e.on ≠ p) → op.apart ops oj = true) →
      i ∈ Region.ready md ops listed → p ∈ Region.ready md ops listed →
      mOp3 P ops C ex noRd oi (wpAnyM3 P md ops C ex noRd Q fuel (listed.setIfInBounds i true)) a w → mOp3 P ops C ex noRd op (wpAnyM3 P md ops C ex noRd Q fuel (listed.setIfInBounds p true)) a w →
      wpAnyM3 P md ops C ex noRd Q (fuel + 1) listed a w := by
  intro fuel
  induction fuel with
  | zero =>
    intro listed a w hg hC hcl hlow _ _ hr hrp H _
    exfalso
    have hrd := ready_mono hrp (Ne.symm hne)
    obtain ⟨v, w', _, h0⟩ := mOp3_some hC H
    rw [h0.1] at hrd
    cases hrd
  | succ fuel ih =>
    intro listed a w hg hC hcl hlow hfi hfp hr hrp Hi Hp
    refine ⟨fun h => (by rw [h] at hr; cases hr), fun j hj => ?_⟩
    by_cases hji : j = i
    · subst hji; unfold mOpI3; rw [hi]; exact Hi
    by_cases hjp : j = p
    · subst hjp; unfold mOpI3; rw [hp]; exact Hp
    obtain ⟨hjun, oj, hoj, hall⟩ := mem_ready.1 hj
    have notOn : ∀ q, q ∈ Region.ready md ops listed → ∀ e ∈ oj.after, Region.binds md e = true → e.on ≠ q := fun q hq e he hb heq => by
      have h1 := hall e he hb
      have h0 := (mem_ready.1 hq).1
      rw [heq] at h1
      rcases Nat.lt_or_ge q listed.size with h' | h'
      · simp [h'] at h0 h1; rw [h0] at h1; cases h1
      · simp [Array.getElem?_eq_none h'] at h1
    have hij : i < j := by
      rcases Nat.lt_or_ge i j with h' | h'
      · exact h'
      · have := hlow j (by omega)
        rw [this] at hjun
        cases hjun
    have hej := hexx listed j oj hg hcl hoj (mem_ready.1 hr).1 hj hij hjp
    have side : ∀ (q : Nat) (oq : Oper), ops[q]? = some oq → j ≠ q → q ∈ Region.ready md ops listed →
        (∀ j oj, ops[j]? = some oj → j ≠ q → listed.getD j true = false → (∀ e ∈ oj.after, Region.binds md e = true → e.on ≠ q) → oq.apart ops oj = true) →
        mOp3 P ops C ex noRd oq (wpAnyM3 P md ops C ex noRd Q (fuel + 1) (listed.setIfInBounds q true)) a w →
        mOp3 P ops C ex noRd oj (fun a' w' => mOp3 P ops C ex noRd oq (wpAnyM3 P md ops C ex noRd Q fuel ((listed.setIfInBounds q true).setIfInBounds j true)) a' w') a w := by
      intro q oq hq hjq hrq hfq Hq
      have hap := hfq j oj hoj hjq hjun (notOn q hrq)
      refine mOp3_swap hC hap (.inr (.inl hej)) (fun cs b => hsel q oq cs b hq) (fun cs b => hsel j oj cs b hoj) ?_
      refine mOp3_mono hC (fun v w' _ hh => ?_) Hq
      have := hh.2 j (ready_mono hj hjq)
      unfold mOpI3 at this
      rw [hoj] at this
      exact this
    have h2 := mOp3_and hC hej (side i oi hi hji hr hfi Hi) (side p op hp hjp hrp hfp Hp)
    have fre : ∀ (q : Nat) (oq : Oper), (∀ j oj, ops[j]? = some oj → j ≠ q → listed.getD j true = false → (∀ e ∈ oj.after, Region.binds md e = true → e.on ≠ q) → oq.apart ops oj = true) →
        ∀ k ok, ops[k]? = some ok → k ≠ q → (listed.setIfInBounds j true).getD k true = false → (∀ e ∈ ok.after, Region.binds md e = true → e.on ≠ q) → oq.apart ops ok = true := fun q oq hf k ok hk hkq hun hno => by
      refine hf k ok hk hkq ?_ hno
      by_cases hjk : j = k
      · subst hjk; exact hjun
      · rw [getD_set_ne true hjk] at hun; exact hun
    unfold mOpI3
    rw [hoj]
    refine mOp3_mono hC (fun u w' hw' h3 => ih (listed.setIfInBounds j true) _ w' (hG _ _ hg) hw' (hcl.set hj) (fun k hk => ?_) (fre i oi hfi) (fre p op hfp) (ready_mono hr (Ne.symm hji)) (ready_mono hrp (Ne.symm hjp)) ?_ ?_) h2
    · rw [getD_set_ne true (by omega)]; exact hlow k hk
    · rw [Array.setIfInBounds_comm _ _ hji]
      exact h3.1
    · rw [Array.setIfInBounds_comm _ _ hjp]
      exact h3.2

/-! ### lists of places -/
def exI (ops : Array Oper) (ex : Oper → Bool) (i : Nat) : Bool := match ops[i]? with | some o => ex o | none => false
def lexIs (md : Region.Mode) (ops : Array Oper) : List Nat → Array Bool → Bool
  | [], listed => (Region.ready md ops listed).isEmpty
  | i :: is, listed => (Region.ready md ops listed).contains i && Region.free md ops listed i && lexIs md ops is (listed.setIfInBounds i true)
def mixIs (ops : Array Oper) (ex : Oper → Bool) (ms : List Nat) : List Nat → Bool
  | [] => true
  | i :: is => (exI ops ex i || is.all fun j => exI ops ex j || (ms.getD j 0).testBit i) && mixIs ops ex ms is
def risesB : List Nat → Bool
  | [] => true
  | i :: is => is.all (fun j => decide (i < j)) && risesB is
def wpIs (P : Program) (ops : Array Oper) (C : World → Prop) (ex : Oper → Bool) (Q : Act → World → Prop) : List Nat → Act → World → Prop
  | [], a, w => Q a w
  | i :: is, a, w => mOpI3 P ops C ex noRd i (wpIs P ops C ex Q is) a w

/-- who surely comes after an unlisted one is not ready -/
theorem not_after {ms : List Nat} (hg : GoodM md ops ms) {listed : Array Bool} {i j : Nat} (hcl : Closed md ops listed) (hun : listed.getD i true = false) (hj : j ∈ Region.ready md ops listed) (h : (ms.getD j 0).testBit i = true) : False := by
  obtain ⟨oj, hoj, hh⟩ := hg _ _ h
  obtain ⟨_, o2, ho2, hall⟩ := mem_ready.1 hj
  rw [hoj] at ho2; cases ho2
  have := hh listed hcl hall
  rcases Nat.lt_or_ge i listed.size with h' | h'
  · simp [h'] at hun this; rw [hun] at this; cases this
  · simp [Array.getElem?_eq_none h'] at this

theorem wpIs_lex {ms : List Nat} {Q : Act → World → Prop} (hg : GoodM md ops ms) (hs : Region.noSelect ops = true) : ∀ (is : List Nat) (listed : Array Bool) (a : Act) (w : World), C w → Closed md ops listed →
    (∀ j, listed.getD j true = false → j ∈ is) → risesB is = true → lexIs md ops is listed = true → mixIs ops ex ms is = true → wpIs P ops C ex Q is a w → wpAnyM3 P md ops C ex noRd Q is.length listed a w
  | [], _, _, _, _, _, _, _, hB, _, h => ⟨by simpa [lexIs] using hB, h⟩
  | i :: is, listed, a, w, hC, hcl, hun, hrise, hB, hm, h => by
    simp only [lexIs, Bool.and_eq_true] at hB
    obtain ⟨⟨hr, hf⟩, hB'⟩ := hB
    have hr' : i ∈ Region.ready md ops listed := by simpa using hr
    obtain ⟨hiun, oi, hoi, _⟩ := mem_ready.1 hr'
    simp only [risesB, Bool.and_eq_true, List.all_eq_true, decide_eq_true_eq] at hrise
    simp only [mixIs, Bool.and_eq_true, Bool.or_eq_true, List.all_eq_true] at hm
    have hexi : exI ops ex i = ex oi := by unfold exI; rw [hoi]
    refine wpAnyM3_firstG (G := Grow listed) (fun l j hl => hl.set j) hoi (Region.noSelect_spec hs) (fun l j oj hgr hcl' hoj hiu hj hij => ?_) is.length listed a w (Grow.refl _) hC hcl (fun k hk => ?_) (Region.free_spec hoi hf) hr' ?_
    · rcases hm.1 with h1 | h1
      · exact .inl (hexi ▸ h1)
      · have hjm : j ∈ is := by
          have := hun j (hgr.un (mem_ready.1 hj).1)
          rcases List.mem_cons.1 this with rfl | this
          · omega
          · exact this
        rcases h1 j hjm with h2 | h2
        · right; unfold exI at h2; rw [hoj] at h2; exact h2
        · exact (not_after hg hcl' hiu hj h2).elim
    · cases hb : listed.getD k true with
      | true => rfl
      | false =>
        have := hun k hb
        rcases List.mem_cons.1 this with rfl | this
        · omega
        · have := hrise.1 k this; omega
    · have h' : mOp3 P ops C ex noRd oi (wpIs P ops C ex Q is) a w := by
        unfold wpIs mOpI3 at h
        rw [hoi] at h
        exact h
      refine mOp3_mono hC (fun v w' hw' hh => ?_) h'
      refine wpIs_lex hg hs is _ _ w' hw' (hcl.set hr') (fun j hj => ?_) hrise.2 hB' hm.2 hh
      by_cases e : i = j
      · subst e
        rcases Nat.lt_or_ge i listed.size with h' | h'
        · simp [h'] at hj
        · simp [Array.getElem?_eq_none h'] at hj
      · rw [getD_set_ne true e] at hj
        rcases List.mem_cons.1 (hun j hj) with h1 | h1
        · exact absurd h1.symm e
        · exact h1

theorem wpIs_of_mix : ∀ (l : List Oper) (is : List Nat) {Q : Act → World → Prop} (a : Act) (w : World), C w → is.map (fun i => ops[i]?) = l.map some → wpMix P ops C ex Q l a w → wpIs P ops C ex Q is a w
  | [], [], _, _, _, _, _, h => h
  | [], i :: is, _, _, _, _, he, _ => by simp at he
  | o :: l, [], _, _, _, _, he, _ => by simp at he
  | o :: l, i :: is, Q, a, w, hC, he, h => by
    simp only [List.map_cons, List.cons.injEq] at he
    have h' : mOp P ops C ex o (wpIs P ops C ex Q is) a w := mOp_mono hC (fun v w hC' hk => wpIs_of_mix l is _ _ hC' he.2 hk) h
    unfold wpIs mOpI3
    rw [he.1]
    show mOp3 P ops C ex noRd o (wpIs P ops C ex Q is) a w
    unfold mOp at h'
    unfold mOp3
    simpa using h'

/-! ### the new block at each place -/
def wpFl (P : Program) (ops : Array Oper) (C : World → Prop) (ex : Oper → Bool) (Q : Act → World → Prop) (p : Nat) (aft : List Nat) : List Nat → Act → World → Prop
  | [], a, w => wpIs P ops C ex Q (p :: aft) a w
  | i :: bef, a, w => (exI ops ex i = true ∨ wpIs P ops C ex Q (p :: i :: (bef ++ aft)) a w) ∧ mOpI3 P ops C ex noRd i (wpFl P ops C ex Q p aft bef) a w

theorem wpIs_mono {Q Q' : Act → World → Prop} (hq : ∀ a w, Q a w → Q' a w) : ∀ (l : List Nat) (a : Act) (w : World), C w → wpIs P ops C ex Q l a w → wpIs P ops C ex Q' l a w
  | [], _, _, _, h => hq _ _ h
  | i :: l, a, w, hC, h => by
    unfold wpIs mOpI3 at *
    split
    · rename_i ho; simp only [ho] at h; exact wpIs_mono hq l _ _ hC h
    · rename_i o ho; simp only [ho] at h; exact mOp3_mono hC (fun _ _ hC' hk => wpIs_mono hq l _ _ hC' hk) h

theorem wpFl_mono {p : Nat} {aft : List Nat} {Q Q' : Act → World → Prop} (hq : ∀ a w, Q a w → Q' a w) : ∀ (l : List Nat) (a : Act) (w : World), C w → wpFl P ops C ex Q p aft l a w → wpFl P ops C ex Q' p aft l a w
  | [], _, _, hC, h => wpIs_mono hq _ _ _ hC h
  | i :: l, a, w, hC, h => by
    refine ⟨h.1.imp id fun h => wpIs_mono hq _ _ _ hC h, ?_⟩
    have h := h.2
    unfold mOpI3 at *
    split
    · rename_i ho; simp only [ho] at h; exact wpFl_mono hq l _ _ hC h
    · rename_i o ho; simp only [ho] at h; exact mOp3_mono hC (fun _ _ hC' hk => wpFl_mono hq l _ _ hC' hk) h

def flB (md : Region.Mode) (ops : Array Oper) (ex : Oper → Bool) (ms : List Nat) (p : Nat) (aft : List Nat) : List Nat → Array Bool → Bool
  | [], listed => risesB (p :: aft) && lexIs md ops (p :: aft) listed && mixIs ops ex ms (p :: aft)
  | i :: bef, listed =>
    (Region.ready md ops listed).contains i && Region.free md ops listed i && (exI ops ex i || ((Region.ready md ops listed).contains p && Region.free md ops listed p && lexIs md ops (i :: (bef ++ aft)) (listed.setIfInBounds p true) && mixIs ops ex ms (i :: (bef ++ aft)))) &&
      (i :: (bef ++ aft)).all (fun j => j != p) && risesB (i :: (bef ++ aft)) && decide (i < p) && flB md ops ex ms p aft bef (listed.setIfInBounds i true)

theorem un_set {listed : Array Bool} {i j : Nat} {l : List Nat} (hun : ∀ j, listed.getD j true = false → j ∈ i :: l) (hj : (listed.setIfInBounds i true).getD j true = false) : j ∈ l := by
  by_cases e : i = j
  · subst e
    rcases Nat.lt_or_ge i listed.size with h' | h'
    · simp [h'] at hj
    · simp [Array.getElem?_eq_none h'] at hj
  · rw [getD_set_ne true e] at hj
    rcases List.mem_cons.1 (hun j hj) with h1 | h1
    · exact absurd h1.symm e
    · exact h1

theorem wpFl_lex {ms : List Nat} {Q : Act → World → Prop} (hg : GoodM md ops ms) (hs : Region.noSelect ops = true) {p : Nat} {aft : List Nat} : ∀ (bef : List Nat) (listed : Array Bool) (a : Act) (w : World), C w → Closed md ops listed →
    (∀ j, listed.getD j true = false → j ∈ bef ++ p :: aft) → flB md ops ex ms p aft bef listed = true → wpFl P ops C ex Q p aft bef a w → wpAnyM3 P md ops C ex noRd Q (bef.length + (aft.length + 1)) listed a w
  | [], listed, a, w, hC, hcl, hun, hB, h => by
    simp only [flB, Bool.and_eq_true] at hB
    have := wpIs_lex hg hs (p :: aft) listed a w hC hcl hun hB.1.1 hB.1.2 hB.2 h
    simpa using this
  | i :: bef, listed, a, w, hC, hcl, hun, hB, h => by
    simp only [flB, Bool.and_eq_true, Bool.or_eq_true, List.all_eq_true, decide_eq_true_eq] at hB
    obtain ⟨⟨⟨⟨⟨⟨hr, hf⟩, hmid⟩, hnp⟩, hrise⟩, hip⟩, hB'⟩ := hB
    have hr' : i ∈ Region.ready md ops listed := by simpa using hr
    obtain ⟨hiun, oi, hoi, _⟩ := mem_ready.1 hr'
    have hexi : exI ops ex i = ex oi := by unfold exI; rw [hoi]
    obtain ⟨hfirst, hstep⟩ := h
    have hstep' : mOp3 P ops C ex noRd oi (wpFl P ops C ex Q p aft bef) a w := by
      unfold mOpI3 at hstep
      rw [hoi] at hstep
      exact hstep
    have hun' : ∀ j, listed.getD j true = false → j ∈ i :: (bef ++ p :: aft) := by simpa using hun
    have hnext : mOp3 P ops C ex noRd oi (wpAnyM3 P md ops C ex noRd Q (bef.length + (aft.length + 1)) (listed.setIfInBounds i true)) a w :=
      mOp3_mono hC (fun v w' hw' hh => wpFl_lex hg hs bef _ _ w' hw' (hcl.set hr') (fun j hj => un_set hun' hj) hB' hh) hstep'
    have hrise0 := hrise
    simp only [risesB, Bool.and_eq_true, List.all_eq_true, decide_eq_true_eq] at hrise
    have hlow : ∀ k, k < i → listed.getD k true = true := fun k hk => by
      cases hb : listed.getD k true with
      | true => rfl
      | false =>
        have := hun' k hb
        rcases List.mem_cons.1 this with rfl | this
        · omega
        · rcases List.mem_append.1 this with h1 | h1
          · have := hrise.1 k (List.mem_append_left _ h1); omega
          · rcases List.mem_cons.1 h1 with rfl | h1
            · omega
            · have := hrise.1 k (List.mem_append_right _ h1); omega
    have hlen : (i :: bef).length + (aft.length + 1) = bef.length + (aft.length + 1) + 1 := by simp; omega
    rw [hlen]
    by_cases hx : exI ops ex i = true
    · exact wpAnyM3_firstG (G := fun _ => True) (fun _ _ _ => trivial) hoi (Region.noSelect_spec hs) (fun l j oj _ _ _ _ _ _ => .inl (hexi ▸ hx)) _ listed a w trivial hC hcl hlow (Region.free_spec hoi hf) hr' hnext
    · obtain ⟨⟨⟨hrp, hfp⟩, hlx⟩, hmx⟩ := hmid.resolve_left hx
      have hrp' : p ∈ Region.ready md ops listed := by simpa using hrp
      obtain ⟨hpun, op, hop, _⟩ := mem_ready.1 hrp'
      have hq := hfirst.resolve_left hx
      have hq' : mOp3 P ops C ex noRd op (wpIs P ops C ex Q (i :: (bef ++ aft))) a w := by
        rw [wpIs] at hq
        unfold mOpI3 at hq
        rw [hop] at hq
        exact hq
      have hpnext : mOp3 P ops C ex noRd op (wpAnyM3 P md ops C ex noRd Q (bef.length + (aft.length + 1)) (listed.setIfInBounds p true)) a w := by
        refine mOp3_mono hC (fun v w' hw' hh => ?_) hq'
        have := wpIs_lex hg hs (i :: (bef ++ aft)) (listed.setIfInBounds p true) _ w' hw' (hcl.set hrp') (fun j hj => ?_) hrise0 hlx hmx hh
        · have e : (i :: (bef ++ aft)).length = bef.length + (aft.length + 1) := by simp; omega
          rw [e] at this
          exact this
        · refine un_set (i := p) (fun k hk => ?_) hj
          have := hun' k hk
          simp only [List.mem_cons, List.mem_append] at this ⊢
          rcases this with h1 | h1 | h1 | h1
          · exact .inr (.inl h1)
          · exact .inr (.inr (.inl h1))
          · exact .inl h1
          · exact .inr (.inr (.inr h1))
      simp only [mixIs, Bool.and_eq_true, Bool.or_eq_true, List.all_eq_true] at hmx
      refine wpAnyM3_two (G := Grow listed) (fun l j hl => hl.set j) hoi hop (by omega) (Region.noSelect_spec hs) (fun l j oj hgr hcl' hoj hiu hj hij hjp => ?_) _ listed a w (Grow.refl _) hC hcl hlow (Region.free_spec hoi hf) (Region.free_spec hop hfp) hr' hrp' hnext hpnext
      have hjm : j ∈ bef ++ aft := by
        have := hun' j (hgr.un (mem_ready.1 hj).1)
        simp only [List.mem_cons, List.mem_append] at this ⊢
        rcases this with h1 | h1 | h1 | h1
        · omega
        · exact .inl h1
        · exact absurd h1 hjp
        · exact .inr h1
      rcases hmx.1.resolve_left hx j hjm with h2 | h2
      · unfold exI at h2; rw [hoj] at h2; exact h2
      · exact (not_after hg hcl' hiu hj h2).elim

/-- the whole check: the new block is made by operation p -/
def floatB (ops : Array Oper) (ex : Oper → Bool) (p : Nat) : Bool :=
  Region.noSelect ops && decide (p < ops.size) && flB .any ops ex (masks .any ops.toList []) p (List.range' (p + 1) (ops.size - (p + 1))) (List.range p) (Array.replicate ops.size false)

theorem wp_region_float {id : Nat} {p : Nat} {Q : Exit → Act → World → Prop} {a : Act} {w : World} (hm : P.follows .mixedOrders = true) (hB : floatB ops ex p = true)
    (hC : C { w with drawn := w.drawn + 1 }) (h : wpFl P ops C ex (fun a' w' => Q .normal a' w') p (List.range' (p + 1) (ops.size - (p + 1))) (List.range p) a { w with drawn := w.drawn + 1 }) : (Code.region id ops true).wp P Q a w := by
  simp only [floatB, Bool.and_eq_true, decide_eq_true_eq] at hB
  refine wp_region_any hm (wpAny_of_mix3 (ex := ex) (rd := noRd) (Q := fun a' w' => Q .normal a' w') (fun _ _ _ h => h) _ _ _ _ hC ?_)
  have hg : GoodM .any ops (masks .any ops.toList []) := masks_good ops.toList [] (fun m => by simp) (fun j k hk => by simp at hk)
  have := wpFl_lex (P := P) (C := C) (md := .any) (ex := ex) (Q := fun a' w' => Q .normal a' w') hg hB.1.1 (p := p) (aft := List.range' (p + 1) (ops.size - (p + 1))) (List.range p) (Array.replicate ops.size false) a _ hC Closed.none (fun j hj => ?_) hB.2 h
  · have e : (List.range p).length + ((List.range' (p + 1) (ops.size - (p + 1))).length + 1) = ops.size := by simp; omega
    rw [e] at this
    exact this
  · have hlt : j < ops.size := by
      rcases Nat.lt_or_ge j ops.size with h' | h'
      · exact h'
      · simp [h'] at hj
    simp only [List.mem_append, List.mem_range, List.mem_cons, List.mem_range'_1]
    omega

end
end Go.Vc
