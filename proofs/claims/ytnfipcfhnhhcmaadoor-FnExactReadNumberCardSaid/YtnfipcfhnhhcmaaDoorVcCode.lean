/- Code: the generator over whole pieces of code, and that it tells the truth. -/
import Derived.Test.YtnfipcfhnhhcmaaDoorVcMore
set_option linter.all false
namespace Go.Vc
open Go Go.Fl

structure VI where
  op : VO
  dst : Option Nat
  g : Option (Nat × Bool)

inductive V where
  | ops (l : List VI)
  | dops (l : List VI)
  | bops (l : List VI)
  | seq (a b : V)
  | cond (c : Operand) (a b : V)
  | block (id : Nat) (a : V)
  | loop (a : V)
  | exit (id : Nat)
  | ret
  | skip

def VO.quiet : VO → Bool
  | .box .. | .alloc .. | .store .. | .callv .. | .app .. | .bslice .. | .mks .. | .dead | .ifc .. | .inil .. | .bstr .. | .strb .. | .slcA .. | .f32from .. => false
  | _ => true

def cmpItem (P : Program) (N : Nat) (ops : Array Oper) (o : Oper) : Option VI :=
  match cmpOpY P o with
  | some op =>
    if okDst N o.dst then
      match o.guard with
      | none => some ⟨op, o.dst, none⟩
      | some (j, want) =>
        match (ops[j]?).bind (·.dst) with
        | some d => if d < N then some ⟨op, o.dst, some (d, want)⟩ else none
        | none => none
    else none
  | none => none

def cmpOps (P : Program) (N : Nat) (ops : Array Oper) : List Oper → Option (List VI)
  | [] => some []
  | o :: l =>
    match cmpItem P N ops o, cmpOps P N ops l with
    | some i, some l => some (i :: l)
    | _, _ => none

def cmp (P : Program) (N : Nat) : Code → Option V
  | .skip => some .skip
  | .region _ ops draw =>
    match cmpOps P N ops ops.toList with
    | some l =>
      if draw then
        if P.follows .mixedOrders && Region.lexB .any ops then
          if mix3From (plO P) (rdO P) (masks .any ops.toList []) ops.toList 0 then some (.ops l)
          else if mix3From (exO P) (fun _ => false) (masks .any ops.toList []) ops.toList 0 then some (.bops l)
          else if l.all (·.op.quiet) then some (.dops l) else none
        else none
      else some (.ops l)
    | none => none
  | .seq a b => match cmp P N a, cmp P N b with | some a, some b => some (.seq a b) | _, _ => none
  | .cond c a b => match cmp P N a, cmp P N b with | some a, some b => some (.cond c a b) | _, _ => none
  | .block id a => match cmp P N a with | some a => some (.block id a) | none => none
  | .loop a => match cmp P N a with | some a => some (.loop a) | none => none
  | .exit id => some (.exit id)
  | .ret => some .ret
  | _ => none

abbrev Kont := Env → Hp → Prop

def kp (K : Kont) (ρ : Env) (d : Option Nat) (v : Value) (h : Hp) : Prop := K (Env.put ρ d v) h
def kpq (K : Env → Prop) (ρ : Env) (d : Option Nat) (v : Value) : Prop := K (Env.put ρ d v)
def kq (K : Kont) (h : Hp) (ρ : Env) : Prop := K ρ h

def stepA (P : Program) (i : VI) (K : Kont) (ρ : Env) (h : Hp) : Prop := stepV P i.op ρ h (kp K ρ i.dst)
def skipA (i : VI) (K : Kont) (ρ : Env) (h : Hp) : Prop := K (Env.put ρ i.dst undef) h
def stepB (P : Program) (Rf : Nat → Array Value → Value → Prop) (i : VI) (h : Hp) (K : Env → Prop) (ρ : Env) : Prop := stepQ P Rf i.op ρ h (kpq K ρ i.dst)
def skipB (i : VI) (K : Env → Prop) (ρ : Env) : Prop := K (Env.put ρ i.dst undef)

/-- a guard: the slot's Bool is the one wanted, or not -/
def gcond {α : Type} (g : Value) (d : Nat) (want : Bool) (A B : Env → α → Prop) (ρ : Env) (h : α) : Prop :=
  match g with
  | .bool b => (b = want → A ((d, .bool want) :: ρ) h) ∧ (b = !want → B ((d, .bool !want) :: ρ) h)
  | _ => B ρ h

def vops (P : Program) : List VI → Kont → Kont
  | [], K, ρ, h => K ρ h
  | i :: l, K, ρ, h =>
    match i.g with
    | none => stepA P i (vops P l K) ρ h
    | some (d, want) => gcond (Env.get ρ d) d want (stepA P i (vops P l K)) (skipA i (vops P l K)) ρ h

/-- the blocks that exact operations read lie there still -/
def Sub (hc h : Hp) : Prop := ∀ x ∈ hc, x ∈ h

def ks (hc : Hp) (K : Kont) (ρ : Env) (d : Option Nat) (v : Value) (h : Hp) : Prop := Sub hc h ∧ K (Env.put ρ d v) h

def kx (K : Kont) (ρ : Env) (d : Option Nat) (h : Hp) (v : Value) : Prop := K (Env.put ρ d v) h

def stepX (P : Program) (hc : Hp) (i : VI) (K : Kont) (ρ : Env) (h : Hp) : Prop :=
  bif i.op.exact then stepQ P noRf i.op ρ hc (kx K ρ i.dst h) else stepV P i.op ρ h (ks hc K ρ i.dst)

def vbops (P : Program) (hc : Hp) : List VI → Kont → Kont
  | [], K, ρ, h => K ρ h
  | i :: l, K, ρ, h =>
    match i.g with
    | none => stepX P hc i (vbops P hc l K) ρ h
    | some (d, want) => gcond (Env.get ρ d) d want (stepX P hc i (vbops P hc l K)) (skipA i (vbops P hc l K)) ρ h

def lift1 (A : Env → Prop) (ρ : Env) (_ : Unit) : Prop := A ρ

def vdops (P : Program) (Rf : Nat → Array Value → Value → Prop) (h : Hp) : List VI → (Env → Prop) → Env → Prop
  | [], K, ρ => K ρ
  | i :: l, K, ρ =>
    match i.g with
    | none => stepB P Rf i h (vdops P Rf h l K) ρ
    | some (d, want) => gcond (Env.get ρ d) d want (lift1 (stepB P Rf i h (vdops P Rf h l K))) (lift1 (skipB i (vdops P Rf h l K))) ρ ()

def vcond (c : Value) (A B : Kont) (ρ : Env) (h : Hp) : Prop :=
  match c with
  | .bool b => (b = true → A ρ h) ∧ (b = false → B ρ h)
  | _ => False

def xget : List (Nat × Kont) → Nat → Kont
  | [], _, _, _ => False
  | x :: X, id, ρ, h => if id = x.1 then x.2 ρ h else xget X id ρ h

/-- behind a round: the relation at a smaller number, some blocks forgotten -/
def again (I : Nat → Kont) (n : Nat) (ρ : Env) (h : Hp) : Prop := ∃ m h', m < n ∧ h'.Sublist h ∧ I m ρ h'

def vc (P : Program) (R : Kont) : V → Kont → List (Nat × Kont) → Kont
  | .ops l, K, _, ρ, h => vops P l K ρ h
  | .dops l, K, _, ρ, h => ∃ Rf, vdops P Rf h l (kq K h) ρ
  | .bops l, K, _, ρ, h => ∃ hc, hc.Sublist h ∧ vbops P hc l K ρ h
  | .seq a b, K, X, ρ, h => vc P R a (vc P R b K X) X ρ h
  | .cond c a b, K, X, ρ, h => vcond (Env.ev ρ c) (vc P R a K X) (vc P R b K X) ρ h
  | .block id a, K, X, ρ, h => vc P R a K ((id, K) :: X) ρ h
  | .loop a, _, X, ρ, h => ∃ I : Nat → Kont, (∃ n h', h'.Sublist h ∧ I n ρ h') ∧ ∀ n ρ' h', I n ρ' h' → vc P R a (again I n) X ρ' h'
  | .exit id, _, X, ρ, h => xget X id ρ h
  | .ret, _, _, ρ, h => R ρ h
  | .skip, K, _, ρ, h => K ρ h

section
variable {P : Program} {N : Nat} {M : Nat → Prop} {w0 : World} {R : Kont}

/-- where an environment and known blocks fit a frame and a world -/
def At (N : Nat) (M : Nat → Prop) (w0 : World) (K : Kont) (a : Act) (w : World) : Prop := ∃ ρ h, Agree N ρ a ∧ Holds M w0 h w ∧ K ρ h

def post (N : Nat) (M : Nat → Prop) (w0 : World) (R K : Kont) (X : List (Nat × Kont)) : Exit → Act → World → Prop
  | .normal, a, w => At N M w0 K a w
  | .exit id, a, w => At N M w0 (xget X id) a w
  | .ret, a, w => At N M w0 R a w
  | _, _, _ => False

theorem yielded_of {ρ : Env} {a : Act} (hag : Agree N ρ a) {ops : Array Oper} {j d : Nat} (hd : (ops[j]?).bind (·.dst) = some d) (hN : d < N) :
    yielded ops a.tmps j = match Env.get ρ d with | .bool b => some b | _ => none := by
  have he := hag.eq d
  have hs : d < a.tmps.size := by rw [hag.size]; exact hN
  have hg : a.tmps[d]? = some (Env.get ρ d) := by
    rw [← he, Array.getD_eq_getD_getElem?]
    simp [hs]
  simp only [yielded, hd, Option.bind_some, hg]
  cases Env.get ρ d <;> rfl

theorem item_parts {ops : Array Oper} {o : Oper} {i : VI} (h : cmpItem P N ops o = some i) :
    cmpOpY P o = some i.op ∧ okDst N o.dst = true ∧ i.dst = o.dst ∧
      ((o.guard = none ∧ i.g = none) ∨ ∃ j want d, o.guard = some (j, want) ∧ (ops[j]?).bind (·.dst) = some d ∧ d < N ∧ i.g = some (d, want)) := by
  unfold cmpItem at h
  split at h
  · rename_i op hop
    split at h
    · rename_i hdst
      split at h
      · rename_i hg; cases h; exact ⟨hop, hdst, rfl, .inl ⟨hg, rfl⟩⟩
      · rename_i j want hg
        split at h
        · rename_i d hd
          split at h
          · rename_i hN; cases h; exact ⟨hop, hdst, rfl, .inr ⟨j, want, d, hg, hd, hN, rfl⟩⟩
          · cases h
        · cases h
    · cases h
  · cases h

theorem wp_of_gen {K : Kont} {Q : Exit → Act → World → Prop} {o : Oper} {ρ : Env} {a : Act} {w : World} {next : Act → World → Prop} (hag : Agree N ρ a) (hd : okDst N o.dst = true)
    (hn : ∀ a w, At N M w0 K a w → next a w) (hg : genUpon P M w0 (kp K ρ o.dst) ((execOp a.eval o).run P w)) : o.wp P a w next Q := by
  unfold Oper.wp
  generalize (execOp a.eval o).run P w = r at *
  cases r with
  | halt x w' => exact hg.elim
  | ok n w' =>
    cases n with
    | value u => obtain ⟨h', H, hk⟩ := hg; exact hn _ _ ⟨_, h', hag.put hd u, H, hk⟩
    | skip => obtain ⟨h', H, hk⟩ := hg; exact hn _ _ ⟨_, h', hag.put hd undef, H, hk⟩
    | enter f args => exact hg.mono fun e w'' ⟨u, h', he, H, hk⟩ => by subst he; exact hn _ _ ⟨_, h', hag.put hd u, H, hk⟩
    | _ => exact hg.elim

theorem vops_sound {ops : Array Oper} {K : Kont} {X : List (Nat × Kont)} : ∀ (l : List Oper) (il : List VI) (ρ : Env) (h : Hp) (a : Act) (w : World), cmpOps P N ops l = some il →
    vops P il K ρ h → Agree N ρ a → Holds M w0 h w → wpList P ops (post N M w0 R K X) l a w
  | [], il, ρ, h, a, w, hc, hv, hag, H => by
    simp only [cmpOps, Option.some.injEq] at hc
    subst hc
    exact ⟨ρ, h, hag, H, hv⟩
  | o :: l, il, ρ, h, a, w, hc, hv, hag, H => by
    simp only [cmpOps] at hc
    split at hc
    case h_2 => cases hc
    rename_i i il' hi hl
    simp only [Option.some.injEq] at hc
    subst hc
    obtain ⟨hop, hdst, hid, hg⟩ := item_parts hi
    have hnext : ∀ a w, At N M w0 (vops P il' K) a w → wpList P ops (post N M w0 R K X) l a w := fun a w ⟨ρ, h, h1, h2, h3⟩ => vops_sound l il' ρ h a w hl h3 h1 h2
    have step : ∀ ρ, Agree N ρ a → stepA P i (vops P il' K) ρ h → o.wp P a w (wpList P ops (post N M w0 R K X) l) (post N M w0 R K X) := fun ρ hag hs =>
      wp_of_gen hag hdst hnext (by rw [← hid]; exact stepV_soundY hop hag hs H)
    have skip : ∀ ρ, Agree N ρ a → skipA i (vops P il' K) ρ h → wpList P ops (post N M w0 R K X) l (a.put o.dst undef) w := fun ρ hag hs =>
      hnext _ _ ⟨_, h, hag.put hdst undef, H, by unfold skipA at hs; rw [hid] at hs; exact hs⟩
    unfold wpList
    unfold vops at hv
    rcases hg with ⟨hg, hig⟩ | ⟨j, want, d, hg, hd, hN, hig⟩
    · rw [hig] at hv
      rw [if_pos (by simp [Region.wanted, hg])]
      exact .inl (step ρ hag hv)
    · rw [hig] at hv
      simp only at hv
      have hy := yielded_of hag (ops := ops) hd hN
      unfold gcond at hv
      split at hv
      · rename_i b hb
        rw [hb] at hy
        by_cases hw : b = want
        · rw [if_pos (by simp [Region.wanted, hg, hy, hw])]
          exact .inl (step _ (hag.over (by rw [hb, hw])) (hv.1 hw))
        · have hw' : b = !want := by cases b <;> cases want <;> simp_all
          rw [if_neg (by simp [Region.wanted, hg, hy, hw])]
          exact skip _ (hag.over (by rw [hb, hw'])) (hv.2 hw')
      · rename_i hb
        have hy' : yielded ops a.tmps j = none := by
          rw [hy]; split
          · rename_i b hb'; exact (hb b hb').elim
          · rfl
        rw [if_neg (by simp [Region.wanted, hg, hy'])]
        exact skip ρ hag hv

theorem vdops_sound {ops : Array Oper} {K : Env → Prop} {Rf : Nat → Array Value → Value → Prop} {h : Hp} : ∀ (l : List Oper) (il : List VI) (ρ : Env) (a : Act), cmpOps P N ops l = some il →
    vdops P Rf h il K ρ → Agree N ρ a → wpRel P ops (Holds M w0 h) Rf (fun a' => ∃ ρ', Agree N ρ' a' ∧ K ρ') l a
  | [], il, ρ, a, hc, hv, hag => by
    simp only [cmpOps, Option.some.injEq] at hc
    subst hc
    exact ⟨ρ, hag, hv⟩
  | o :: l, il, ρ, a, hc, hv, hag => by
    simp only [cmpOps] at hc
    split at hc
    case h_2 => cases hc
    rename_i i il' hi hl
    simp only [Option.some.injEq] at hc
    subst hc
    obtain ⟨hop, hdst, hid, hg⟩ := item_parts hi
    have step : ∀ ρ, Agree N ρ a → stepB P Rf i h (vdops P Rf h il' K) ρ → ∃ S : Value → Prop, relAt P (Holds M w0 h) Rf o a S ∧ ∀ v, S v → wpRel P ops (Holds M w0 h) Rf (fun a' => ∃ ρ', Agree N ρ' a' ∧ K ρ') l (a.put o.dst v) := fun ρ hag hs =>
      ⟨_, stepQ_sound (cmpOp_of_Q hop hs) hag hs, fun v hv => vdops_sound l il' _ _ hl (by unfold kpq at hv; rw [hid] at hv; exact hv) (hag.put hdst v)⟩
    have skip : ∀ ρ, Agree N ρ a → skipB i (vdops P Rf h il' K) ρ → wpRel P ops (Holds M w0 h) Rf (fun a' => ∃ ρ', Agree N ρ' a' ∧ K ρ') l (a.put o.dst undef) := fun ρ hag hs =>
      vdops_sound l il' _ _ hl (by unfold skipB at hs; rw [hid] at hs; exact hs) (hag.put hdst undef)
    unfold wpRel
    unfold vdops at hv
    rcases hg with ⟨hg, hig⟩ | ⟨j, want, d, hg, hd, hN, hig⟩
    · rw [hig] at hv
      rw [if_pos (by simp [Region.wanted, hg])]
      exact step ρ hag hv
    · rw [hig] at hv
      simp only at hv
      have hy := yielded_of hag (ops := ops) hd hN
      unfold gcond at hv
      split at hv
      · rename_i b hb
        rw [hb] at hy
        by_cases hw : b = want
        · rw [if_pos (by simp [Region.wanted, hg, hy, hw])]
          exact step _ (hag.over (by rw [hb, hw])) (hv.1 hw)
        · have hw' : b = !want := by cases b <;> cases want <;> simp_all
          rw [if_neg (by simp [Region.wanted, hg, hy, hw])]
          exact skip _ (hag.over (by rw [hb, hw'])) (hv.2 hw')
      · rename_i hb
        have hy' : yielded ops a.tmps j = none := by
          rw [hy]; split
          · rename_i b hb'; exact (hb b hb').elim
          · rfl
        rw [if_neg (by simp [Region.wanted, hg, hy'])]
        exact skip ρ hag hv

theorem Sub.holds {hc h : Hp} {w : World} (hs : Sub hc h) (hn : (hc.map (·.base)).Nodup) (H : Holds M w0 h w) : Holds M w0 hc w :=
  ⟨H.keep, H.sub, fun x hx => H.at_ x (hs x hx), fun x hx => H.own x (hs x hx), hn⟩

/-- where an environment and known blocks fit a frame and a world, and the blocks that exact operations read lie there still -/
def AtS (N : Nat) (M : Nat → Prop) (w0 : World) (hc : Hp) (K : Kont) (a : Act) (w : World) : Prop := ∃ ρ h, Agree N ρ a ∧ Holds M w0 h w ∧ Sub hc h ∧ K ρ h

theorem actUpon_of_gen {K : Kont} {o : Oper} {ρ : Env} {a : Act} {hc : Hp} (hn : (hc.map (·.base)).Nodup) {Q : Act → World → Prop} (hag : Agree N ρ a) (hd : okDst N o.dst = true)
    (hq : ∀ a w, AtS N M w0 hc K a w → Q a w) {r : Result Next} (hg : genUpon P M w0 (ks hc K ρ o.dst) r) : actUpon P (Holds M w0 hc) (fun v w' => Q (a.put o.dst v) w') r := by
  cases r with
  | halt x w' => exact hg.elim
  | ok n w' =>
    cases n with
    | value u => obtain ⟨h', H, hs, hk⟩ := hg; exact ⟨hs.holds hn H, hq _ _ ⟨_, h', hag.put hd u, H, hs, hk⟩⟩
    | skip => obtain ⟨h', H, hs, hk⟩ := hg; exact ⟨hs.holds hn H, hq _ _ ⟨_, h', hag.put hd undef, H, hs, hk⟩⟩
    | enter f args => exact hg.mono fun e w'' ⟨u, h', he, H, hs, hk⟩ => ⟨u, he, hs.holds hn H, hq _ _ ⟨_, h', hag.put hd u, H, hs, hk⟩⟩
    | _ => exact hg.elim

theorem vbops_sound {ops : Array Oper} {K : Kont} {hc : Hp} (hn : (hc.map (·.base)).Nodup) : ∀ (l : List Oper) (il : List VI) (ρ : Env) (h : Hp) (a : Act) (w : World), cmpOps P N ops l = some il →
    vbops P hc il K ρ h → Agree N ρ a → Holds M w0 h w → Sub hc h → wpMix P ops (Holds M w0 hc) (exO P) (AtS N M w0 hc K) l a w
  | [], il, ρ, h, a, w, hcp, hv, hag, H, hsub => by
    simp only [cmpOps, Option.some.injEq] at hcp
    subst hcp
    exact ⟨ρ, h, hag, H, hsub, hv⟩
  | o :: l, il, ρ, h, a, w, hcp, hv, hag, H, hsub => by
    simp only [cmpOps] at hcp
    split at hcp
    case h_2 => cases hcp
    rename_i i il' hi hl
    simp only [Option.some.injEq] at hcp
    subst hcp
    obtain ⟨hop, hdst, hid, hg⟩ := item_parts hi
    have hnext : ∀ a w, AtS N M w0 hc (vbops P hc il' K) a w → wpMix P ops (Holds M w0 hc) (exO P) (AtS N M w0 hc K) l a w := fun a w ⟨ρ, h, h1, h2, h3, h4⟩ => vbops_sound hn l il' ρ h a w hl h4 h1 h2 h3
    have hexo : exO P o = i.op.exact := exO_eq hop
    have step : ∀ ρ, Agree N ρ a → Region.wanted o (yielded ops a.tmps) = true → stepX P hc i (vbops P hc il' K) ρ h → mOp P ops (Holds M w0 hc) (exO P) o (wpMix P ops (Holds M w0 hc) (exO P) (AtS N M w0 hc K) l) a w := by
      intro ρ hag hw hs
      unfold stepX at hs
      by_cases hx : i.op.exact = true
      · rw [hx, cond_true] at hs
        rw [mOp_ex hw (by rw [hexo]; exact hx)]
        obtain ⟨v, hp, hk⟩ := pure_of_exact (N := N) (M := M) (w0 := w0) (cmpOp_of_Q hop hs) hx hag hs
        exact ⟨v, hp, hnext _ _ ⟨_, h, hag.put hdst v, H, hsub, by unfold kx at hk; rw [hid] at hk; exact hk⟩⟩
      · rw [mOp_non hw (by rw [hexo]; exact hx)]
        rw [Bool.not_eq_true] at hx
        rw [hx, cond_false, hid] at hs
        exact actUpon_of_gen hn hag hdst hnext (stepV_soundY hop hag hs H)
    have skip : ∀ ρ, Agree N ρ a → skipA i (vbops P hc il' K) ρ h → wpMix P ops (Holds M w0 hc) (exO P) (AtS N M w0 hc K) l (a.put o.dst undef) w := fun ρ hag hs =>
      hnext _ _ ⟨_, h, hag.put hdst undef, H, hsub, by unfold skipA at hs; rw [hid] at hs; exact hs⟩
    unfold wpMix
    unfold vbops at hv
    rcases hg with ⟨hg, hig⟩ | ⟨j, want, d, hg, hd, hN, hig⟩
    · rw [hig] at hv
      exact step ρ hag (by simp [Region.wanted, hg]) hv
    · rw [hig] at hv
      simp only at hv
      have hy := yielded_of hag (ops := ops) hd hN
      unfold gcond at hv
      split at hv
      · rename_i b hb
        rw [hb] at hy
        by_cases hw : b = want
        · exact step _ (hag.over (by rw [hb, hw])) (by simp [Region.wanted, hg, hy, hw]) (hv.1 hw)
        · have hw' : b = !want := by cases b <;> cases want <;> simp_all
          rw [mOp_skip (by simp [Region.wanted, hg, hy, hw])]
          exact skip _ (hag.over (by rw [hb, hw'])) (hv.2 hw')
      · rename_i hb
        have hy' : yielded ops a.tmps j = none := by
          rw [hy]; split
          · rename_i b hb'; exact (hb b hb').elim
          · rfl
        rw [mOp_skip (by simp [Region.wanted, hg, hy'])]
        exact skip ρ hag hv

theorem act_of_gen {K : Kont} {o : Oper} {ρ : Env} {a : Act} {Q : Act → World → Prop} (hag : Agree N ρ a) (hd : okDst N o.dst = true)
    (hq : ∀ a w, At N M w0 K a w → Q a w) {r : Result Next} (hg : genUpon P M w0 (kp K ρ o.dst) r) : actUpon P (Holds M w0 []) (fun v w' => Q (a.put o.dst v) w') r := by
  cases r with
  | halt x w' => exact hg.elim
  | ok n w' =>
    cases n with
    | value u => obtain ⟨h', H, hk⟩ := hg; exact ⟨H.sublist (List.nil_sublist _), hq _ _ ⟨_, h', hag.put hd u, H, hk⟩⟩
    | skip => obtain ⟨h', H, hk⟩ := hg; exact ⟨H.sublist (List.nil_sublist _), hq _ _ ⟨_, h', hag.put hd undef, H, hk⟩⟩
    | enter f args => exact hg.mono fun e w'' ⟨u, h', he, H, hk⟩ => ⟨u, he, H.sublist (List.nil_sublist _), hq _ _ ⟨_, h', hag.put hd u, H, hk⟩⟩
    | _ => exact hg.elim

theorem vseq_sound {ops : Array Oper} {K : Kont} : ∀ (l : List Oper) (il : List VI) (ρ : Env) (h : Hp) (a : Act) (w : World), cmpOps P N ops l = some il →
    vops P il K ρ h → Agree N ρ a → Holds M w0 h w → wpMix3 P ops (Holds M w0 []) (plO P) (rdO P) (At N M w0 K) l a w
  | [], il, ρ, h, a, w, hcp, hv, hag, H => by
    simp only [cmpOps, Option.some.injEq] at hcp
    subst hcp
    exact ⟨ρ, h, hag, H, hv⟩
  | o :: l, il, ρ, h, a, w, hcp, hv, hag, H => by
    simp only [cmpOps] at hcp
    split at hcp
    case h_2 => cases hcp
    rename_i i il' hi hl
    simp only [Option.some.injEq] at hcp
    subst hcp
    obtain ⟨hop, hdst, hid, hg⟩ := item_parts hi
    have hnext : ∀ a w, At N M w0 (vops P il' K) a w → wpMix3 P ops (Holds M w0 []) (plO P) (rdO P) (At N M w0 K) l a w := fun a w ⟨ρ, h, h1, h2, h3⟩ => vseq_sound l il' ρ h a w hl h3 h1 h2
    have hpl : plO P o = i.op.plain := plO_eq hop
    have hrd : rdO P o = i.op.reads := rdO_eq hop
    have step : ∀ ρ, Agree N ρ a → Region.wanted o (yielded ops a.tmps) = true → stepA P i (vops P il' K) ρ h → mOp3 P ops (Holds M w0 []) (plO P) (rdO P) o (wpMix3 P ops (Holds M w0 []) (plO P) (rdO P) (At N M w0 K) l) a w := by
      intro ρ hag hw hs
      unfold stepA at hs
      by_cases hx : i.op.plain = true
      · rw [mOp3_ex hw (by rw [hpl]; exact hx)]
        have hex : i.op.exact = true := by simp only [VO.plain, Bool.and_eq_true] at hx; exact hx.1
        obtain ⟨v, hp, hk⟩ := pure_of_exact (N := N) (M := M) (w0 := w0) (h := []) (cmpOp_of_Q hop (stepV_exact hex hs)) hex hag (plain_any hx (stepV_exact hex hs))
        exact ⟨v, hp, hnext _ _ ⟨_, h, hag.put hdst v, H, by unfold kh kp at hk; rw [hid] at hk; exact hk⟩⟩
      · by_cases hr : i.op.reads = true
        · rw [mOp3_rd hw (by rw [hpl]; exact hx) (by rw [hrd]; exact hr)]
          have hex : i.op.exact = true := by cases hi : i.op <;> simp_all [VO.reads, VO.exact]
          obtain ⟨v, hp, hk⟩ := pure_of_exact (N := N) (M := M) (w0 := w0) (cmpOp_of_Q hop (stepV_exact hex hs)) hex hag (stepV_exact hex hs)
          exact ⟨v, hp w H, hnext _ _ ⟨_, h, hag.put hdst v, H, by unfold kh kp at hk; rw [hid] at hk; exact hk⟩⟩
        · rw [mOp3_non hw (by rw [hpl]; exact hx) (by rw [hrd]; exact hr)]
          exact act_of_gen hag hdst hnext (by rw [← hid]; exact stepV_soundY hop hag hs H)
    have skip : ∀ ρ, Agree N ρ a → skipA i (vops P il' K) ρ h → wpMix3 P ops (Holds M w0 []) (plO P) (rdO P) (At N M w0 K) l (a.put o.dst undef) w := fun ρ hag hs =>
      hnext _ _ ⟨_, h, hag.put hdst undef, H, by unfold skipA at hs; rw [hid] at hs; exact hs⟩
    unfold wpMix3
    unfold vops at hv
    rcases hg with ⟨hg, hig⟩ | ⟨j, want, d, hg, hd, hN, hig⟩
    · rw [hig] at hv
      exact step ρ hag (by simp [Region.wanted, hg]) hv
    · rw [hig] at hv
      simp only at hv
      have hy := yielded_of hag (ops := ops) hd hN
      unfold gcond at hv
      split at hv
      · rename_i b hb
        rw [hb] at hy
        by_cases hw : b = want
        · exact step _ (hag.over (by rw [hb, hw])) (by simp [Region.wanted, hg, hy, hw]) (hv.1 hw)
        · have hw' : b = !want := by cases b <;> cases want <;> simp_all
          rw [mOp3_skip (by simp [Region.wanted, hg, hy, hw])]
          exact skip _ (hag.over (by rw [hb, hw'])) (hv.2 hw')
      · rename_i hb
        have hy' : yielded ops a.tmps j = none := by
          rw [hy]; split
          · rename_i b hb'; exact (hb b hb').elim
          · rfl
        rw [mOp3_skip (by simp [Region.wanted, hg, hy'])]
        exact skip ρ hag hv

theorem wpMix_mono {ops : Array Oper} {C : World → Prop} {ex : Oper → Bool} {Q Q' : Act → World → Prop} (hq : ∀ a w, Q a w → Q' a w) : ∀ (l : List Oper) (a : Act) (w : World), C w → wpMix P ops C ex Q l a w → wpMix P ops C ex Q' l a w
  | [], _, _, _, h => hq _ _ h
  | _ :: l, _, _, hC, h => mOp_mono hC (fun _ _ hC' hk => wpMix_mono hq l _ _ hC' hk) h

theorem post_mono {K K' : Kont} {X : List (Nat × Kont)} (hk : ∀ ρ h, K ρ h → K' ρ h) {e : Exit} {a : Act} {w : World} (hp : post N M w0 R K X e a w) : post N M w0 R K' X e a w := by
  cases e <;> try exact hp
  obtain ⟨ρ, h, h1, h2, h3⟩ := hp
  exact ⟨ρ, h, h1, h2, hk ρ h h3⟩

theorem vc_sound : ∀ (c : Code) (v : V) (K : Kont) (X : List (Nat × Kont)) (ρ : Env) (h : Hp) (a : Act) (w : World), cmp P N c = some v → vc P R v K X ρ h → Agree N ρ a → Holds M w0 h w →
    c.wp P (post N M w0 R K X) a w := by
  intro c
  induction c with
  | skip =>
    intro v K X ρ h a w hc hv hag H
    simp only [cmp, Option.some.injEq] at hc; subst hc
    exact wp_skip ⟨ρ, h, hag, H, hv⟩
  | region id ops draw =>
    intro v K X ρ h a w hc hv hag H
    simp only [cmp] at hc
    split at hc
    case h_2 => cases hc
    rename_i il hl
    cases draw with
    | false =>
      simp only [Bool.false_eq_true, if_false, Option.some.injEq] at hc
      subst hc
      exact wp_region_list (vops_sound ops.toList il ρ h a w hl hv hag H)
    | true =>
      simp only [if_true] at hc
      split at hc
      case isFalse => cases hc
      rename_i hcond
      simp only [Bool.and_eq_true] at hcond
      split at hc
      case isTrue hmix3 =>
        simp only [Option.some.injEq] at hc
        subst hc
        have hC := (H.sublist (List.nil_sublist h)).drewN 1
        refine wp_region_mix3 (C := Holds M w0 []) (ex := plO P) (rd := rdO P) hcond.1 hcond.2 hmix3 hC ?_
        exact wpMix3_mono (fun a' w' ⟨ρ', h', h1, h2, h3⟩ => ⟨ρ', h', h1, h2, h3⟩) _ _ _ hC (vseq_sound (M := M) (w0 := w0) ops.toList il ρ h a _ hl hv hag (H.drewN 1))
      split at hc
      case isTrue hmix =>
        simp only [Option.some.injEq] at hc
        subst hc
        obtain ⟨hb, hsub, hv⟩ := hv
        have hn := (hsub.map (·.base)).nodup H.nodup
        refine wp_region_mix3 (C := Holds M w0 hb) (ex := exO P) (rd := fun _ => false) hcond.1 hcond.2 hmix (H.sublist hsub |>.drewN 1) ?_
        have := vbops_sound (M := M) (w0 := w0) hn ops.toList il ρ h a _ hl hv hag (H.drewN 1) hsub.subset
        exact wpMix3_of_mix _ _ _ (H.sublist hsub |>.drewN 1) (wpMix_mono (fun a' w' ⟨ρ', h', h1, h2, _, h4⟩ => ⟨ρ', h', h1, h2, h4⟩) _ _ _ (H.sublist hsub |>.drewN 1) this)
      split at hc
      case isFalse => cases hc
      simp only [Option.some.injEq] at hc
      subst hc
      obtain ⟨Rf, hv⟩ := hv
      refine wp_region_rel (C := Holds M w0 h) (Rf := Rf) hcond.1 hcond.2 (H.drewN 1) ?_
      have := vdops_sound (M := M) (w0 := w0) ops.toList il ρ a hl hv hag
      have mono : ∀ (l : List Oper) (a : Act) (Q Q' : Act → Prop), (∀ a, Q a → Q' a) → wpRel P ops (Holds M w0 h) Rf Q l a → wpRel P ops (Holds M w0 h) Rf Q' l a := by
        intro l
        induction l with
        | nil => intro a Q Q' hq hh; exact hq a hh
        | cons o l ih =>
          intro a Q Q' hq hh
          unfold wpRel at hh ⊢
          split
          · rename_i hw
            rw [if_pos hw] at hh
            obtain ⟨S, h1, h2⟩ := hh
            exact ⟨S, h1, fun v hv => ih _ Q Q' hq (h2 v hv)⟩
          · rename_i hw
            rw [if_neg hw] at hh
            exact ih _ Q Q' hq hh
      exact mono _ _ _ _ (fun a' ⟨ρ', h1, h2⟩ w' hw' => ⟨ρ', h, h1, hw', h2⟩) this
  | seq x y ihx ihy =>
    intro v K X ρ h a w hc hv hag H
    simp only [cmp] at hc
    split at hc
    case h_2 => cases hc
    rename_i vx vy hx hy
    simp only [Option.some.injEq] at hc; subst hc
    refine wp_seq (wp_mono (ihx vx _ X ρ h a w hx hv hag H) ?_)
    intro e a' w' hp
    cases e with
    | normal => obtain ⟨ρ', h', h1, h2, h3⟩ := hp; exact ihy vy K X ρ' h' a' w' hy h3 h1 h2
    | exit id => exact hp
    | ret => exact hp
    | goto l => exact hp
    | panic ch => exact hp
    | outgrown => exact hp
  | cond c x y ihx ihy =>
    intro v K X ρ h a w hc hv hag H
    simp only [cmp] at hc
    split at hc
    case h_2 => cases hc
    rename_i vx vy hx hy
    simp only [Option.some.injEq] at hc; subst hc
    simp only [vc] at hv
    unfold vcond at hv
    split at hv
    · rename_i b hb
      refine wp_cond_split (t := b) (by rw [hag.eval, hb]) (fun ht => ihx vx K X ρ h a w hx (hv.1 ht) hag H) (fun hf => ihy vy K X ρ h a w hy (hv.2 hf) hag H)
    · exact hv.elim
  | block id x ih =>
    intro v K X ρ h a w hc hv hag H
    simp only [cmp] at hc
    split at hc
    case h_2 => cases hc
    rename_i vx hx
    simp only [Option.some.injEq] at hc; subst hc
    refine wp_block (wp_mono (ih vx K ((id, K) :: X) ρ h a w hx hv hag H) ?_)
    intro e a' w' hp
    cases e with
    | normal => exact hp
    | exit id' =>
      obtain ⟨ρ', h', h1, h2, h3⟩ := hp
      simp only [xget] at h3
      simp only [Exit.inBlock]
      split at h3
      · rename_i e; rw [if_pos e]; exact ⟨ρ', h', h1, h2, h3⟩
      · rename_i e; rw [if_neg e]; exact ⟨ρ', h', h1, h2, h3⟩
    | ret => exact hp
    | goto l => exact hp
    | panic ch => exact hp
    | outgrown => exact hp
  | loop x ih =>
    intro v K X ρ h a w hc hv hag H
    simp only [cmp] at hc
    split at hc
    case h_2 => cases hc
    rename_i vx hx
    simp only [Option.some.injEq] at hc; subst hc
    obtain ⟨I, ⟨n0, h0, hs0, hI0⟩, hround⟩ := hv
    refine wp_loop_ghost (fun n a w => At N M w0 (I n) a w) n0 ⟨ρ, h0, hag, H.sublist hs0, hI0⟩ ?_
    intro n a' w' ⟨ρ', h', h1, h2, h3⟩
    refine wp_mono (ih vx (again I n) X ρ' h' a' w' hx (hround n ρ' h' h3) h1 h2) ?_
    intro e a2 w2 hp
    cases e with
    | normal =>
      obtain ⟨ρ2, h2, k1, k2, m, h3, hm, hsub, hI⟩ := hp
      exact ⟨m, hm, ρ2, h3, k1, k2.sublist hsub, hI⟩
    | exit id' => exact hp
    | ret => exact hp
    | goto l => exact hp
    | panic ch => exact hp
    | outgrown => exact hp
  | exit id =>
    intro v K X ρ h a w hc hv hag H
    simp only [cmp, Option.some.injEq] at hc; subst hc
    exact wp_exit ⟨ρ, h, hag, H, hv⟩
  | ret =>
    intro v K X ρ h a w hc hv hag H
    simp only [cmp, Option.some.injEq] at hc; subst hc
    exact wp_ret ⟨ρ, h, hag, H, hv⟩
  | _ =>
    intro v K X ρ h a w hc
    simp only [cmp] at hc
    cases hc

end
end Go.Vc
