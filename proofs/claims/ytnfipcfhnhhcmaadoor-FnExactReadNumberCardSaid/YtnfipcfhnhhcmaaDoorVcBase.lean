/- The verification-condition generator, its base: environments, known blocks, frames. -/
import Derived.Test.YtnfipcfhnhhcmaaDoorFl
import Derived.Deep.LoopGhost
import Derived.Deep.MidRow
import Derived.Deep.Quiet
import Derived.Below
set_option linter.all false
namespace Go.Vc
open Go Go.Fl

/-- what the temporaries hold, the newest first -/
abbrev Env := List (Nat × Value)

def Env.get : Env → Nat → Value
  | [], _ => undef
  | p :: ρ, t => if t = p.1 then p.2 else Env.get ρ t

def Env.put (ρ : Env) (d : Option Nat) (v : Value) : Env :=
  match d with
  | some d => (d, v) :: ρ
  | none => ρ

def Env.ev (ρ : Env) : Operand → Value
  | .tmp t => Env.get ρ t
  | .const v => v
  | .global g => .pointer (some ⟨g, 0, none⟩)
  | .func f => .func (.func f) #[] #[]

structure Agree (N : Nat) (ρ : Env) (a : Act) : Prop where
  size : a.tmps.size = N
  defers : a.defers = []
  eq : ∀ t, a.tmps.getD t undef = Env.get ρ t

theorem Agree.eval {N : Nat} {ρ : Env} {a : Act} (h : Agree N ρ a) (x : Operand) : a.eval x = Env.ev ρ x := by
  cases x <;> first | exact h.eq _ | rfl

def okDst (N : Nat) : Option Nat → Bool
  | some d => decide (d < N)
  | none => true

theorem Agree.put {N : Nat} {ρ : Env} {a : Act} (h : Agree N ρ a) {d : Option Nat} (hd : okDst N d = true) (v : Value) : Agree N (Env.put ρ d v) (a.put d v) := by
  cases d with
  | none => exact h
  | some d =>
    have hd' : d < N := by simpa [okDst] using hd
    refine ⟨by simp [Act.put, h.size], h.defers, fun t => ?_⟩
    have hs := h.size
    have he := h.eq t
    simp only [Act.put, Env.put, Env.get]
    by_cases ht : t = d
    · subst ht
      simp [Array.getD_eq_getD_getElem?, hs, hd']
    · rw [if_neg ht, ← he]
      simp [Array.getD_eq_getD_getElem?, Ne.symm ht]

/-- overriding a slot by the value that it holds -/
theorem Agree.over {N : Nat} {ρ : Env} {a : Act} (h : Agree N ρ a) {t : Nat} {v : Value} (hv : Env.get ρ t = v) : Agree N ((t, v) :: ρ) a := by
  refine ⟨h.size, h.defers, fun s => ?_⟩
  simp only [Env.get]
  split
  · rename_i e; subst e; rw [← hv]; exact h.eq _
  · exact h.eq _

/-- the protected blocks are as they were -/
structure Keep (M : Nat → Prop) (w w' : World) : Prop where
  os : w'.os = w.os
  tape : w'.tape = w.tape
  output : w'.output = w.output
  size : w.heap.size ≤ w'.heap.size
  block : ∀ k, M k → w'.heap[k]? = w.heap[k]?

theorem Keep.refl (M : Nat → Prop) (w : World) : Keep M w w := ⟨rfl, rfl, rfl, Nat.le_refl _, fun _ _ => rfl⟩
theorem Keep.trans {M : Nat → Prop} {a b c : World} (h : Keep M a b) (k : Keep M b c) : Keep M a c :=
  ⟨k.os.trans h.os, k.tape.trans h.tape, k.output.trans h.output, Nat.le_trans h.size k.size, fun i hi => (k.block i hi).trans (h.block i hi)⟩
theorem Keep.mono {M M' : Nat → Prop} {a b : World} (h : Keep M a b) (hm : ∀ k, M' k → M k) : Keep M' a b :=
  ⟨h.os, h.tape, h.output, h.size, fun k hk => h.block k (hm k hk)⟩
theorem Keep.below {w w' : World} (h : Keep (· < w.heap.size) w w') : RowKit.Below w.heap.size w w' := ⟨h.os, h.tape, h.output, h.size, h.block⟩
theorem Keep.of_below {w w' : World} (h : RowKit.Below w.heap.size w w') : Keep (· < w.heap.size) w w' := ⟨h.os, h.tape, h.output, h.size, h.block⟩
theorem Keep.drewN {M : Nat → Prop} {w : World} (n : Nat) : Keep M w (w.drewN n) := ⟨rfl, rfl, rfl, Nat.le_refl _, fun _ _ => rfl⟩

/-- a block whose cells are known -/
structure Blk where
  base : Nat
  cells : Array Value
  elem : Nat
  own : Bool

abbrev Hp := List Blk

/-- a mark in place of a type: of a block of which no more is known than its cells (it may be frozen elsewhere) -/
def anyT : Nat := 1000000007

/-- a known block lies in a world -/
def Lay (w : World) (x : Blk) : Prop := ∃ T fz, w.heap[x.base]? = some (.cells x.cells T fz) ∧ (x.own = true ∨ x.elem ≠ anyT → T = x.elem ∧ fz = (0, 0))

theorem Lay.mk {w : World} {x : Blk} (h : w.heap[x.base]? = some (.cells x.cells x.elem (0, 0))) : Lay w x := ⟨_, _, h, fun _ => ⟨rfl, rfl⟩⟩
theorem Lay.any {w : World} {x : Blk} {T : Nat} {fz : Nat × Nat} (h : w.heap[x.base]? = some (.cells x.cells T fz)) (ho : x.own = false) (he : x.elem = anyT) : Lay w x :=
  ⟨_, _, h, fun hh => by rcases hh with hh | hh; · rw [ho] at hh; cases hh
                         · exact absurd he hh⟩
theorem Lay.exact {w : World} {x : Blk} (h : Lay w x) (ho : x.own = true ∨ x.elem ≠ anyT) : w.heap[x.base]? = some (.cells x.cells x.elem (0, 0)) := by
  obtain ⟨T, fz, h1, h2⟩ := h
  obtain ⟨rfl, rfl⟩ := h2 ho
  exact h1
theorem Lay.same {w w' : World} {x : Blk} (h : Lay w x) (e : w'.heap[x.base]? = w.heap[x.base]?) : Lay w' x := by
  obtain ⟨T, fz, h1, h2⟩ := h
  exact ⟨T, fz, e.trans h1, h2⟩
theorem Lay.lt {w : World} {x : Blk} (h : Lay w x) : x.base < w.heap.size := by
  obtain ⟨T, fz, h1, _⟩ := h
  exact (Array.getElem?_eq_some_iff.1 h1).1

structure Holds (M : Nat → Prop) (w0 : World) (h : Hp) (w : World) : Prop where
  keep : Keep M w0 w
  sub : ∀ k, M k → k < w0.heap.size
  at_ : ∀ x ∈ h, Lay w x
  own : ∀ x ∈ h, x.own = true → ¬ M x.base
  nodup : (h.map (·.base)).Nodup

theorem Holds.lt {M : Nat → Prop} {w0 w : World} {h : Hp} (H : Holds M w0 h w) {x : Blk} (hx : x ∈ h) : x.base < w.heap.size := by
  exact (H.at_ x hx).lt

/-- a step that keeps every block that was there -/
theorem Holds.step {M : Nat → Prop} {w0 w w' : World} {h : Hp} (H : Holds M w0 h w) (hk : Keep (· < w.heap.size) w w') : Holds M w0 h w' :=
  ⟨H.keep.trans (hk.mono fun k hm => Nat.lt_of_lt_of_le (H.sub k hm) H.keep.size), H.sub, fun x hx => (H.at_ x hx).same (hk.block _ (H.lt hx)), H.own, H.nodup⟩

theorem Holds.drewN {M : Nat → Prop} {w0 w : World} {h : Hp} (H : Holds M w0 h w) (n : Nat) : Holds M w0 h (w.drewN n) := H.step (Keep.drewN n)

def Fresh (b : Nat) (h : Hp) : Prop := ∀ x ∈ h, b ≠ x.base

theorem Holds.alloc {M : Nat → Prop} {w0 w : World} {h : Hp} (H : Holds M w0 h w) (cs : Array Value) (T : Nat) :
    Holds M w0 (⟨w.heap.size, cs, T, true⟩ :: h) (w.alloc (.cells cs T)) ∧ Fresh w.heap.size h := by
  have hf : Fresh w.heap.size h := fun x hx e => by have := H.lt hx; omega
  refine ⟨⟨?_, H.sub, ?_, ?_, ?_⟩, hf⟩
  · refine H.keep.trans ⟨rfl, rfl, rfl, ?_, fun k hk => ?_⟩
    · show w.heap.size ≤ (w.heap.push _).size; simp
    · exact heap_alloc_old w _ (Nat.lt_of_lt_of_le (H.sub k hk) H.keep.size)
  · intro x hx
    cases hx with
    | head => exact .mk (heap_alloc_new w _)
    | tail _ hx => exact (H.at_ x hx).same (heap_alloc_old w _ (H.lt hx))
  · intro x hx ho
    cases hx with
    | head => exact fun hm => by have := H.sub _ hm; have := H.keep.size; simp at *; omega
    | tail _ hx => exact H.own x hx ho
  · simp only [List.map_cons, List.nodup_cons]
    refine ⟨fun hm => ?_, H.nodup⟩
    obtain ⟨x, hx, he⟩ := List.mem_map.1 hm
    exact hf x hx he.symm

def look : Hp → Nat → Option Blk
  | [], _ => none
  | x :: h, b => if b = x.base then some x else look h b

theorem look_mem {h : Hp} {b : Nat} {x : Blk} (e : look h b = some x) : x ∈ h ∧ x.base = b := by
  induction h with
  | nil => cases e
  | cons y h ih =>
    simp only [look] at e
    split at e
    · rename_i hb; cases e; exact ⟨List.mem_cons_self, hb.symm⟩
    · exact ⟨List.mem_cons_of_mem _ (ih e).1, (ih e).2⟩

/-- the block 'b' gets other cells -/
def upd : Hp → Nat → Array Value → Hp
  | [], _, _ => []
  | x :: h, b, cs => if b = x.base then { x with cells := cs } :: h else x :: upd h b cs

theorem upd_base (h : Hp) (b : Nat) (cs : Array Value) : (upd h b cs).map (·.base) = h.map (·.base) := by
  induction h with
  | nil => rfl
  | cons y h ih => simp only [upd]; split <;> simp [ih]

theorem upd_mem {h : Hp} {b : Nat} {cs : Array Value} (hn : (h.map (·.base)).Nodup) {x : Blk} (hx : x ∈ upd h b cs) :
    (x ∈ h ∧ x.base ≠ b) ∨ (∃ y ∈ h, y.base = b ∧ x = { y with cells := cs }) := by
  induction h with
  | nil => cases hx
  | cons y h ih =>
    simp only [List.map_cons, List.nodup_cons] at hn
    simp only [upd] at hx
    split at hx
    · rename_i hb
      cases hx with
      | head => exact .inr ⟨y, List.mem_cons_self, hb.symm, rfl⟩
      | tail _ hx => exact .inl ⟨List.mem_cons_of_mem _ hx, fun e => hn.1 (hb ▸ e ▸ List.mem_map.2 ⟨x, hx, rfl⟩)⟩
    · rename_i hb
      cases hx with
      | head => exact .inl ⟨List.mem_cons_self, fun e => hb e.symm⟩
      | tail _ hx =>
        rcases ih hn.2 hx with ⟨h1, h2⟩ | ⟨z, h1, h2⟩
        · exact .inl ⟨List.mem_cons_of_mem _ h1, h2⟩
        · exact .inr ⟨z, List.mem_cons_of_mem _ h1, h2⟩

/-- the world with other cells in block b -/
theorem Holds.upd {M : Nat → Prop} {w0 w : World} {h : Hp} (H : Holds M w0 h w) {b : Nat} {x : Blk} (hl : look h b = some x) (ho : x.own = true) {cs : Array Value} {w' : World}
    (hk : Keep (· ≠ b) w w') (hw : w'.heap[b]? = some (.cells cs x.elem (0, 0))) : Holds M w0 (Vc.upd h b cs) w' := by
  obtain ⟨hm, hb⟩ := look_mem hl
  have hnm : ¬ M b := hb ▸ H.own x hm ho
  refine ⟨H.keep.trans (hk.mono fun k hMk e => hnm (e ▸ hMk)), H.sub, ?_, ?_, ?_⟩
  · intro y hy
    rcases upd_mem H.nodup hy with ⟨h1, h2⟩ | ⟨z, h1, h2, rfl⟩
    · exact (H.at_ y h1).same (hk.block _ h2)
    · have hz : z = x := by
        have hnd := H.nodup
        -- both stand in h with one base
        have : ∀ (l : Hp), (l.map (·.base)).Nodup → ∀ p ∈ l, ∀ q ∈ l, p.base = q.base → p = q := by
          intro l
          induction l with
          | nil => intro _ p hp; cases hp
          | cons a l ih =>
            intro hn p hp q hq e
            simp only [List.map_cons, List.nodup_cons] at hn
            cases hp with
            | head => cases hq with
              | head => rfl
              | tail _ hq => exact absurd (List.mem_map.2 ⟨q, hq, e.symm⟩) hn.1
            | tail _ hp => cases hq with
              | head => exact absurd (List.mem_map.2 ⟨p, hp, e⟩) hn.1
              | tail _ hq => exact ih hn.2 p hp q hq e
        exact this h hnd z h1 x hm (h2.trans hb.symm)
      subst hz
      refine .mk ?_
      show w'.heap[z.base]? = _
      rw [h2]; exact hw
  · intro y hy hyo
    rcases upd_mem H.nodup hy with ⟨h1, h2⟩ | ⟨z, h1, h2, rfl⟩
    · exact H.own y h1 hyo
    · show ¬ M z.base
      rw [h2]; exact hnm
  · rw [upd_base]; exact H.nodup

end Go.Vc
