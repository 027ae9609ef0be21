/- Regions that draw their order: what one operation may do, and the walk in the order of the text. -/
import Derived.Test.YtnfipcfhnhhcmaaDoorVcBase
set_option linter.all false
namespace Go.Vc
open Go

section
variable {P : Program} {ops : Array Oper} {md : Region.Mode} {C : World → Prop} {ex : Oper → Bool}

/-- an exact operation's value -/
def pureAt (P : Program) (C : World → Prop) (o : Oper) (a : Act) (v : Value) : Prop := ∀ w, C w → (execOp a.eval o).run P w = .ok (.value v) w

/-- any other operation -/
def actUpon (P : Program) (C : World → Prop) (k : Value → World → Prop) : Result Next → Prop
  | .ok (.value u) w' => C w' ∧ k u w'
  | .ok .skip w' => C w' ∧ k undef w'
  | .ok (.enter f args) w' => Calls P f args w' (fun e w'' => ∃ u, e = .returned u ∧ C w'' ∧ k u w'')
  | _ => False

theorem actUpon_mono {k k' : Value → World → Prop} (h : ∀ v w, C w → k v w → k' v w) {r : Result Next} (hr : actUpon P C k r) : actUpon P C k' r := by
  cases r with
  | halt x w => exact hr
  | ok n w =>
    cases n <;> first
      | exact hr
      | exact ⟨hr.1, h _ _ hr.1 hr.2⟩
      | exact Calls.mono hr fun e w ⟨u, h1, h2, h3⟩ => ⟨u, h1, h2, h _ _ h2 h3⟩

theorem actUpon_some {k : Value → World → Prop} {r : Result Next} (hr : actUpon P C k r) : ∃ v w, C w ∧ k v w := by
  cases r with
  | halt x w => exact hr.elim
  | ok n w =>
    cases n with
    | value u => exact ⟨_, _, hr⟩
    | skip => exact ⟨_, _, hr⟩
    | enter f args => obtain ⟨e, w2, fr, ⟨u, he, hc, hu⟩, _⟩ := hr []; exact ⟨u, w2, hc, hu⟩
    | _ => exact hr.elim

def mOp (P : Program) (ops : Array Oper) (C : World → Prop) (ex : Oper → Bool) (o : Oper) (K : Act → World → Prop) (a : Act) (w : World) : Prop :=
  if Region.wanted o (yielded ops a.tmps) then
    if ex o then ∃ v, pureAt P C o a v ∧ K (a.put o.dst v) w
    else actUpon P C (fun v w' => K (a.put o.dst v) w') ((execOp a.eval o).run P w)
  else K (a.put o.dst undef) w

/-- the lexical walk -/
def wpMix (P : Program) (ops : Array Oper) (C : World → Prop) (ex : Oper → Bool) (Q : Act → World → Prop) : List Oper → Act → World → Prop
  | [], a, w => Q a w
  | o :: rest, a, w => mOp P ops C ex o (wpMix P ops C ex Q rest) a w

theorem mOp_mono {o : Oper} {a : Act} {w : World} {K K' : Act → World → Prop} (hC : C w) (h : ∀ v w, C w → K (a.put o.dst v) w → K' (a.put o.dst v) w) (hh : mOp P ops C ex o K a w) : mOp P ops C ex o K' a w := by
  unfold mOp at *
  split
  · rename_i hw
    rw [if_pos hw] at hh
    split
    · rename_i he
      rw [if_pos he] at hh
      obtain ⟨v, h1, h2⟩ := hh
      exact ⟨v, h1, h v w hC h2⟩
    · rename_i he
      rw [if_neg he] at hh
      exact actUpon_mono (fun v w' hc hk => h v w' hc hk) hh
  · rename_i hw
    rw [if_neg hw] at hh
    exact h _ w hC hh

theorem mOp_skip {o : Oper} {K : Act → World → Prop} {a : Act} {w : World} (hw : ¬ Region.wanted o (yielded ops a.tmps) = true) : mOp P ops C ex o K a w = K (a.put o.dst undef) w := by
  unfold mOp; rw [if_neg hw]
theorem mOp_ex {o : Oper} {K : Act → World → Prop} {a : Act} {w : World} (hw : Region.wanted o (yielded ops a.tmps) = true) (he : ex o = true) : mOp P ops C ex o K a w = ∃ v, pureAt P C o a v ∧ K (a.put o.dst v) w := by
  unfold mOp; rw [if_pos hw, if_pos he]
theorem mOp_non {o : Oper} {K : Act → World → Prop} {a : Act} {w : World} (hw : Region.wanted o (yielded ops a.tmps) = true) (he : ¬ ex o = true) : mOp P ops C ex o K a w = actUpon P C (fun v w' => K (a.put o.dst v) w') ((execOp a.eval o).run P w) := by
  unfold mOp; rw [if_pos hw, if_neg he]

end
end Go.Vc
