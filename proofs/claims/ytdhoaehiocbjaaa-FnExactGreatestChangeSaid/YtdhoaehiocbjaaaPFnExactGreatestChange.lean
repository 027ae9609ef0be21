/- The statement of laws.FnExactGreatestChange: for all arguments the law returns true, and each argument reads behind the call as it read before. No condition. -/
import Derived.Test.YtdhoaehiocbjaaaRows
import Derived.Test.YtdhoaehiocbjaaaStart
import Derived.Test.YtdhoaehiocbjaaaGreatM
import Derived.WalkKit
import Derived.ProofKit
import Derived.OpenShut
import Derived.ShutString
import Derived.ChangeOld
import Derived.Below
import Derived.KernelRfl
namespace Go.Proofs.Ytdhoaehiocbjaaa
open Go.ChangeShapes Go.WideShapes Go.ChangeAt Go.RowKit Go.Vc
set_option linter.all false

theorem own_FnExactGreatestChange : ownKnob Try.prog.godebug = none := by kernel_rfl
theorem laidOut_FnExactGreatestChange : laidOutB Try.prog = true := by kernel_rfl

set_option maxRecDepth 100000 in
theorem lifted_FnExactGreatestChange (os : Os) (started : os.Started) (H : Type) (enc : TypeId × Value → H) :
    ReturnsInHanded {} Try.checked os 4 .any (Rows.fnExactGreatestChangeSpec.pre6 enc Try.prog Try.f4 Rows.fnExactGreatestChangeRow.domain false) (Rows.fnExactGreatestChangeSpec.post enc Try.prog Try.f4 false true false false) := by
  refine returnsInHanded_of_change (C := Try.checked) own_FnExactGreatestChange started (by kernel_rfl) Try.func4
    (ChangeSpec.witness6 (enc := enc) (C := Try.checked) false ⟨#[], #[.agg (gcells gz), .agg (gcells gz)], []⟩ 8 (by kernel_rfl) (by kernel_rfl) (by kernel_rfl) (by kernel_rfl)) ?_
  intro W base args ds gs before hval0 hW hcnd _
  have hval : ∀ (j : Nat) t v, Try.f4.params[j]? = some t → args[j]? = some v → Value.okWide Try.prog W .any base t v := hval0
  have hW' := hW
  obtain ⟨p, q, hA0, hV, rfl, hfz, hnd⟩ := hW
  have hA : DataW.TrodAll enc Try.prog W 0 (fun _ => true) true Try.f4.params.toList args.toList ds p := hA0
  rw [Try.params4] at hA hval
  obtain ⟨v0, vs0, d0, ds0, p0, q0, hargs, rfl, rfl, h0, r0⟩ := trodAll_cons hA
  obtain ⟨v1, vs1, d1, ds1, p1, q1, rfl, rfl, rfl, h1, r1⟩ := trodAll_cons r0
  obtain ⟨rfl, rfl, rfl⟩ := trodAll_nil r1
  obtain rfl : args = #[v0, v1] := by cases args; simp_all
  obtain ⟨rfl, rfl⟩ := trodVars_none hV
  have lt0 : ∀ x ∈ p0, x.block < W.heap.size := by obtain ⟨m, hm⟩ := h0; exact DataW.trod_lt m _ _ _ hm
  have lt1 : ∀ x ∈ p1, x.block < W.heap.size := by obtain ⟨m, hm⟩ := h1; exact DataW.trod_lt m _ _ _ hm
  obtain ⟨a0, rfl, w0⟩ := open_ground ⟨_, Try.underlying27⟩ (by kernel_rfl) (by kernel_rfl) Try.underlying22 Try.underlying23 Try.underlying25 (hval 0 27 v0 rfl rfl)
  obtain ⟨a1, rfl, w1⟩ := open_ground ⟨_, Try.underlying27⟩ (by kernel_rfl) (by kernel_rfl) Try.underlying22 Try.underlying23 Try.underlying25 (hval 1 27 v1 rfl rfl)
  clear hA0 hval0
  refine Calls.mono (law_FnExactGreatestChange a0 w0 a1 w1 W) fun e W' ⟨v, he, hk, hv⟩ => ?_
  subst he; subst hv
  have bel := hk.below
  exact ⟨_, rfl, _, _, _, [], _, [], hW', trodAll_mk1 (shut_bool Try.underlying4 _), (trodAll_cons_mk (Below.trod laidOut_FnExactGreatestChange (by kernel_rfl) (of_decide_eq_true (by kernel_rfl)) h0 bel lt0) (trodAll_cons_mk (Below.trod laidOut_FnExactGreatestChange (by kernel_rfl) (of_decide_eq_true (by kernel_rfl)) h1 bel lt1) trodAll_mk0)), rfl, bel.frame _, fun h => by cases h⟩

theorem closed_FnExactGreatestChange : joinedFacts Try.prog 4 Try.f4 Rows.fnExactGreatestChangeSpec Rows.fnExactGreatestChangeRow = true := by
  simp only [joinedFacts, Bool.and_eq_true]
  repeat' (with_reducible apply And.intro)
  all_goals first | (with_reducible exact head_mayEnter) | (with_reducible rw [head_final]; kernel_rfl) | (with_reducible rw [head_make]; kernel_rfl) | kernel_rfl

theorem proved_FnExactGreatestChange : Rows.FnExactGreatestChangeSaid :=
  OpenClaim.holds_of_wide 4 Try.f4 rfl rfl rfl rfl rfl rfl rfl ⟨rfl, rfl, rfl, rfl, rfl⟩ rfl rfl rfl rfl rfl (by kernel_rfl) Try.func4 closed_FnExactGreatestChange
    (of_decide_eq_true (by kernel_rfl)) (by unfold Func.isWrapper; first | (rw [if_pos (by decide +kernel)]; kernel_rfl) | (rw [if_neg (by decide +kernel)]; exact ⟨rfl, rfl⟩))
    (fun os started H enc _ => lifted_FnExactGreatestChange os started H enc)
#print axioms proved_FnExactGreatestChange
end Go.Proofs.Ytdhoaehiocbjaaa
