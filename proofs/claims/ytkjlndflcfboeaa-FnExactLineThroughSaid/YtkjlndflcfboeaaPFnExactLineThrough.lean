/- The statement of laws.FnExactLineThrough: for all arguments the law returns true, and each argument reads behind the call as it read before. No condition. -/
import Derived.Test.YtkjlndflcfboeaaRows
import Derived.Test.YtkjlndflcfboeaaStart
import Derived.Test.YtkjlndflcfboeaaLineS
import Derived.WalkKit
import Derived.ProofKit
import Derived.OpenShut
import Derived.ShutString
import Derived.ChangeOld
import Derived.Below
import Derived.KernelRfl
namespace Go.Proofs.Ytkjlndflcfboeaa
open Go.ChangeShapes Go.WideShapes Go.ChangeAt Go.RowKit Go.Vc
set_option linter.all false

theorem own_FnExactLineThrough : ownKnob Try.prog.godebug = none := by kernel_rfl
theorem laidOut_FnExactLineThrough : laidOutB Try.prog = true := by kernel_rfl

set_option maxRecDepth 100000 in
theorem lifted_FnExactLineThrough (os : Os) (started : os.Started) (H : Type) (enc : TypeId × Value → H) :
    ReturnsInHanded {} Try.checked os 4 .any (Rows.fnExactLineThroughSpec.pre6 enc Try.prog Try.f4 Rows.fnExactLineThroughRow.domain false) (Rows.fnExactLineThroughSpec.post enc Try.prog Try.f4 false true false false) := by
  refine returnsInHanded_of_change (C := Try.checked) own_FnExactLineThrough started (by kernel_rfl) Try.func4
    (ChangeSpec.witness6 (enc := enc) (C := Try.checked) false ⟨#[], #[.slice none 0 0], []⟩ 8 (by kernel_rfl) (by kernel_rfl) (by kernel_rfl) (by kernel_rfl)) ?_
  intro W base args ds gs before hval0 hW hcnd _
  have hval : ∀ (j : Nat) t v, Try.f4.params[j]? = some t → args[j]? = some v → Value.okWide Try.prog W .any base t v := hval0
  have hW' := hW
  obtain ⟨p, q, hA0, hV, rfl, hfz, hnd⟩ := hW
  have hA : DataW.TrodAll enc Try.prog W 0 (fun _ => true) true Try.f4.params.toList args.toList ds p := hA0
  rw [Try.params4] at hA hval
  obtain ⟨v0, vs0, d0, ds0, p0, q0, hargs, rfl, rfl, h0, r0⟩ := trodAll_cons hA
  obtain ⟨rfl, rfl, rfl⟩ := trodAll_nil r0
  obtain rfl : args = #[v0] := by cases args; simp_all
  obtain ⟨rfl, rfl⟩ := trodVars_none hV
  have lt0 : ∀ x ∈ p0, x.block < W.heap.size := by obtain ⟨m, hm⟩ := h0; exact DataW.trod_lt m _ _ _ hm
  obtain ⟨sp0, sn0, sc0, rfl⟩ := Go.WideShapes.okWide_slice Try.underlying31 (hval 0 31 v0 rfl rfl)
  obtain ⟨sl0, sf0, sr0, so0⟩ := open_readings Try.underlying31 Try.underlying62 (by kernel_rfl) rfl rfl (by kernel_rfl) (by kernel_rfl) Try.underlying2 Try.underlying56 (by obtain ⟨m, hm⟩ := h0; exact ⟨m, hm⟩)
  clear hA0 hval0
  refine Calls.mono (law_FnExactLineThrough sp0 sn0 sc0 sf0 sl0 so0 W sr0) fun e W' ⟨v, he, hk, hv⟩ => ?_
  subst he; subst hv
  have bel := hk.below
  exact ⟨_, rfl, _, _, _, [], _, [], hW', trodAll_mk1 (shut_bool Try.underlying4 _), (trodAll_cons_mk (Below.trod laidOut_FnExactLineThrough (by kernel_rfl) (of_decide_eq_true (by kernel_rfl)) h0 bel lt0) trodAll_mk0), rfl, bel.frame _, fun h => by cases h⟩

theorem closed_FnExactLineThrough : joinedFacts Try.prog 4 Try.f4 Rows.fnExactLineThroughSpec Rows.fnExactLineThroughRow = true := by
  simp only [joinedFacts, Bool.and_eq_true]
  repeat' (with_reducible apply And.intro)
  all_goals first | (with_reducible exact head_mayEnter) | (with_reducible rw [head_final]; kernel_rfl) | (with_reducible rw [head_make]; kernel_rfl) | kernel_rfl

theorem proved_FnExactLineThrough : Rows.FnExactLineThroughSaid :=
  OpenClaim.holds_of_wide 4 Try.f4 rfl rfl rfl rfl rfl rfl rfl ⟨rfl, rfl, rfl, rfl, rfl⟩ rfl rfl rfl rfl rfl (by kernel_rfl) Try.func4 closed_FnExactLineThrough
    (of_decide_eq_true (by kernel_rfl)) (by unfold Func.isWrapper; first | (rw [if_pos (by decide +kernel)]; kernel_rfl) | (rw [if_neg (by decide +kernel)]; exact ⟨rfl, rfl⟩))
    (fun os started H enc _ => lifted_FnExactLineThrough os started H enc)
#print axioms proved_FnExactLineThrough
end Go.Proofs.Ytkjlndflcfboeaa
