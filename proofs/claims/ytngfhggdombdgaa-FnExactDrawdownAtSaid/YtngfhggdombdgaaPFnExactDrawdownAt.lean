/- The statement of laws.FnExactDrawdownAt: for all arguments the law returns true, and each argument reads behind the call as it read before. No condition. -/
import Derived.Test.YtngfhggdombdgaaRows
import Derived.Test.YtngfhggdombdgaaStart
import Derived.Test.YtngfhggdombdgaaDrawAt
import Derived.WalkKit
import Derived.ProofKit
import Derived.OpenShut
import Derived.ShutString
import Derived.ChangeOld
import Derived.Below
import Derived.KernelRfl
namespace Go.Proofs.Ytngfhggdombdgaa
open Go.ChangeShapes Go.WideShapes Go.ChangeAt Go.RowKit Go.Vc
set_option linter.all false

theorem own_FnExactDrawdownAt : ownKnob Try.prog.godebug = none := by kernel_rfl
theorem laidOut_FnExactDrawdownAt : laidOutB Try.prog = true := by kernel_rfl

set_option maxRecDepth 100000 in
theorem lifted_FnExactDrawdownAt (os : Os) (started : os.Started) (H : Type) (enc : TypeId × Value → H) :
    ReturnsInHanded {} Try.checked os 16 .any (Rows.fnExactDrawdownAtSpec.pre6 enc Try.prog Try.f16 Rows.fnExactDrawdownAtRow.domain false) (Rows.fnExactDrawdownAtSpec.post enc Try.prog Try.f16 false true false false) := by
  refine returnsInHanded_of_change (C := Try.checked) own_FnExactDrawdownAt started (by kernel_rfl) Try.func16
    (ChangeSpec.witness6 (enc := enc) (C := Try.checked) false ⟨#[], #[.agg #[.float .f32 0, .float .f32 0], .agg #[.int .i8 0, .int .i8 0, .float .f32 0], .int .i64 0, .int .i64 0, .int .i64 0], []⟩ 8 (by kernel_rfl) (by kernel_rfl) (by kernel_rfl) (by kernel_rfl)) ?_
  intro W base args ds gs before hval0 hW hcnd _
  have hval : ∀ (j : Nat) t v, Try.f16.params[j]? = some t → args[j]? = some v → Value.okWide Try.prog W .any base t v := hval0
  have hW' := hW
  obtain ⟨p, q, hA0, hV, rfl, hfz, hnd⟩ := hW
  have hA : DataW.TrodAll enc Try.prog W 0 (fun _ => true) true Try.f16.params.toList args.toList ds p := hA0
  rw [Try.params16] at hA hval
  obtain ⟨v0, vs0, d0, ds0, p0, q0, hargs, rfl, rfl, h0, r0⟩ := trodAll_cons hA
  obtain ⟨v1, vs1, d1, ds1, p1, q1, rfl, rfl, rfl, h1, r1⟩ := trodAll_cons r0
  obtain ⟨v2, vs2, d2, ds2, p2, q2, rfl, rfl, rfl, h2, r2⟩ := trodAll_cons r1
  obtain ⟨v3, vs3, d3, ds3, p3, q3, rfl, rfl, rfl, h3, r3⟩ := trodAll_cons r2
  obtain ⟨v4, vs4, d4, ds4, p4, q4, rfl, rfl, rfl, h4, r4⟩ := trodAll_cons r3
  obtain ⟨rfl, rfl, rfl⟩ := trodAll_nil r4
  obtain rfl : args = #[v0, v1, v2, v3, v4] := by cases args; simp_all
  obtain ⟨rfl, rfl⟩ := trodVars_none hV
  have lt0 : ∀ x ∈ p0, x.block < W.heap.size := by obtain ⟨m, hm⟩ := h0; exact DataW.trod_lt m _ _ _ hm
  have lt1 : ∀ x ∈ p1, x.block < W.heap.size := by obtain ⟨m, hm⟩ := h1; exact DataW.trod_lt m _ _ _ hm
  have lt2 : ∀ x ∈ p2, x.block < W.heap.size := by obtain ⟨m, hm⟩ := h2; exact DataW.trod_lt m _ _ _ hm
  have lt3 : ∀ x ∈ p3, x.block < W.heap.size := by obtain ⟨m, hm⟩ := h3; exact DataW.trod_lt m _ _ _ hm
  have lt4 : ∀ x ∈ p4, x.block < W.heap.size := by obtain ⟨m, hm⟩ := h4; exact DataW.trod_lt m _ _ _ hm
  obtain ⟨x0, y0, rfl, w0⟩ := open_aquifer ⟨_, Try.underlying68⟩ (by kernel_rfl) (by kernel_rfl) Try.underlying25 (hval 0 68 v0 rfl rfl)
  obtain ⟨x1, y1, q1, rfl, w1⟩ := open_well ⟨_, Try.underlying35⟩ (by kernel_rfl) (by kernel_rfl) Try.underlying33 Try.underlying25 (hval 1 35 v1 rfl rfl)
  obtain ⟨a2, rfl, w2⟩ := val_int Try.underlying2 (hval 2 2 v2 rfl rfl)
  obtain ⟨a3, rfl, w3⟩ := val_int Try.underlying2 (hval 3 2 v3 rfl rfl)
  obtain ⟨a4, rfl, w4⟩ := val_int Try.underlying2 (hval 4 2 v4 rfl rfl)
  clear hA0 hval0
  refine Calls.mono (law_FnExactDrawdownAt x0 y0 w0 x1 y1 q1 w1 a2 w2 a3 w3 a4 w4 W) fun e W' ⟨v, he, hk, hv⟩ => ?_
  subst he; subst hv
  have bel := hk.below
  exact ⟨_, rfl, _, _, _, [], _, [], hW', trodAll_mk1 (shut_bool Try.underlying4 _), (trodAll_cons_mk (Below.trod laidOut_FnExactDrawdownAt (by kernel_rfl) (of_decide_eq_true (by kernel_rfl)) h0 bel lt0) (trodAll_cons_mk (Below.trod laidOut_FnExactDrawdownAt (by kernel_rfl) (of_decide_eq_true (by kernel_rfl)) h1 bel lt1) (trodAll_cons_mk (Below.trod laidOut_FnExactDrawdownAt (by kernel_rfl) (of_decide_eq_true (by kernel_rfl)) h2 bel lt2) (trodAll_cons_mk (Below.trod laidOut_FnExactDrawdownAt (by kernel_rfl) (of_decide_eq_true (by kernel_rfl)) h3 bel lt3) (trodAll_cons_mk (Below.trod laidOut_FnExactDrawdownAt (by kernel_rfl) (of_decide_eq_true (by kernel_rfl)) h4 bel lt4) trodAll_mk0))))), rfl, bel.frame _, fun h => by cases h⟩

theorem closed_FnExactDrawdownAt : joinedFacts Try.prog 16 Try.f16 Rows.fnExactDrawdownAtSpec Rows.fnExactDrawdownAtRow = true := by
  simp only [joinedFacts, Bool.and_eq_true]
  repeat' (with_reducible apply And.intro)
  all_goals first | (with_reducible exact head_mayEnter) | (with_reducible rw [head_final]; kernel_rfl) | (with_reducible rw [head_make]; kernel_rfl) | kernel_rfl

theorem proved_FnExactDrawdownAt : Rows.FnExactDrawdownAtSaid :=
  OpenClaim.holds_of_wide 16 Try.f16 rfl rfl rfl rfl rfl rfl rfl ⟨rfl, rfl, rfl, rfl, rfl⟩ rfl rfl rfl rfl rfl (by kernel_rfl) Try.func16 closed_FnExactDrawdownAt
    (of_decide_eq_true (by kernel_rfl)) (by unfold Func.isWrapper; first | (rw [if_pos (by decide +kernel)]; kernel_rfl) | (rw [if_neg (by decide +kernel)]; exact ⟨rfl, rfl⟩))
    (fun os started H enc _ => lifted_FnExactDrawdownAt os started H enc)
#print axioms proved_FnExactDrawdownAt
end Go.Proofs.Ytngfhggdombdgaa
