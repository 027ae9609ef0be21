/- Valid grounds: the program's test and the reference's. -/
import Derived.Test.YtdhoaehiocbjaaaCells
namespace Go.Proofs.Ytdhoaehiocbjaaa
open Go Go.Fl Go.Vc
set_option linter.all false

/-! ### comparisons of numbers that are no NaN -/
theorem order_some {k : FloatKind} {x y : Nat} (hx : nan k x = false) (hy : nan k y = false) : ∃ o, k.format.order x y = some o := by
  unfold nan at hx hy
  unfold Ieee.Format.order
  cases h1 : k.format.read x with
  | nan s f => rw [h1] at hx; cases hx
  | infinity s =>
    cases h2 : k.format.read y with
    | nan s f => rw [h2] at hy; cases hy
    | infinity t => exact ⟨_, rfl⟩
    | number t n j => exact ⟨_, rfl⟩
  | number s m i =>
    cases h2 : k.format.read y with
    | nan s f => rw [h2] at hy; cases hy
    | infinity t => exact ⟨_, rfl⟩
    | number t n j => exact ⟨_, rfl⟩
theorem order_none {k : FloatKind} {x y : Nat} (hx : nan k x = true) : k.format.order x y = none := by
  obtain ⟨s, f, hr⟩ := read_nan hx
  unfold Ieee.Format.order
  rw [hr]; rfl
theorem num_of_plain {x : Nat} (h : plainB x = true) : nan .f32 x = false := by
  cases hn : nan .f32 x with
  | false => rfl
  | true =>
    have e := order_none (y := cn .f32 3380609024) hn
    simp [plainB, fcmp, e] at h
theorem num_zero : nan .f32 (cn .f32 0) = false := by decide
theorem ge_of_num {x : Nat} (h : nan .f32 x = false) : ge0 x = !lt0 x := by
  obtain ⟨o, ho⟩ := order_some h num_zero
  unfold ge0 lt0
  simp only [fcmp, ho]
  cases o <;> rfl
theorem lt_of_ne {x : Nat} (h : ne0 x = false) : lt0 x = false := by
  unfold ne0 at h; unfold lt0
  simp only [fcmp] at h ⊢
  cases ho : FloatKind.f32.format.order x (cn .f32 0) with
  | none => rfl
  | some o => rw [ho] at h; cases o <;> first | rfl | cases h

theorem all64_and {p q : Nat → Bool} : (all64 p && all64 q) = all64 fun i => p i && q i := by
  unfold all64
  rw [Bool.eq_iff_iff]
  simp only [Bool.and_eq_true, List.all_eq_true]
  exact ⟨fun ⟨a, b⟩ i hi => ⟨a i hi, b i hi⟩, fun h => ⟨fun i hi => (h i hi).1, fun i hi => (h i hi).2⟩⟩
theorem all64_congr {p q : Nat → Bool} (h : ∀ i, i < 64 → p i = q i) : all64 p = all64 q := by
  unfold all64
  rw [Bool.eq_iff_iff]
  simp only [List.all_eq_true, List.mem_range]
  exact ⟨fun a i hi => h i hi ▸ a i hi, fun a i hi => (h i hi).symm ▸ a i hi⟩

theorem amount_split (g : G) (f : Nat → Nat) : fieldB g amountB f = (fieldB g plainB f && all64 fun i => !lt0 (cn .f32 (f i))) := by
  unfold fieldB
  rw [all64_and]
  refine all64_congr fun i _ => ?_
  by_cases hc : isC g i = true
  · simp only [hc, if_true, amountB]
    by_cases hp : plainB (cn .f32 (f i)) = true
    · simp [hp, ge_of_num (num_of_plain hp)]
    · simp [hp]
  · simp only [hc, if_false, Bool.false_eq_true]
    cases hz : ne0 (cn .f32 (f i)) with
    | true => rfl
    | false => rw [lt_of_ne hz]; rfl

/-! ### validity -/
def bitsB (g : G) : Bool := if g.fixed != 0 then ibits .andNot .u64 g.fixed (bitsOf (cellsTo g 64) : Nat) == 0 else false
def fieldsB (g : G) : Bool := if fieldB g amountB g.con then if fieldB g plainB g.gain then fieldB g plainB g.heads else false else false
def sizesB (g : G) : Bool := if inB g.wide 2 8 then inB g.high 2 8 else false
def okG (g : G) : Bool := if sizesB g then if fieldsB g then bitsB g else false else false

theorem callable_amount : callable Try.prog 26 = true := by kernel_rfl
theorem callable_plain : callable Try.prog 27 = true := by kernel_rfl

theorem ValidGround_ok {g : G} (hk : GOk g) (w : World) : PureC Try.prog 15 #[.agg (gcells g)] w (· = .bool (okG g)) := by
  refine pure_of_vc Try.func15 ok_impl_ValidGround rfl There.nil ?_
  unfold c_impl_ValidGround
  have e4 := w8 hk.wide
  have e5 := w8 hk.high
  repeat' (first | (with_reducible refine gcond_split (fun _ => ?_) (fun _ => ?_)) | (with_reducible refine vcond_dec_split (fun _ => ?_) (fun _ => ?_)) | (with_reducible refine vcond_eq_split (fun _ => ?_) (fun _ => ?_)) | (with_reducible refine vcond_ne_split (fun _ => ?_) (fun _ => ?_)) | (with_reducible refine vcond_split (fun _ => ?_) (fun _ => ?_)) | (with_reducible refine bnd_go (by omega) (by omega) ?_) | (with_reducible refine nn_go (by omega) ?_) | (with_reducible refine callG_pure (fun M w0 w H => in_ok _ _ _ w) (fun v hv => ?_); subst hv) | (with_reducible refine callG_pure (fun M w0 w H => fieldOk_ok (H.get m0) (GIn.self g) hk (GIn.self g).con callable_amount isAmount_ok) (fun v hv => ?_); subst hv) | (with_reducible refine callG_pure (fun M w0 w H => fieldOk_ok (H.get m0) (GIn.self g) hk (GIn.self g).gain callable_plain IsPlain_ok) (fun v hv => ?_); subst hv) | (with_reducible refine callG_pure (fun M w0 w H => fieldOk_ok (H.get m0) (GIn.self g) hk (GIn.self g).heads callable_plain IsPlain_ok) (fun v hv => ?_); subst hv) | (with_reducible refine callG_pure (fun M w0 w H => bits_ok (H.get m0) (GIn.self g) hk) (fun v hv => ?_); subst hv) | (with_reducible refine bops_go ?_) | (with_reducible refine fops_go ?_) | (with_reducible refine fl_nil ?_) | (with_reducible refine fl_ex (by decide) ?_) | (with_reducible refine fl_non ?_ ?_) | (with_reducible intro _ hfr; simp only [fr_cons, fr_nil, and_true] at hfr) | (with_reducible intro _ _) | (simp only [e00, e01, e02, e03, e04, e05, e06, e07, e08, e09, e0a, e0b, e0c, e0d, e0e, e0f, e0g, e0h, e0i, e0j, e0k, e0l, e0m, e0n, e0o, e0p, e0q, e0r, e0s, e0t, e0u, e0v, e0w, e0x, e0y, e0z, e10, e11, e12, e13, e14, e15, e16, e17, e18, e19, e1a, e1b, e1c, e1d, e1e, e1f, e1g, e1h, e1i, e1j, e1k, e1l, e1m, e1n, e1o, e1p, e1q, e1r, e1s, e1t, e1u, e1v, e1w, e1x, e1y, e1z, e20, e21, e22, e23, e24, e25, e26, e27, e28, e29, e2a, e2b, e2c, e2d, e2e, e2f, e2g, e2h, e2i, e2j, e2k, e2l, e2m, e2n, e2o, e2p, e2q, e2r, e2s, e2t, e2u, e2v, e2w, e2x, e2y, e2z, e30, e31, e32, e33, e34, e35, e36, e37, e38, e39, e3a, e3b, e3c, e3d, e3e, e3f, e3g, e3h, e3i, e3j, e3k, e3l, e3m, e3n, e3o, e3p, e3q, e3r, e3s, e3t, e3u, e3v, e3w, e3x, e3y, e3z, e40, e41, e42, e43, e44, e45, e46, e47, e48, e49, e4a, e4b, e4c, e4d, e4e, e4f, e4g, e4h, e4i, e4j, e4k, e4l, e4m, e4n, e4o, e4p, e4q, e4r, e4s, e4t, e4u, e4v, e4w, e4x, e4y, e4z, e50, e51, e52, e53, e54, e55, e56, e57, e58, e59, e5a, e5b, e5c, e5d, e5e, e5f, e5g, e5h, e5i, e5j, e5k, e5l, e5m, e5n, e5o, e5p, e5q, e5r, e5s, e5t, e5u, e5v, e5w, e5x, e5y, e5z, e60, e61, e62, e63, e64, e65, e66, e67, e68, e69, e6a, e6b, e6c, e6d, e6e, e6f, e6g, e6h, e6i, e6j, e6k, e6l, e6m, e6n, e6o, e6p, e6q, e6r, e6s, e6t, e6u, e6v, e6w, e6x, e6y, e6z, e70, e71, e72, e73, e74, e75, e76, e77, e78, e79, e7a, e7b, e7c, e7d, e7e, e7f, e7g, reduceIte, Nat.reduceEqDiff, List.map_cons, List.map_nil, Option.map_some, Option.map_none, and_true, true_and, Nat.zero_add, Nat.add_zero, Nat.mul_one, Nat.reduceAdd, Nat.reduceMul, List.getElem?_toArray, List.getElem?_cons_zero, List.getElem?_cons_succ, Array.size_append, List.size_toArray, List.length_cons, List.length_nil, Bool.not_true, Bool.not_false, Int.toNat_natCast, List.append_toArray, List.cons_append, List.nil_append, List.set_cons_zero, List.set_cons_succ, Nat.reduceLT, Int.reduceEq, Int.reduceToNat, Int.reduceMul, decide_true, decide_false, bne_self_eq_false, beq_self_eq_true, ne_eq, not_false_eq_true, reduceCtorEq, e4, e5]))
  all_goals simp_all [okG, sizesB, fieldsB, bitsB]

theorem l01Ok_ok {w : World} {b T : Nat} {cs : Array Value} {g : G} (hb : w.heap[b]? = some (.cells cs T (0, 0))) (hg : GIn cs g) (hk : GOk g) :
    PureC Try.prog 12 #[.pointer (some ⟨b, 0, none⟩)] w (· = .bool (okG g)) := by
  refine pure_of_vc Try.func12 ok_spec_l01Ok rfl (There.one hb) ?_
  unfold c_spec_l01Ok
  have e4 := w8 hk.wide
  have e5 := w8 hk.high
  have e6 := hg.wide
  have e7 := hg.high
  have e8 := hg.fixed
  have hsp := amount_split g g.con
  repeat' (first | (with_reducible refine gcond_split (fun _ => ?_) (fun _ => ?_)) | (with_reducible refine vcond_dec_split (fun _ => ?_) (fun _ => ?_)) | (with_reducible refine vcond_eq_split (fun _ => ?_) (fun _ => ?_)) | (with_reducible refine vcond_ne_split (fun _ => ?_) (fun _ => ?_)) | (with_reducible refine vcond_split (fun _ => ?_) (fun _ => ?_)) | (with_reducible refine bnd_go (by omega) (by omega) ?_) | (with_reducible refine nn_go (by omega) ?_) | (with_reducible refine callG_pure (fun M w0 w H => l00In_ok _ _ _ w) (fun v hv => ?_); subst hv) | (with_reducible refine callG_pure (fun M w0 w H => l01Field_ok (H.get m0) hg hk hg.con) (fun v hv => ?_); subst hv) | (with_reducible refine callG_pure (fun M w0 w H => l01Field_ok (H.get m0) hg hk hg.gain) (fun v hv => ?_); subst hv) | (with_reducible refine callG_pure (fun M w0 w H => l01Field_ok (H.get m0) hg hk hg.heads) (fun v hv => ?_); subst hv) | (with_reducible refine bops_go ?_) | (with_reducible refine fops_go ?_) | (with_reducible refine fl_nil ?_) | (with_reducible refine fl_ex (by decide) ?_) | (with_reducible refine fl_non ?_ ?_) | (with_reducible intro _ hfr; simp only [fr_cons, fr_nil, and_true] at hfr) | (with_reducible intro _ _) | (simp only [e00, e01, e02, e03, e04, e05, e06, e07, e08, e09, e0a, e0b, e0c, e0d, e0e, e0f, e0g, e0h, e0i, e0j, e0k, e0l, e0m, e0n, e0o, e0p, e0q, e0r, e0s, e0t, e0u, e0v, e0w, e0x, e0y, e0z, e10, e11, e12, e13, e14, e15, e16, e17, e18, e19, e1a, e1b, e1c, e1d, e1e, e1f, e1g, e1h, e1i, e1j, e1k, e1l, e1m, e1n, e1o, e1p, e1q, e1r, e1s, e1t, e1u, e1v, e1w, e1x, e1y, e1z, e20, e21, e22, e23, e24, e25, e26, e27, e28, e29, e2a, e2b, e2c, e2d, e2e, e2f, e2g, e2h, e2i, e2j, e2k, e2l, e2m, e2n, e2o, e2p, e2q, e2r, e2s, e2t, e2u, e2v, e2w, e2x, e2y, e2z, e30, e31, e32, e33, e34, e35, e36, e37, e38, e39, e3a, e3b, e3c, e3d, e3e, e3f, e3g, e3h, e3i, e3j, e3k, e3l, e3m, e3n, e3o, e3p, e3q, e3r, e3s, e3t, e3u, e3v, e3w, e3x, e3y, e3z, e40, e41, e42, e43, e44, e45, e46, e47, e48, e49, e4a, e4b, e4c, e4d, e4e, e4f, e4g, e4h, e4i, e4j, e4k, e4l, e4m, e4n, e4o, e4p, e4q, e4r, e4s, e4t, e4u, e4v, e4w, e4x, e4y, e4z, e50, e51, e52, e53, e54, e55, e56, e57, e58, e59, e5a, e5b, e5c, e5d, e5e, e5f, e5g, e5h, e5i, e5j, e5k, e5l, e5m, e5n, e5o, e5p, e5q, e5r, e5s, e5t, e5u, e5v, e5w, e5x, e5y, e5z, e60, e61, e62, e63, e64, e65, e66, e67, e68, e69, e6a, e6b, e6c, e6d, e6e, e6f, e6g, e6h, e6i, e6j, e6k, e6l, e6m, e6n, e6o, e6p, e6q, e6r, e6s, e6t, e6u, e6v, e6w, e6x, e6y, e6z, e70, e71, e72, e73, e74, e75, e76, e77, e78, e79, e7a, e7b, e7c, e7d, e7e, e7f, e7g, reduceIte, Nat.reduceEqDiff, List.map_cons, List.map_nil, Option.map_some, Option.map_none, and_true, true_and, Nat.zero_add, Nat.add_zero, Nat.mul_one, Nat.reduceAdd, Nat.reduceMul, List.getElem?_toArray, List.getElem?_cons_zero, List.getElem?_cons_succ, Array.size_append, List.size_toArray, List.length_cons, List.length_nil, Bool.not_true, Bool.not_false, Int.toNat_natCast, List.append_toArray, List.cons_append, List.nil_append, List.set_cons_zero, List.set_cons_succ, Nat.reduceLT, Int.reduceEq, Int.reduceToNat, Int.reduceMul, decide_true, decide_false, bne_self_eq_false, beq_self_eq_true, ne_eq, not_false_eq_true, reduceCtorEq, e4, e5, e6, e7]))
  case refine_1.refine_2.refine_1.refine_1.refine_2 =>
    rename_i k1 k2 k3 k4 k5
    refine loop_up 64 (fun i ρ h => i ≤ 64 ∧ Env.get ρ 0 = .pointer (some ⟨b, 0, none⟩) ∧ Env.get ρ 3 = .int .i64 i ∧ (∀ j, j < i → (!lt0 (cn .f32 (g.con j))) = true) ∧ h = [⟨b, cs, T, false⟩])
      ⟨by omega, rfl, rfl, fun j hj => by omega, rfl⟩ ?_
    rintro i ρ h hi ⟨_, e1, e2, hall, rfl⟩
    repeat' (first | (with_reducible refine gcond_split (fun _ => ?_) (fun _ => ?_)) | (with_reducible refine vcond_dec_split (fun _ => ?_) (fun _ => ?_)) | (with_reducible refine vcond_eq_split (fun _ => ?_) (fun _ => ?_)) | (with_reducible refine vcond_ne_split (fun _ => ?_) (fun _ => ?_)) | (with_reducible refine vcond_split (fun _ => ?_) (fun _ => ?_)) | (with_reducible refine bnd_go (by omega) (by omega) ?_) | (with_reducible refine nn_go (by omega) ?_) | (with_reducible refine getV_go (hg.con _ (by omega)) ?_) | (with_reducible refine callG_pure (fun M w0 w H => l01Cells_ok (H.get m0) hg hk) (fun v hv => ?_); subst hv) | (with_reducible refine bops_go ?_) | (with_reducible refine fops_go ?_) | (with_reducible refine fl_nil ?_) | (with_reducible refine fl_ex (by decide) ?_) | (with_reducible refine fl_non ?_ ?_) | (with_reducible intro _ hfr; simp only [fr_cons, fr_nil, and_true] at hfr) | (with_reducible intro _ _) | (simp only [e00, e01, e02, e03, e04, e05, e06, e07, e08, e09, e0a, e0b, e0c, e0d, e0e, e0f, e0g, e0h, e0i, e0j, e0k, e0l, e0m, e0n, e0o, e0p, e0q, e0r, e0s, e0t, e0u, e0v, e0w, e0x, e0y, e0z, e10, e11, e12, e13, e14, e15, e16, e17, e18, e19, e1a, e1b, e1c, e1d, e1e, e1f, e1g, e1h, e1i, e1j, e1k, e1l, e1m, e1n, e1o, e1p, e1q, e1r, e1s, e1t, e1u, e1v, e1w, e1x, e1y, e1z, e20, e21, e22, e23, e24, e25, e26, e27, e28, e29, e2a, e2b, e2c, e2d, e2e, e2f, e2g, e2h, e2i, e2j, e2k, e2l, e2m, e2n, e2o, e2p, e2q, e2r, e2s, e2t, e2u, e2v, e2w, e2x, e2y, e2z, e30, e31, e32, e33, e34, e35, e36, e37, e38, e39, e3a, e3b, e3c, e3d, e3e, e3f, e3g, e3h, e3i, e3j, e3k, e3l, e3m, e3n, e3o, e3p, e3q, e3r, e3s, e3t, e3u, e3v, e3w, e3x, e3y, e3z, e40, e41, e42, e43, e44, e45, e46, e47, e48, e49, e4a, e4b, e4c, e4d, e4e, e4f, e4g, e4h, e4i, e4j, e4k, e4l, e4m, e4n, e4o, e4p, e4q, e4r, e4s, e4t, e4u, e4v, e4w, e4x, e4y, e4z, e50, e51, e52, e53, e54, e55, e56, e57, e58, e59, e5a, e5b, e5c, e5d, e5e, e5f, e5g, e5h, e5i, e5j, e5k, e5l, e5m, e5n, e5o, e5p, e5q, e5r, e5s, e5t, e5u, e5v, e5w, e5x, e5y, e5z, e60, e61, e62, e63, e64, e65, e66, e67, e68, e69, e6a, e6b, e6c, e6d, e6e, e6f, e6g, e6h, e6i, e6j, e6k, e6l, e6m, e6n, e6o, e6p, e6q, e6r, e6s, e6t, e6u, e6v, e6w, e6x, e6y, e6z, e70, e71, e72, e73, e74, e75, e76, e77, e78, e79, e7a, e7b, e7c, e7d, e7e, e7f, e7g, reduceIte, Nat.reduceEqDiff, List.map_cons, List.map_nil, Option.map_some, Option.map_none, and_true, true_and, Nat.zero_add, Nat.add_zero, Nat.mul_one, Nat.reduceAdd, Nat.reduceMul, List.getElem?_toArray, List.getElem?_cons_zero, List.getElem?_cons_succ, Array.size_append, List.size_toArray, List.length_cons, List.length_nil, Bool.not_true, Bool.not_false, Int.toNat_natCast, List.append_toArray, List.cons_append, List.nil_append, List.set_cons_zero, List.set_cons_succ, Nat.reduceLT, Int.reduceEq, Int.reduceToNat, Int.reduceMul, decide_true, decide_false, bne_self_eq_false, beq_self_eq_true, ne_eq, not_false_eq_true, reduceCtorEq, e1, e2, e8]))
    all_goals first
      | (refine again_up (by omega) ⟨by omega, e1, congrArg (Value.int .i64) (wsucc (by omega)), below_succ hall (by simp_all [lt0]), rfl⟩)
      | (have hz := all64_false (p := fun i => !lt0 (cn .f32 (g.con i))) (i := i) (by omega) (by simp_all [lt0]); simp_all [okG, sizesB, fieldsB]; done)
      | (have hz := all64_true (p := fun i => !lt0 (cn .f32 (g.con i))) fun j hj => hall j (by omega); simp_all [okG, sizesB, fieldsB, bitsB]; done)
  all_goals simp_all [okG, sizesB, fieldsB]

end Go.Proofs.Ytdhoaehiocbjaaa
