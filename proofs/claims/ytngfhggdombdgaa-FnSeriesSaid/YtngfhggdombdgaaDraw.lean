/- ArgumentAt and DrawdownAt. -/
import Derived.Test.YtngfhggdombdgaaArg
import Derived.Test.YtngfhggdombdgaaWellF
namespace Go.Proofs.Ytngfhggdombdgaa
open Go Go.Fl Go.Vc
set_option linter.all false
set_option maxRecDepth 10000

theorem wat_one (v : W) : WAt (wcell v) 0 1 (fun _ => v) := by
  intro i hi
  obtain rfl : i = 0 := by omega
  exact ⟨by show 3 ≤ 3; omega, rfl⟩
theorem wok_one {v : W} (h : v.ok) : WOk 1 (fun _ => v) := fun _ _ => h
theorem bslice_w {h : Hp} {kv : Value → Hp → Prop} {e : Nat} {v : W} (hk : ∀ b, Fresh b h → kv (.slice (some ⟨b, 0, none⟩) 1 1) (⟨b, wcell v, e, true⟩ :: h)) :
    vbslice e 3 1 #[.int .i8 0, .int .i8 0, .float .f32 0] [(0, .agg (wcell v))] h kv := bslice_go (by
    have e1 : Array.range 3 = #[0, 1, 2] := by decide
    simp [bcells, Instr.fill, Value.cells, e1]) hk

/-- the code of one well -/
abbrev askV (tr st : Nat) (v : W) (x y t : Int) : Int := askW tr st (anyB (fun _ => v) 1) 1 x y t

theorem place_near {n : Int} (h : placeB n = true) : Near n := inB_le h
theorem askV_zero {tr st : Nat} {v : W} {x y t : Int} (h : askV tr st v x y t = 0) : aqB tr st = true ∧ Near v.x ∧ Near v.y ∧ plainB (cn .f32 v.q) = true ∧ Near x ∧ Near y ∧ (1 ≤ t ∧ t ≤ 100000) := by
  unfold askV askW at h
  rw [anyB_one] at h
  split at h
  · cases h
  · rename_i h1
    split at h
    · cases h
    · split at h
      · cases h
      · rename_i h2
        simp only [Bool.or_eq_true, Bool.not_eq_true', not_or, Bool.not_eq_false] at h1 h2
        have hw : wellB v.x v.y (cn .f32 v.q) = true := by
          have := h1.2
          unfold badB at this
          simpa using this
        unfold wellB at hw
        split at hw
        · rename_i hpx
          split at hw
          · rename_i hpy
            exact ⟨h1.1, place_near hpx, place_near hpy, hw, place_near h2.1.1, place_near h2.1.2, inB_le h2.2⟩
          · cases hw
        · cases hw

def argAtR (tr st : Nat) (v : W) (x y t : Int) : Nat × Int := if askV tr st v x y t = 0 then (argF tr st (distC x y v.x v.y) t, 0) else (cn .f32 0, askV tr st v x y t)

theorem ArgumentAt_ok (tr st : Nat) (v : W) (hv : v.ok) (x y t : Int) (w : World) :
    PureC Try.prog 52 #[.agg #[.float .f32 tr, .float .f32 st], .agg (wcell v), .int .i64 x, .int .i64 y, .int .i64 t] w (IsFI (argAtR (cn .f32 tr) (cn .f32 st) v x y t).1 (argAtR (cn .f32 tr) (cn .f32 st) v x y t).2) := by
  refine pure_of_vc Try.func52 ok_impl_ArgumentAt rfl There.nil ?_
  unfold c_impl_ArgumentAt
  by_cases h0 : askV (cn .f32 tr) (cn .f32 st) v x y t = 0
  · obtain ⟨_, n1, n2, _, n3, n4, _⟩ := askV_zero h0
    have hR : argAtR (cn .f32 tr) (cn .f32 st) v x y t = (argF (cn .f32 tr) (cn .f32 st) (distC x y v.x v.y) t, 0) := by unfold argAtR; rw [if_pos h0]
    repeat' (first | (with_reducible refine gcond_split (fun _ => ?_) (fun _ => ?_)) | (with_reducible refine vcond_dec_split (fun _ => ?_) (fun _ => ?_)) | (with_reducible refine vcond_eq_split (fun _ => ?_) (fun _ => ?_)) | (with_reducible refine vcond_ne_split (fun _ => ?_) (fun _ => ?_)) | (with_reducible refine vcond_split (fun _ => ?_) (fun _ => ?_)) | (with_reducible refine bnd_go (by omega) (by omega) ?_) | (with_reducible refine nn_go (by omega) ?_) | (with_reducible refine callG_pure (fun M w0 w H => momentsFault_ok (H.cells m1) (wat_one v) (wok_one hv) (by decide) (H.cells m0) hfr.1.2 _ _ _ _) (fun v hv => ?_); subst hv) | (with_reducible refine callG_pure (fun M w0 w H => argument_ok _ _ _ _ _ _ _ _ n3 n4 n1 n2 w) (fun v hv => ?_); obtain ⟨r, rfl, hr⟩ := hv) | (with_reducible refine bslice_w ?_) | (with_reducible refine bslice_one ?_ rfl) | (with_reducible refine bops_go ?_) | (with_reducible intro _ hfr; simp only [fr_cons, fr_nil, and_true] at hfr) | (with_reducible intro _ _) | (simp only [zq00, zq01, zq02, zq03, zq04, zq05, zq06, zq07, zq08, zq09, zq0a, zq0b, zq0c, zq0d, zq0e, zq0f, zq0g, zq0h, zq0i, zq0j, zq0k, zq0l, zq0m, zq0n, zq0o, zq0p, zq0q, zq0r, zq0s, zq0t, zq0u, zq0v, zq0w, zq0x, zq0y, zq0z, zq10, zq11, zq12, zq13, zq14, zq15, zq16, zq17, zq18, zq19, zq1a, zq1b, zq1c, zq1d, zq1e, zq1f, zq1g, zq1h, zq1i, zq1j, zq1k, zq1l, zq1m, zq1n, zq1o, zq1p, zq1q, zq1r, zq1s, zq1t, zq1u, zq1v, zq1w, zq1x, zq1y, zq1z, zq20, zq21, zq22, zq23, zq24, zq25, zq26, zq27, zq28, zq29, zq2a, zq2b, zq2c, zq2d, zq2e, zq2f, zq2g, zq2h, zq2i, zq2j, zq2k, zq2l, zq2m, zq2n, zq2o, zq2p, zq2q, zq2r, zq2s, zq2t, zq2u, zq2v, zq2w, zq2x, zq2y, zq2z, zq30, zq31, zq32, zq33, zq34, zq35, zq36, zq37, zq38, zq39, zq3a, zq3b, zq3c, zq3d, zq3e, zq3f, zq3g, zq3h, zq3i, zq3j, zq3k, zq3l, zq3m, zq3n, zq3o, zq3p, zq3q, zq3r, zq3s, zq3t, zq3u, zq3v, zq3w, zq3x, zq3y, zq3z, zq40, zq41, zq42, zq43, zq44, zq45, zq46, zq47, zq48, zq49, zq4a, zq4b, zq4c, zq4d, zq4e, zq4f, zq4g, zq4h, zq4i, zq4j, zq4k, zq4l, zq4m, zq4n, zq4o, zq4p, zq4q, zq4r, zq4s, zq4t, zq4u, zq4v, zq4w, zq4x, zq4y, zq4z, zq50, zq51, zq52, zq53, zq54, zq55, zq56, zq57, zq58, zq59, zq5a, zq5b, zq5c, zq5d, zq5e, zq5f, zq5g, zq5h, zq5i, zq5j, zq5k, zq5l, zq5m, zq5n, zq5o, zq5p, zq5q, zq5r, zq5s, zq5t, zq5u, zq5v, zq5w, zq5x, zq5y, zq5z, zq60, zq61, zq62, zq63, zq64, zq65, zq66, zq67, zq68, zq69, zq6a, zq6b, zq6c, zq6d, zq6e, zq6f, zq6g, zq6h, zq6i, zq6j, zq6k, zq6l, zq6m, zq6n, zq6o, zq6p, zq6q, zq6r, zq6s, zq6t, zq6u, zq6v, zq6w, zq6x, zq6y, zq6z, zq70, zq71, zq72, zq73, zq74, zq75, zq76, zq77, zq78, zq79, zq7a, zq7b, zq7c, zq7d, zq7e, zq7f, zq7g, zq7h, zq7i, zq7j, zq7k, zq7l, zq7m, zq7n, zq7o, zq7p, zq7q, zq7r, reduceIte, Nat.reduceEqDiff, List.map_cons, List.map_nil, Option.map_some, Option.map_none, and_true, true_and, Nat.zero_add, Nat.add_zero, Nat.mul_one, Nat.reduceAdd, Nat.reduceMul, List.getElem?_toArray, List.getElem?_cons_zero, List.getElem?_cons_succ, Array.size_append, List.size_toArray, List.length_cons, List.length_nil, Bool.not_true, Bool.not_false, Int.toNat_natCast, List.append_toArray, List.cons_append, List.nil_append, List.set_cons_zero, List.set_cons_succ, Nat.reduceLT, Int.reduceEq, Int.reduceToNat, Int.reduceMul, decide_true, decide_false, bne_self_eq_false, beq_self_eq_true, ne_eq, not_false_eq_true, reduceCtorEq, *]))
    all_goals exact isFI_of (by assumption) rfl
  · have hR : argAtR (cn .f32 tr) (cn .f32 st) v x y t = (cn .f32 0, askV (cn .f32 tr) (cn .f32 st) v x y t) := by unfold argAtR; rw [if_neg h0]
    have hb : (askV (cn .f32 tr) (cn .f32 st) v x y t != 0) = true := by simpa using h0
    repeat' (first | (with_reducible refine gcond_split (fun _ => ?_) (fun _ => ?_)) | (with_reducible refine vcond_dec_split (fun _ => ?_) (fun _ => ?_)) | (with_reducible refine vcond_eq_split (fun _ => ?_) (fun _ => ?_)) | (with_reducible refine vcond_ne_split (fun _ => ?_) (fun _ => ?_)) | (with_reducible refine vcond_split (fun _ => ?_) (fun _ => ?_)) | (with_reducible refine bnd_go (by omega) (by omega) ?_) | (with_reducible refine nn_go (by omega) ?_) | (with_reducible refine callG_pure (fun M w0 w H => momentsFault_ok (H.cells m1) (wat_one v) (wok_one hv) (by decide) (H.cells m0) hfr.1.2 _ _ _ _) (fun v hv => ?_); subst hv) | (with_reducible refine bslice_w ?_) | (with_reducible refine bslice_one ?_ rfl) | (with_reducible refine bops_go ?_) | (with_reducible intro _ hfr; simp only [fr_cons, fr_nil, and_true] at hfr) | (with_reducible intro _ _) | (simp only [zq00, zq01, zq02, zq03, zq04, zq05, zq06, zq07, zq08, zq09, zq0a, zq0b, zq0c, zq0d, zq0e, zq0f, zq0g, zq0h, zq0i, zq0j, zq0k, zq0l, zq0m, zq0n, zq0o, zq0p, zq0q, zq0r, zq0s, zq0t, zq0u, zq0v, zq0w, zq0x, zq0y, zq0z, zq10, zq11, zq12, zq13, zq14, zq15, zq16, zq17, zq18, zq19, zq1a, zq1b, zq1c, zq1d, zq1e, zq1f, zq1g, zq1h, zq1i, zq1j, zq1k, zq1l, zq1m, zq1n, zq1o, zq1p, zq1q, zq1r, zq1s, zq1t, zq1u, zq1v, zq1w, zq1x, zq1y, zq1z, zq20, zq21, zq22, zq23, zq24, zq25, zq26, zq27, zq28, zq29, zq2a, zq2b, zq2c, zq2d, zq2e, zq2f, zq2g, zq2h, zq2i, zq2j, zq2k, zq2l, zq2m, zq2n, zq2o, zq2p, zq2q, zq2r, zq2s, zq2t, zq2u, zq2v, zq2w, zq2x, zq2y, zq2z, zq30, zq31, zq32, zq33, zq34, zq35, zq36, zq37, zq38, zq39, zq3a, zq3b, zq3c, zq3d, zq3e, zq3f, zq3g, zq3h, zq3i, zq3j, zq3k, zq3l, zq3m, zq3n, zq3o, zq3p, zq3q, zq3r, zq3s, zq3t, zq3u, zq3v, zq3w, zq3x, zq3y, zq3z, zq40, zq41, zq42, zq43, zq44, zq45, zq46, zq47, zq48, zq49, zq4a, zq4b, zq4c, zq4d, zq4e, zq4f, zq4g, zq4h, zq4i, zq4j, zq4k, zq4l, zq4m, zq4n, zq4o, zq4p, zq4q, zq4r, zq4s, zq4t, zq4u, zq4v, zq4w, zq4x, zq4y, zq4z, zq50, zq51, zq52, zq53, zq54, zq55, zq56, zq57, zq58, zq59, zq5a, zq5b, zq5c, zq5d, zq5e, zq5f, zq5g, zq5h, zq5i, zq5j, zq5k, zq5l, zq5m, zq5n, zq5o, zq5p, zq5q, zq5r, zq5s, zq5t, zq5u, zq5v, zq5w, zq5x, zq5y, zq5z, zq60, zq61, zq62, zq63, zq64, zq65, zq66, zq67, zq68, zq69, zq6a, zq6b, zq6c, zq6d, zq6e, zq6f, zq6g, zq6h, zq6i, zq6j, zq6k, zq6l, zq6m, zq6n, zq6o, zq6p, zq6q, zq6r, zq6s, zq6t, zq6u, zq6v, zq6w, zq6x, zq6y, zq6z, zq70, zq71, zq72, zq73, zq74, zq75, zq76, zq77, zq78, zq79, zq7a, zq7b, zq7c, zq7d, zq7e, zq7f, zq7g, zq7h, zq7i, zq7j, zq7k, zq7l, zq7m, zq7n, zq7o, zq7p, zq7q, zq7r, reduceIte, Nat.reduceEqDiff, List.map_cons, List.map_nil, Option.map_some, Option.map_none, and_true, true_and, Nat.zero_add, Nat.add_zero, Nat.mul_one, Nat.reduceAdd, Nat.reduceMul, List.getElem?_toArray, List.getElem?_cons_zero, List.getElem?_cons_succ, Array.size_append, List.size_toArray, List.length_cons, List.length_nil, Bool.not_true, Bool.not_false, Int.toNat_natCast, List.append_toArray, List.cons_append, List.nil_append, List.set_cons_zero, List.set_cons_succ, Nat.reduceLT, Int.reduceEq, Int.reduceToNat, Int.reduceMul, decide_true, decide_false, bne_self_eq_false, beq_self_eq_true, ne_eq, not_false_eq_true, reduceCtorEq, *]))
    all_goals exact isFI_of rfl rfl

theorem specArgumentAt_ok (tr st : Nat) (v : W) (hv : v.ok) (x y t : Int) (w : World) :
    PureC Try.prog 50 #[.agg #[.float .f32 tr, .float .f32 st], .agg (wcell v), .int .i64 x, .int .i64 y, .int .i64 t] w (IsFI (argAtR (cn .f32 tr) (cn .f32 st) v x y t).1 (argAtR (cn .f32 tr) (cn .f32 st) v x y t).2) := by
  refine pure_of_vc Try.func50 ok_spec_ArgumentAt rfl There.nil ?_
  unfold c_spec_ArgumentAt
  by_cases h0 : askV (cn .f32 tr) (cn .f32 st) v x y t = 0
  · obtain ⟨_, n1, n2, _, n3, n4, _⟩ := askV_zero h0
    have hR : argAtR (cn .f32 tr) (cn .f32 st) v x y t = (argF (cn .f32 tr) (cn .f32 st) (distC x y v.x v.y) t, 0) := by unfold argAtR; rw [if_pos h0]
    repeat' (first | (with_reducible refine gcond_split (fun _ => ?_) (fun _ => ?_)) | (with_reducible refine vcond_dec_split (fun _ => ?_) (fun _ => ?_)) | (with_reducible refine vcond_eq_split (fun _ => ?_) (fun _ => ?_)) | (with_reducible refine vcond_ne_split (fun _ => ?_) (fun _ => ?_)) | (with_reducible refine vcond_split (fun _ => ?_) (fun _ => ?_)) | (with_reducible refine bnd_go (by omega) (by omega) ?_) | (with_reducible refine nn_go (by omega) ?_) | (with_reducible refine callG_pure (fun M w0 w H => l03Asked_ok (H.cells m0) (wat_one v) (wok_one hv) (by decide) _ _ _ _ _) (fun v hv => ?_); subst hv) | (with_reducible refine callG_pure (fun M w0 w H => l03Argument_ok _ _ _ _ _ _ _ _ n3 n4 n1 n2 w) (fun v hv => ?_); obtain ⟨r, rfl, hr⟩ := hv) | (with_reducible refine bslice_w ?_) | (with_reducible refine bops_go ?_) | (with_reducible intro _ hfr; simp only [fr_cons, fr_nil, and_true] at hfr) | (with_reducible intro _ _) | (simp only [zq00, zq01, zq02, zq03, zq04, zq05, zq06, zq07, zq08, zq09, zq0a, zq0b, zq0c, zq0d, zq0e, zq0f, zq0g, zq0h, zq0i, zq0j, zq0k, zq0l, zq0m, zq0n, zq0o, zq0p, zq0q, zq0r, zq0s, zq0t, zq0u, zq0v, zq0w, zq0x, zq0y, zq0z, zq10, zq11, zq12, zq13, zq14, zq15, zq16, zq17, zq18, zq19, zq1a, zq1b, zq1c, zq1d, zq1e, zq1f, zq1g, zq1h, zq1i, zq1j, zq1k, zq1l, zq1m, zq1n, zq1o, zq1p, zq1q, zq1r, zq1s, zq1t, zq1u, zq1v, zq1w, zq1x, zq1y, zq1z, zq20, zq21, zq22, zq23, zq24, zq25, zq26, zq27, zq28, zq29, zq2a, zq2b, zq2c, zq2d, zq2e, zq2f, zq2g, zq2h, zq2i, zq2j, zq2k, zq2l, zq2m, zq2n, zq2o, zq2p, zq2q, zq2r, zq2s, zq2t, zq2u, zq2v, zq2w, zq2x, zq2y, zq2z, zq30, zq31, zq32, zq33, zq34, zq35, zq36, zq37, zq38, zq39, zq3a, zq3b, zq3c, zq3d, zq3e, zq3f, zq3g, zq3h, zq3i, zq3j, zq3k, zq3l, zq3m, zq3n, zq3o, zq3p, zq3q, zq3r, zq3s, zq3t, zq3u, zq3v, zq3w, zq3x, zq3y, zq3z, zq40, zq41, zq42, zq43, zq44, zq45, zq46, zq47, zq48, zq49, zq4a, zq4b, zq4c, zq4d, zq4e, zq4f, zq4g, zq4h, zq4i, zq4j, zq4k, zq4l, zq4m, zq4n, zq4o, zq4p, zq4q, zq4r, zq4s, zq4t, zq4u, zq4v, zq4w, zq4x, zq4y, zq4z, zq50, zq51, zq52, zq53, zq54, zq55, zq56, zq57, zq58, zq59, zq5a, zq5b, zq5c, zq5d, zq5e, zq5f, zq5g, zq5h, zq5i, zq5j, zq5k, zq5l, zq5m, zq5n, zq5o, zq5p, zq5q, zq5r, zq5s, zq5t, zq5u, zq5v, zq5w, zq5x, zq5y, zq5z, zq60, zq61, zq62, zq63, zq64, zq65, zq66, zq67, zq68, zq69, zq6a, zq6b, zq6c, zq6d, zq6e, zq6f, zq6g, zq6h, zq6i, zq6j, zq6k, zq6l, zq6m, zq6n, zq6o, zq6p, zq6q, zq6r, zq6s, zq6t, zq6u, zq6v, zq6w, zq6x, zq6y, zq6z, zq70, zq71, zq72, zq73, zq74, zq75, zq76, zq77, zq78, zq79, zq7a, zq7b, zq7c, zq7d, zq7e, zq7f, zq7g, zq7h, zq7i, zq7j, zq7k, zq7l, zq7m, zq7n, zq7o, zq7p, zq7q, zq7r, reduceIte, Nat.reduceEqDiff, List.map_cons, List.map_nil, Option.map_some, Option.map_none, and_true, true_and, Nat.zero_add, Nat.add_zero, Nat.mul_one, Nat.reduceAdd, Nat.reduceMul, List.getElem?_toArray, List.getElem?_cons_zero, List.getElem?_cons_succ, Array.size_append, List.size_toArray, List.length_cons, List.length_nil, Bool.not_true, Bool.not_false, Int.toNat_natCast, List.append_toArray, List.cons_append, List.nil_append, List.set_cons_zero, List.set_cons_succ, Nat.reduceLT, Int.reduceEq, Int.reduceToNat, Int.reduceMul, decide_true, decide_false, bne_self_eq_false, beq_self_eq_true, ne_eq, not_false_eq_true, reduceCtorEq, *]))
    all_goals exact isFI_of (by assumption) rfl
  · have hR : argAtR (cn .f32 tr) (cn .f32 st) v x y t = (cn .f32 0, askV (cn .f32 tr) (cn .f32 st) v x y t) := by unfold argAtR; rw [if_neg h0]
    have hb : (askV (cn .f32 tr) (cn .f32 st) v x y t != 0) = true := by simpa using h0
    repeat' (first | (with_reducible refine gcond_split (fun _ => ?_) (fun _ => ?_)) | (with_reducible refine vcond_dec_split (fun _ => ?_) (fun _ => ?_)) | (with_reducible refine vcond_eq_split (fun _ => ?_) (fun _ => ?_)) | (with_reducible refine vcond_ne_split (fun _ => ?_) (fun _ => ?_)) | (with_reducible refine vcond_split (fun _ => ?_) (fun _ => ?_)) | (with_reducible refine bnd_go (by omega) (by omega) ?_) | (with_reducible refine nn_go (by omega) ?_) | (with_reducible refine callG_pure (fun M w0 w H => l03Asked_ok (H.cells m0) (wat_one v) (wok_one hv) (by decide) _ _ _ _ _) (fun v hv => ?_); subst hv) | (with_reducible refine bslice_w ?_) | (with_reducible refine bops_go ?_) | (with_reducible intro _ hfr; simp only [fr_cons, fr_nil, and_true] at hfr) | (with_reducible intro _ _) | (simp only [zq00, zq01, zq02, zq03, zq04, zq05, zq06, zq07, zq08, zq09, zq0a, zq0b, zq0c, zq0d, zq0e, zq0f, zq0g, zq0h, zq0i, zq0j, zq0k, zq0l, zq0m, zq0n, zq0o, zq0p, zq0q, zq0r, zq0s, zq0t, zq0u, zq0v, zq0w, zq0x, zq0y, zq0z, zq10, zq11, zq12, zq13, zq14, zq15, zq16, zq17, zq18, zq19, zq1a, zq1b, zq1c, zq1d, zq1e, zq1f, zq1g, zq1h, zq1i, zq1j, zq1k, zq1l, zq1m, zq1n, zq1o, zq1p, zq1q, zq1r, zq1s, zq1t, zq1u, zq1v, zq1w, zq1x, zq1y, zq1z, zq20, zq21, zq22, zq23, zq24, zq25, zq26, zq27, zq28, zq29, zq2a, zq2b, zq2c, zq2d, zq2e, zq2f, zq2g, zq2h, zq2i, zq2j, zq2k, zq2l, zq2m, zq2n, zq2o, zq2p, zq2q, zq2r, zq2s, zq2t, zq2u, zq2v, zq2w, zq2x, zq2y, zq2z, zq30, zq31, zq32, zq33, zq34, zq35, zq36, zq37, zq38, zq39, zq3a, zq3b, zq3c, zq3d, zq3e, zq3f, zq3g, zq3h, zq3i, zq3j, zq3k, zq3l, zq3m, zq3n, zq3o, zq3p, zq3q, zq3r, zq3s, zq3t, zq3u, zq3v, zq3w, zq3x, zq3y, zq3z, zq40, zq41, zq42, zq43, zq44, zq45, zq46, zq47, zq48, zq49, zq4a, zq4b, zq4c, zq4d, zq4e, zq4f, zq4g, zq4h, zq4i, zq4j, zq4k, zq4l, zq4m, zq4n, zq4o, zq4p, zq4q, zq4r, zq4s, zq4t, zq4u, zq4v, zq4w, zq4x, zq4y, zq4z, zq50, zq51, zq52, zq53, zq54, zq55, zq56, zq57, zq58, zq59, zq5a, zq5b, zq5c, zq5d, zq5e, zq5f, zq5g, zq5h, zq5i, zq5j, zq5k, zq5l, zq5m, zq5n, zq5o, zq5p, zq5q, zq5r, zq5s, zq5t, zq5u, zq5v, zq5w, zq5x, zq5y, zq5z, zq60, zq61, zq62, zq63, zq64, zq65, zq66, zq67, zq68, zq69, zq6a, zq6b, zq6c, zq6d, zq6e, zq6f, zq6g, zq6h, zq6i, zq6j, zq6k, zq6l, zq6m, zq6n, zq6o, zq6p, zq6q, zq6r, zq6s, zq6t, zq6u, zq6v, zq6w, zq6x, zq6y, zq6z, zq70, zq71, zq72, zq73, zq74, zq75, zq76, zq77, zq78, zq79, zq7a, zq7b, zq7c, zq7d, zq7e, zq7f, zq7g, zq7h, zq7i, zq7j, zq7k, zq7l, zq7m, zq7n, zq7o, zq7p, zq7q, zq7r, reduceIte, Nat.reduceEqDiff, List.map_cons, List.map_nil, Option.map_some, Option.map_none, and_true, true_and, Nat.zero_add, Nat.add_zero, Nat.mul_one, Nat.reduceAdd, Nat.reduceMul, List.getElem?_toArray, List.getElem?_cons_zero, List.getElem?_cons_succ, Array.size_append, List.size_toArray, List.length_cons, List.length_nil, Bool.not_true, Bool.not_false, Int.toNat_natCast, List.append_toArray, List.cons_append, List.nil_append, List.set_cons_zero, List.set_cons_succ, Nat.reduceLT, Int.reduceEq, Int.reduceToNat, Int.reduceMul, decide_true, decide_false, bne_self_eq_false, beq_self_eq_true, ne_eq, not_false_eq_true, reduceCtorEq, *]))
    all_goals exact isFI_of rfl rfl

theorem law_FnExactArgumentAt (tr st : Nat) (ha : tr < 2 ^ 32 ∧ st < 2 ^ 32) (x0 y0 : Int) (q : Nat) (hw : (-128 ≤ x0 ∧ x0 ≤ 127) ∧ (-128 ≤ y0 ∧ y0 ≤ 127) ∧ q < 2 ^ 32) (x : Int) (hx : IntKind.i64.min ≤ x ∧ x ≤ IntKind.i64.max) (y : Int) (hy : IntKind.i64.min ≤ y ∧ y ≤ IntKind.i64.max) (t : Int) (ht : IntKind.i64.min ≤ t ∧ t ≤ IntKind.i64.max) (w : World) :
    PureC Try.prog 13 #[.agg #[.float .f32 tr, .float .f32 st], .agg #[.int .i8 x0, .int .i8 y0, .float .f32 q], .int .i64 x, .int .i64 y, .int .i64 t] w (· = .bool true) := by
  refine pure_of_vc Try.func13 ok_laws_FnExactArgumentAt rfl There.nil ?_
  unfold c_laws_FnExactArgumentAt
  have hv : W.ok ⟨x0, y0, q⟩ := hw
  clear hx hy ht ha hw
  repeat' (first | (with_reducible refine gcond_split (fun _ => ?_) (fun _ => ?_)) | (with_reducible refine vcond_dec_split (fun _ => ?_) (fun _ => ?_)) | (with_reducible refine vcond_eq_split (fun _ => ?_) (fun _ => ?_)) | (with_reducible refine vcond_ne_split (fun _ => ?_) (fun _ => ?_)) | (with_reducible refine vcond_split (fun _ => ?_) (fun _ => ?_)) | (with_reducible refine bnd_go (by omega) (by omega) ?_) | (with_reducible refine nn_go (by omega) ?_) | (with_reducible refine callG_pure (fun M w0 w H => toAquifer_ok _ _ w) (fun v hv => ?_); subst hv) | (with_reducible refine callG_pure (fun M w0 w H => toWell_ok _ _ _ w) (fun v hv => ?_); subst hv) | (with_reducible refine callG_pure (fun M w0 w H => specArgumentAt_ok _ _ ⟨x0, y0, q⟩ hv _ _ _ w) (fun v hv => ?_); obtain ⟨r, rfl, hr⟩ := hv) | (with_reducible refine callG_pure (fun M w0 w H => ArgumentAt_ok _ _ ⟨x0, y0, q⟩ hv _ _ _ w) (fun v hv => ?_); obtain ⟨r, rfl, hr⟩ := hv) | (with_reducible refine callG_pure (fun M w0 w H => sameFloat_ok _ _ (by simp only [*]) w) (fun v hv => ?_); subst hv) | (with_reducible refine bops_go ?_) | (with_reducible intro _ hfr; simp only [fr_cons, fr_nil, and_true] at hfr) | (with_reducible intro _ _) | (simp only [zq00, zq01, zq02, zq03, zq04, zq05, zq06, zq07, zq08, zq09, zq0a, zq0b, zq0c, zq0d, zq0e, zq0f, zq0g, zq0h, zq0i, zq0j, zq0k, zq0l, zq0m, zq0n, zq0o, zq0p, zq0q, zq0r, zq0s, zq0t, zq0u, zq0v, zq0w, zq0x, zq0y, zq0z, zq10, zq11, zq12, zq13, zq14, zq15, zq16, zq17, zq18, zq19, zq1a, zq1b, zq1c, zq1d, zq1e, zq1f, zq1g, zq1h, zq1i, zq1j, zq1k, zq1l, zq1m, zq1n, zq1o, zq1p, zq1q, zq1r, zq1s, zq1t, zq1u, zq1v, zq1w, zq1x, zq1y, zq1z, zq20, zq21, zq22, zq23, zq24, zq25, zq26, zq27, zq28, zq29, zq2a, zq2b, zq2c, zq2d, zq2e, zq2f, zq2g, zq2h, zq2i, zq2j, zq2k, zq2l, zq2m, zq2n, zq2o, zq2p, zq2q, zq2r, zq2s, zq2t, zq2u, zq2v, zq2w, zq2x, zq2y, zq2z, zq30, zq31, zq32, zq33, zq34, zq35, zq36, zq37, zq38, zq39, zq3a, zq3b, zq3c, zq3d, zq3e, zq3f, zq3g, zq3h, zq3i, zq3j, zq3k, zq3l, zq3m, zq3n, zq3o, zq3p, zq3q, zq3r, zq3s, zq3t, zq3u, zq3v, zq3w, zq3x, zq3y, zq3z, zq40, zq41, zq42, zq43, zq44, zq45, zq46, zq47, zq48, zq49, zq4a, zq4b, zq4c, zq4d, zq4e, zq4f, zq4g, zq4h, zq4i, zq4j, zq4k, zq4l, zq4m, zq4n, zq4o, zq4p, zq4q, zq4r, zq4s, zq4t, zq4u, zq4v, zq4w, zq4x, zq4y, zq4z, zq50, zq51, zq52, zq53, zq54, zq55, zq56, zq57, zq58, zq59, zq5a, zq5b, zq5c, zq5d, zq5e, zq5f, zq5g, zq5h, zq5i, zq5j, zq5k, zq5l, zq5m, zq5n, zq5o, zq5p, zq5q, zq5r, zq5s, zq5t, zq5u, zq5v, zq5w, zq5x, zq5y, zq5z, zq60, zq61, zq62, zq63, zq64, zq65, zq66, zq67, zq68, zq69, zq6a, zq6b, zq6c, zq6d, zq6e, zq6f, zq6g, zq6h, zq6i, zq6j, zq6k, zq6l, zq6m, zq6n, zq6o, zq6p, zq6q, zq6r, zq6s, zq6t, zq6u, zq6v, zq6w, zq6x, zq6y, zq6z, zq70, zq71, zq72, zq73, zq74, zq75, zq76, zq77, zq78, zq79, zq7a, zq7b, zq7c, zq7d, zq7e, zq7f, zq7g, zq7h, zq7i, zq7j, zq7k, zq7l, zq7m, zq7n, zq7o, zq7p, zq7q, zq7r, reduceIte, Nat.reduceEqDiff, List.map_cons, List.map_nil, Option.map_some, Option.map_none, and_true, true_and, Nat.zero_add, Nat.add_zero, Nat.mul_one, Nat.reduceAdd, Nat.reduceMul, List.getElem?_toArray, List.getElem?_cons_zero, List.getElem?_cons_succ, Array.size_append, List.size_toArray, List.length_cons, List.length_nil, Bool.not_true, Bool.not_false, Int.toNat_natCast, List.append_toArray, List.cons_append, List.nil_append, List.set_cons_zero, List.set_cons_succ, Nat.reduceLT, Int.reduceEq, Int.reduceToNat, Int.reduceMul, decide_true, decide_false, bne_self_eq_false, beq_self_eq_true, ne_eq, not_false_eq_true, reduceCtorEq, *]))
  all_goals simp_all

/-! ### an argument is a number -/
theorem nearest_word (s : Bool) (m : Nat) (p : Int) : ∃ r, r ≤ 2139095040 ∧ Ieee.single.nearest s m p = Ieee.single.word s r := by
  unfold Ieee.Format.nearest
  split
  · exact ⟨0, by decide, rfl⟩
  · exact ⟨_, by rw [sg_inf]; exact Nat.min_le_right _ _, rfl⟩
theorem word_num {s : Bool} {r : Nat} (h : r ≤ 2139095040) : nan .f32 (Ieee.single.word s r) = false ∧ Ieee.single.word s r < 2 ^ 32 := by
  have hw : Ieee.single.word s r = if s then 2147483648 + r else r := by unfold Ieee.Format.word; rw [sg_sign]
  have e1 : (if s then 2147483648 + r else r) % 2147483648 = r := by cases s <;> simp <;> omega
  refine ⟨?_, ?_⟩
  · show (Ieee.single.read (Ieee.single.word s r)).isNaN = false
    rw [hw]
    unfold Ieee.Format.read
    simp only [sg_sign, sg_bin, sg_inf, sg_least]
    rw [e1]
    split
    · rfl
    · split
      · rfl
      · split
        · rfl
        · omega
  · rw [hw]; cases s <;> simp <;> omega

theorem quo_number {a b : Nat} (h1 : 8388608 ≤ a) (h2 : a < 2139095040) (h3 : 8388608 ≤ b) (h4 : b < 2139095040) : nan .f32 (fop .quo .f32 a b) = false ∧ fop .quo .f32 a b < 2 ^ 32 := by
  rw [fop_quo_eq, read_norm h1 h2, read_norm h3 h4, quo_num _ _ _ _ _ _ _ (by omega), Option.map_some, Option.getD_some, write_num]
  obtain ⟨r, hr, e⟩ := nearest_word (false ^^ false) (2 * (((8388608 + a % 8388608) <<< (Ieee.single.fractionBits + 2 + (8388608 + b % 8388608).log2 - (8388608 + a % 8388608).log2)) / (8388608 + b % 8388608)) + (((8388608 + a % 8388608) <<< (Ieee.single.fractionBits + 2 + (8388608 + b % 8388608).log2 - (8388608 + a % 8388608).log2)) % (8388608 + b % 8388608) != 0).toNat)
    ((-149 + (a / 8388608 - 1 : Nat) : Int) - (-149 + (b / 8388608 - 1 : Nat)) - ((Ieee.single.fractionBits + 2 + (8388608 + b % 8388608).log2 - (8388608 + a % 8388608).log2 : Nat) : Int) - 1)
  rw [e]
  exact word_num hr

theorem cut_le (n k : Nat) (h : k ≤ n.log2 + 2) : n / 2 ^ k ≤ Ieee.Toward.even.cut false n k ∧ Ieee.Toward.even.cut false n k ≤ n / 2 ^ k + 1 := by
  unfold Ieee.Toward.cut
  simp only [Nat.min_eq_left h, Nat.one_shiftLeft]
  generalize (decide (2 ^ k < 2 * (n % 2 ^ k)) || 2 ^ k == 2 * (n % 2 ^ k) && n / 2 ^ k % 2 == 1) = t
  cases t <;> simp

/-- a product's word lies near the sum of the places -/
theorem mul_norm {a b : Nat} (h1 : 8388608 ≤ a) (h2 : a < 2139095040) (h3 : 8388608 ≤ b) (h4 : b < 2139095040) (hlo : 130 ≤ a / 8388608 + b / 8388608) (hhi : a / 8388608 + b / 8388608 ≤ 377) :
    (a / 8388608 + b / 8388608 - 127) * 8388608 ≤ fop .mul .f32 a b ∧ fop .mul .f32 a b ≤ (a / 8388608 + b / 8388608 - 125) * 8388608 := by
  rw [fop_mul_eq, read_norm h1 h2, read_norm h3 h4, prod_num, Option.map_some, Option.getD_some, write_num]
  have hA : 1 ≤ a / 8388608 := by omega
  have hB : 1 ≤ b / 8388608 := by omega
  have hma : a % 8388608 < 8388608 := Nat.mod_lt _ (by decide)
  have hmb : b % 8388608 < 8388608 := Nat.mod_lt _ (by decide)
  generalize a / 8388608 = A at *
  generalize b / 8388608 = B at *
  obtain ⟨M, hM⟩ : ∃ M, 8388608 + a % 8388608 = M := ⟨_, rfl⟩
  obtain ⟨N, hN⟩ : ∃ N, 8388608 + b % 8388608 = N := ⟨_, rfl⟩
  rw [hM, hN]
  have k1 : 8388608 ≤ M := by omega
  have k2 : M < 16777216 := by omega
  have k3 : 8388608 ≤ N := by omega
  have k4 : N < 16777216 := by omega
  clear hM hN hma hmb h1 h2 h3 h4
  have p1 : 70368744177664 ≤ M * N := by
    have := Nat.mul_le_mul k1 k3
    exact this
  have p2 : M * N < 281474976710656 := by
    have := Nat.mul_lt_mul'' k2 k4
    exact this
  generalize M * N = P at *
  have hne : P ≠ 0 := by omega
  have hL : (P.log2 = 46 ∧ P < 140737488355328) ∨ (P.log2 = 47 ∧ 140737488355328 ≤ P) := by
    rcases Nat.lt_or_ge P 140737488355328 with h | h
    · exact .inl ⟨(Nat.log2_eq_iff hne).2 ⟨p1, h⟩, h⟩
    · exact .inr ⟨(Nat.log2_eq_iff hne).2 ⟨h, p2⟩, h⟩
  unfold Ieee.Format.nearest
  rw [if_neg hne]
  simp only [sg_least, sg_bin, sg_inf, sg_frac, Bool.xor_false]
  rcases hL with ⟨hL, hPb⟩ | ⟨hL, hPb⟩
  · rw [hL]
    have hlast : max ((-149 + ((A - 1 : Nat) : Int)) + (-149 + ((B - 1 : Nat) : Int)) + ((46 : Nat) : Int) - ((23 : Nat) : Int)) (-149) = (A : Int) + B - 277 := by omega
    rw [hlast]
    have e1 : ((-149 + ((A - 1 : Nat) : Int)) + (-149 + ((B - 1 : Nat) : Int)) - ((A : Int) + B - 277)).toNat = 0 := by omega
    have e2 : ((A : Int) + B - 277 - ((-149 + ((A - 1 : Nat) : Int)) + (-149 + ((B - 1 : Nat) : Int)))).toNat = 23 := by omega
    have e3 : ((A : Int) + B - 277 - -149).toNat = A + B - 128 := by omega
    rw [e1, e2, e3, Nat.shiftLeft_zero]
    obtain ⟨c1, c2⟩ := cut_le P 23 (by omega)
    have d1 : 8388608 ≤ P / 2 ^ 23 := (Nat.le_div_iff_mul_le (by decide)).2 (by omega)
    have d2 : P / 2 ^ 23 < 16777216 := (Nat.div_lt_iff_lt_mul (by decide)).2 (by omega)
    generalize Ieee.Toward.even.cut false P 23 = K at *
    rw [Nat.min_eq_left (by omega), word_false]
    constructor <;> omega
  · rw [hL]
    have hlast : max ((-149 + ((A - 1 : Nat) : Int)) + (-149 + ((B - 1 : Nat) : Int)) + ((47 : Nat) : Int) - ((23 : Nat) : Int)) (-149) = (A : Int) + B - 276 := by omega
    rw [hlast]
    have e1 : ((-149 + ((A - 1 : Nat) : Int)) + (-149 + ((B - 1 : Nat) : Int)) - ((A : Int) + B - 276)).toNat = 0 := by omega
    have e2 : ((A : Int) + B - 276 - ((-149 + ((A - 1 : Nat) : Int)) + (-149 + ((B - 1 : Nat) : Int)))).toNat = 24 := by omega
    have e3 : ((A : Int) + B - 276 - -149).toNat = A + B - 127 := by omega
    rw [e1, e2, e3, Nat.shiftLeft_zero]
    obtain ⟨c1, c2⟩ := cut_le P 24 (by omega)
    have d1 : 8388608 ≤ P / 2 ^ 24 := (Nat.le_div_iff_mul_le (by decide)).2 (by omega)
    have d2 : P / 2 ^ 24 < 16777216 := (Nat.div_lt_iff_lt_mul (by decide)).2 (by omega)
    generalize Ieee.Toward.even.cut false P 24 = K at *
    rw [Nat.min_eq_left (by omega), word_false]
    constructor <;> omega

theorem aqB_in {tr st : Nat} (ht : tr < 2 ^ 32) (hs : st < 2 ^ 32) (h : aqB tr st = true) : (981467136 ≤ tr ∧ tr ≤ 1233125376) ∧ (897581056 ≤ st ∧ st ≤ 1065353216) := by
  unfold aqB at h
  split at h
  · rename_i a1
    split at h
    · rename_i a2
      split at h
      · rename_i a3
        exact ⟨norm_of_ge ht (by decide) (by decide) (by decide) (by decide) a1 a2, norm_of_ge hs (by decide) (by decide) (by decide) (by decide) a3 h⟩
      · cases h
    · cases h
  · cases h

theorem four_cn : cn .f32 1082130432 = 1082130432 := by decide
theorem sixteenth_cn : cn .f32 1031798784 = 1031798784 := by decide

theorem argU_num {tr st c : Nat} {t : Int} (ht0 : tr < 2 ^ 32) (hs0 : st < 2 ^ 32) (h : aqB tr st = true) (hc : c ≤ 80000) (ht : 1 ≤ t ∧ t ≤ 100000) : nan .f32 (argU tr st c t) = false ∧ argU tr st c t < 2 ^ 32 := by
  obtain ⟨⟨a1, a2⟩, b1, b2⟩ := aqB_in ht0 hs0 h
  unfold argU
  obtain ⟨d1, d2⟩ : 1031798784 ≤ dF c ∧ dF c < 1266679808 := by
    unfold dF
    split
    · rw [sixteenth_cn]; omega
    · rename_i h0
      rw [fI_num (by omega)]
      have := fI_norm (c := c) (by omega) (by omega)
      omega
  obtain ⟨t', rfl⟩ : ∃ t' : Nat, t = (t' : Int) := ⟨t.toNat, by omega⟩
  have g := fI_norm (c := t') (by omega) (by omega)
  rw [fI_num (by omega), four_cn]
  generalize dF c = d at *
  generalize fI (t' : Int) = u at *
  have m1 := mul_norm (a := d) (b := st) (by omega) (by omega) (by omega) (by omega) (by omega) (by omega)
  have m2 := mul_norm (a := 1082130432) (b := tr) (by omega) (by omega) (by omega) (by omega) (by omega) (by omega)
  generalize fop .mul .f32 d st = p at *
  generalize fop .mul .f32 1082130432 tr = q at *
  have m3 := mul_norm (a := q) (b := u) (by omega) (by omega) (by omega) (by omega) (by omega) (by omega)
  generalize fop .mul .f32 q u = r at *
  exact quo_number (by omega) (by omega) (by omega) (by omega)

theorem argF_num {tr st c : Nat} {t : Int} (ht0 : tr < 2 ^ 32) (hs0 : st < 2 ^ 32) (h : aqB tr st = true) (hc : c ≤ 80000) (ht : 1 ≤ t ∧ t ≤ 100000) :
    nan .f32 (argF tr st c t) = false ∧ argF tr st c t < 2 ^ 32 ∧ fcmp .geq .f32 (argF tr st c t) (cn .f32 562036736) = true := by
  obtain ⟨h1, h2⟩ := argU_num ht0 hs0 h hc ht
  unfold argF
  split
  · exact ⟨by decide, by decide, by decide⟩
  · rename_i hl
    refine ⟨h1, h2, ?_⟩
    obtain ⟨o, ho⟩ := ord_some h1 (show nan .f32 (cn .f32 562036736) = false by decide)
    simp only [fcmp, ho] at hl ⊢
    cases o <;> simp_all

end Go.Proofs.Ytngfhggdombdgaa
