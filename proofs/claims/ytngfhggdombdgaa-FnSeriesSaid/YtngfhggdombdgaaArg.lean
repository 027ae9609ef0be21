/- Arguments of wells. -/
import Derived.Test.YtngfhggdombdgaaSq
import Derived.Test.YtngfhggdombdgaaWells
namespace Go.Proofs.Ytngfhggdombdgaa
open Go Go.Fl Go.Vc
set_option linter.all false
set_option maxRecDepth 10000

theorem cn_cn (r : Nat) : cn .f32 (cn .f32 r) = cn .f32 r := by
  cases h : nan .f32 r with
  | true => rw [cn_of_nan h, cn_of_nan (nan_qn .f32)]
  | false => rw [cn_of_num h, cn_of_num h]
theorem qn_of_nan {r : Nat} (h : nan .f32 (cn .f32 r) = true) : cn .f32 r = qn .f32 := by rw [← cn_cn, cn_of_nan h]

def pickO (o : Option Ordering) (neg : Bool) (x y : Nat) : Nat := match o with
  | none => qn .f32
  | some .lt => y
  | some .gt => x
  | some .eq => if neg then y else x
theorem fmax_pick (x y : Nat) : fmaxF .f32 x y = pickO (FloatKind.f32.format.order x y) (FloatKind.f32.decode x).neg x y := rfl
theorem lss_order (x y : Nat) : fcmp .lss .f32 x y = (FloatKind.f32.format.order x y == some .lt) := rfl

theorem fmax_tiny (r : Nat) : fmaxF .f32 (cn .f32 r) (cn .f32 562036736) = if fcmp .lss .f32 (cn .f32 r) (cn .f32 562036736) = true then cn .f32 562036736 else cn .f32 r := by
  have ec : cn .f32 562036736 = 562036736 := by decide
  have hrc : Ieee.single.read 562036736 = .number false 8388608 (-83) := by decide
  rw [fmax_pick, lss_order]
  cases ho : FloatKind.f32.format.order (cn .f32 r) (cn .f32 562036736) with
  | none =>
    have hn : nan .f32 (cn .f32 r) = true := by
      cases hn : nan .f32 (cn .f32 r) with
      | true => rfl
      | false =>
        obtain ⟨o, ho'⟩ := ord_some hn (show nan .f32 (cn .f32 562036736) = false by decide)
        rw [ho] at ho'; cases ho'
    simp [pickO, qn_of_nan hn]
  | some o =>
    cases o with
    | lt => simp [pickO]
    | gt => simp [pickO]
    | eq =>
      have hneg : (FloatKind.f32.decode (cn .f32 r)).neg = false := by
        have ho2 : (Ieee.single.read (cn .f32 r)).order (Ieee.single.read (cn .f32 562036736)) = some .eq := ho
        rw [ec, hrc] at ho2
        show (Ieee.single.read (cn .f32 r)).neg = false
        cases hr : Ieee.single.read (cn .f32 r) with
        | nan s f => rw [hr] at ho2; simp [Ieee.Datum.order] at ho2
        | infinity s => rw [hr] at ho2; cases s <;> simp [Ieee.Datum.order] at ho2
        | number s m p =>
          cases s with
          | false => rfl
          | true =>
            rw [hr] at ho2
            simp only [Ieee.Datum.order, Ieee.signed, Bool.false_eq_true, if_false, if_true, Nat.shiftLeft_eq] at ho2
            have hpos : ∀ k : Nat, 0 < 8388608 * 2 ^ k := fun k => Nat.mul_pos (by decide) (Nat.pow_pos (by decide))
            have := hpos (-83 - min p (-83)).toNat
            rw [cmpI_lt (by generalize m * 2 ^ (p - min p (-83)).toNat = z; omega)] at ho2
            cases ho2
      simp [pickO, hneg]

/-! ### the argument -/
def dF (c : Nat) : Nat := if c = 0 then cn .f32 1031798784 else cn .f32 (fI (c : Int))
def argU (tr st c : Nat) (t : Int) : Nat := fop .quo .f32 (fop .mul .f32 (dF c) st) (fop .mul .f32 (fop .mul .f32 (cn .f32 1082130432) tr) (cn .f32 (fI t)))
def argF (tr st c : Nat) (t : Int) : Nat := if fcmp .lss .f32 (argU tr st c t) (cn .f32 562036736) = true then cn .f32 562036736 else argU tr st c t
def distC (x y x0 y0 : Int) : Nat := (x - x0).natAbs * (x - x0).natAbs + (y - y0).natAbs * (y - y0).natAbs

/-- where a place lies -/
def Near (n : Int) : Prop := -100 ≤ n ∧ n ≤ 100

theorem sq_of {d : Int} (h : d.natAbs ≤ 200) : d * d = ((d.natAbs * d.natAbs : Nat) : Int) ∧ d.natAbs * d.natAbs ≤ 40000 := by
  refine ⟨?_, Nat.mul_le_mul h h⟩
  rw [← Int.natAbs_mul_self]

theorem argument_ok (tr st : Nat) (x0 y0 : Int) (q : Nat) (x y t : Int) (h1 : Near x) (h2 : Near y) (h3 : Near x0) (h4 : Near y0) (w : World) :
    PureC Try.prog 92 #[.agg #[.float .f32 tr, .float .f32 st], .agg #[.int .i8 x0, .int .i8 y0, .float .f32 q], .int .i64 x, .int .i64 y, .int .i64 t] w (IsF (argF (cn .f32 tr) (cn .f32 st) (distC x y x0 y0) t)) := by
  refine pure_of_vc Try.func92 ok_impl_argument rfl There.nil ?_
  unfold c_impl_argument
  unfold Near at h1 h2 h3 h4
  have w1 : IntKind.i64.wrap x0 = x0 := IntWalk.i64_in _ (by omega)
  have w2 : IntKind.i64.wrap y0 = y0 := IntWalk.i64_in _ (by omega)
  have w3 : IntKind.i64.wrap (x - x0) = x - x0 := IntWalk.i64_in _ (by omega)
  have w4 : IntKind.i64.wrap (y - y0) = y - y0 := IntWalk.i64_in _ (by omega)
  have hdx : (x - x0).natAbs ≤ 200 := by omega
  have hdy : (y - y0).natAbs ≤ 200 := by omega
  unfold distC
  generalize hx0 : x - x0 = dx at *
  generalize hy0 : y - y0 = dy at *
  obtain ⟨s1, s2⟩ := sq_of hdx
  obtain ⟨s3, s4⟩ := sq_of hdy
  have f1 := fI_sq (n := dx) (by omega)
  have f2 := fI_sq (n := dy) (by omega)
  rw [s1] at f1
  rw [s3] at f2
  generalize dx.natAbs * dx.natAbs = A at *
  generalize dy.natAbs * dy.natAbs = B at *
  have f3 := fI_add (a := A) (b := B) (by omega)
  have f4 := fI_eql (c := A + B) (by omega)
  clear hdx hdy s2 s4 h1 h2 h3 h4
  generalize A + B = C at *
  have hm := fmax_tiny
  by_cases hz : C = 0
  · rw [decide_eq_true hz] at f4
    subst hz
    repeat' (first | (with_reducible refine gcond_split (fun _ => ?_) (fun _ => ?_)) | (with_reducible refine vcond_dec_split (fun _ => ?_) (fun _ => ?_)) | (with_reducible refine vcond_eq_split (fun _ => ?_) (fun _ => ?_)) | (with_reducible refine vcond_ne_split (fun _ => ?_) (fun _ => ?_)) | (with_reducible refine vcond_split (fun _ => ?_) (fun _ => ?_)) | (with_reducible refine bnd_go (by omega) (by omega) ?_) | (with_reducible refine nn_go (by omega) ?_) | (with_reducible refine dops_go (fun _ _ _ => True) ?_) | (with_reducible refine bops_go ?_) | (with_reducible intro _ hfr; simp only [fr_cons, fr_nil, and_true] at hfr) | (with_reducible intro _ _) | (simp only [zq00, zq01, zq02, zq03, zq04, zq05, zq06, zq07, zq08, zq09, zq0a, zq0b, zq0c, zq0d, zq0e, zq0f, zq0g, zq0h, zq0i, zq0j, zq0k, zq0l, zq0m, zq0n, zq0o, zq0p, zq0q, zq0r, zq0s, zq0t, zq0u, zq0v, zq0w, zq0x, zq0y, zq0z, zq10, zq11, zq12, zq13, zq14, zq15, zq16, zq17, zq18, zq19, zq1a, zq1b, zq1c, zq1d, zq1e, zq1f, zq1g, zq1h, zq1i, zq1j, zq1k, zq1l, zq1m, zq1n, zq1o, zq1p, zq1q, zq1r, zq1s, zq1t, zq1u, zq1v, zq1w, zq1x, zq1y, zq1z, zq20, zq21, zq22, zq23, zq24, zq25, zq26, zq27, zq28, zq29, zq2a, zq2b, zq2c, zq2d, zq2e, zq2f, zq2g, zq2h, zq2i, zq2j, zq2k, zq2l, zq2m, zq2n, zq2o, zq2p, zq2q, zq2r, zq2s, zq2t, zq2u, zq2v, zq2w, zq2x, zq2y, zq2z, zq30, zq31, zq32, zq33, zq34, zq35, zq36, zq37, zq38, zq39, zq3a, zq3b, zq3c, zq3d, zq3e, zq3f, zq3g, zq3h, zq3i, zq3j, zq3k, zq3l, zq3m, zq3n, zq3o, zq3p, zq3q, zq3r, zq3s, zq3t, zq3u, zq3v, zq3w, zq3x, zq3y, zq3z, zq40, zq41, zq42, zq43, zq44, zq45, zq46, zq47, zq48, zq49, zq4a, zq4b, zq4c, zq4d, zq4e, zq4f, zq4g, zq4h, zq4i, zq4j, zq4k, zq4l, zq4m, zq4n, zq4o, zq4p, zq4q, zq4r, zq4s, zq4t, zq4u, zq4v, zq4w, zq4x, zq4y, zq4z, zq50, zq51, zq52, zq53, zq54, zq55, zq56, zq57, zq58, zq59, zq5a, zq5b, zq5c, zq5d, zq5e, zq5f, zq5g, zq5h, zq5i, zq5j, zq5k, zq5l, zq5m, zq5n, zq5o, zq5p, zq5q, zq5r, zq5s, zq5t, zq5u, zq5v, zq5w, zq5x, zq5y, zq5z, zq60, zq61, zq62, zq63, zq64, zq65, zq66, zq67, zq68, zq69, zq6a, zq6b, zq6c, zq6d, zq6e, zq6f, zq6g, zq6h, zq6i, zq6j, zq6k, zq6l, zq6m, zq6n, zq6o, zq6p, zq6q, zq6r, zq6s, zq6t, zq6u, zq6v, zq6w, zq6x, zq6y, zq6z, zq70, zq71, zq72, zq73, zq74, zq75, zq76, zq77, zq78, zq79, zq7a, zq7b, zq7c, zq7d, zq7e, zq7f, zq7g, zq7h, zq7i, zq7j, zq7k, zq7l, zq7m, zq7n, zq7o, zq7p, zq7q, zq7r, reduceIte, Nat.reduceEqDiff, List.map_cons, List.map_nil, Option.map_some, Option.map_none, and_true, true_and, Nat.zero_add, Nat.add_zero, Nat.mul_one, Nat.reduceAdd, Nat.reduceMul, List.getElem?_toArray, List.getElem?_cons_zero, List.getElem?_cons_succ, Array.size_append, List.size_toArray, List.length_cons, List.length_nil, Bool.not_true, Bool.not_false, Int.toNat_natCast, List.append_toArray, List.cons_append, List.nil_append, List.set_cons_zero, List.set_cons_succ, Nat.reduceLT, Int.reduceEq, Int.reduceToNat, Int.reduceMul, decide_true, decide_false, bne_self_eq_false, beq_self_eq_true, ne_eq, not_false_eq_true, reduceCtorEq, *]))
    all_goals
      refine ⟨_, rfl, ?_⟩
      first | (simp only [argF, argU, dF, if_true, *]; done) | (exfalso; simp_all; done)
  · rw [decide_eq_false hz] at f4
    repeat' (first | (with_reducible refine gcond_split (fun _ => ?_) (fun _ => ?_)) | (with_reducible refine vcond_dec_split (fun _ => ?_) (fun _ => ?_)) | (with_reducible refine vcond_eq_split (fun _ => ?_) (fun _ => ?_)) | (with_reducible refine vcond_ne_split (fun _ => ?_) (fun _ => ?_)) | (with_reducible refine vcond_split (fun _ => ?_) (fun _ => ?_)) | (with_reducible refine bnd_go (by omega) (by omega) ?_) | (with_reducible refine nn_go (by omega) ?_) | (with_reducible refine dops_go (fun _ _ _ => True) ?_) | (with_reducible refine bops_go ?_) | (with_reducible intro _ hfr; simp only [fr_cons, fr_nil, and_true] at hfr) | (with_reducible intro _ _) | (simp only [zq00, zq01, zq02, zq03, zq04, zq05, zq06, zq07, zq08, zq09, zq0a, zq0b, zq0c, zq0d, zq0e, zq0f, zq0g, zq0h, zq0i, zq0j, zq0k, zq0l, zq0m, zq0n, zq0o, zq0p, zq0q, zq0r, zq0s, zq0t, zq0u, zq0v, zq0w, zq0x, zq0y, zq0z, zq10, zq11, zq12, zq13, zq14, zq15, zq16, zq17, zq18, zq19, zq1a, zq1b, zq1c, zq1d, zq1e, zq1f, zq1g, zq1h, zq1i, zq1j, zq1k, zq1l, zq1m, zq1n, zq1o, zq1p, zq1q, zq1r, zq1s, zq1t, zq1u, zq1v, zq1w, zq1x, zq1y, zq1z, zq20, zq21, zq22, zq23, zq24, zq25, zq26, zq27, zq28, zq29, zq2a, zq2b, zq2c, zq2d, zq2e, zq2f, zq2g, zq2h, zq2i, zq2j, zq2k, zq2l, zq2m, zq2n, zq2o, zq2p, zq2q, zq2r, zq2s, zq2t, zq2u, zq2v, zq2w, zq2x, zq2y, zq2z, zq30, zq31, zq32, zq33, zq34, zq35, zq36, zq37, zq38, zq39, zq3a, zq3b, zq3c, zq3d, zq3e, zq3f, zq3g, zq3h, zq3i, zq3j, zq3k, zq3l, zq3m, zq3n, zq3o, zq3p, zq3q, zq3r, zq3s, zq3t, zq3u, zq3v, zq3w, zq3x, zq3y, zq3z, zq40, zq41, zq42, zq43, zq44, zq45, zq46, zq47, zq48, zq49, zq4a, zq4b, zq4c, zq4d, zq4e, zq4f, zq4g, zq4h, zq4i, zq4j, zq4k, zq4l, zq4m, zq4n, zq4o, zq4p, zq4q, zq4r, zq4s, zq4t, zq4u, zq4v, zq4w, zq4x, zq4y, zq4z, zq50, zq51, zq52, zq53, zq54, zq55, zq56, zq57, zq58, zq59, zq5a, zq5b, zq5c, zq5d, zq5e, zq5f, zq5g, zq5h, zq5i, zq5j, zq5k, zq5l, zq5m, zq5n, zq5o, zq5p, zq5q, zq5r, zq5s, zq5t, zq5u, zq5v, zq5w, zq5x, zq5y, zq5z, zq60, zq61, zq62, zq63, zq64, zq65, zq66, zq67, zq68, zq69, zq6a, zq6b, zq6c, zq6d, zq6e, zq6f, zq6g, zq6h, zq6i, zq6j, zq6k, zq6l, zq6m, zq6n, zq6o, zq6p, zq6q, zq6r, zq6s, zq6t, zq6u, zq6v, zq6w, zq6x, zq6y, zq6z, zq70, zq71, zq72, zq73, zq74, zq75, zq76, zq77, zq78, zq79, zq7a, zq7b, zq7c, zq7d, zq7e, zq7f, zq7g, zq7h, zq7i, zq7j, zq7k, zq7l, zq7m, zq7n, zq7o, zq7p, zq7q, zq7r, reduceIte, Nat.reduceEqDiff, List.map_cons, List.map_nil, Option.map_some, Option.map_none, and_true, true_and, Nat.zero_add, Nat.add_zero, Nat.mul_one, Nat.reduceAdd, Nat.reduceMul, List.getElem?_toArray, List.getElem?_cons_zero, List.getElem?_cons_succ, Array.size_append, List.size_toArray, List.length_cons, List.length_nil, Bool.not_true, Bool.not_false, Int.toNat_natCast, List.append_toArray, List.cons_append, List.nil_append, List.set_cons_zero, List.set_cons_succ, Nat.reduceLT, Int.reduceEq, Int.reduceToNat, Int.reduceMul, decide_true, decide_false, bne_self_eq_false, beq_self_eq_true, ne_eq, not_false_eq_true, reduceCtorEq, *]))
    all_goals
      refine ⟨_, rfl, ?_⟩
      first | (simp only [argF, argU, dF, if_false, *]; done) | (exfalso; simp_all; done)

theorem l03Argument_ok (tr st : Nat) (x0 y0 : Int) (q : Nat) (x y t : Int) (h1 : Near x) (h2 : Near y) (h3 : Near x0) (h4 : Near y0) (w : World) :
    PureC Try.prog 90 #[.agg #[.float .f32 tr, .float .f32 st], .agg #[.int .i8 x0, .int .i8 y0, .float .f32 q], .int .i64 x, .int .i64 y, .int .i64 t] w (IsF (argF (cn .f32 tr) (cn .f32 st) (distC x y x0 y0) t)) := by
  refine pure_of_vc Try.func90 ok_spec_l03Argument rfl There.nil ?_
  unfold c_spec_l03Argument
  unfold Near at h1 h2 h3 h4
  have w1 : IntKind.i64.wrap x0 = x0 := IntWalk.i64_in _ (by omega)
  have w2 : IntKind.i64.wrap y0 = y0 := IntWalk.i64_in _ (by omega)
  have w3 : IntKind.i64.wrap (x - x0) = x - x0 := IntWalk.i64_in _ (by omega)
  have w4 : IntKind.i64.wrap (y - y0) = y - y0 := IntWalk.i64_in _ (by omega)
  have hdx : (x - x0).natAbs ≤ 200 := by omega
  have hdy : (y - y0).natAbs ≤ 200 := by omega
  unfold distC
  generalize hx0 : x - x0 = dx at *
  generalize hy0 : y - y0 = dy at *
  obtain ⟨s1, s2⟩ := sq_of hdx
  obtain ⟨s3, s4⟩ := sq_of hdy
  have hz0 : dx.natAbs * dx.natAbs = 0 ↔ dx = 0 := by rw [Nat.mul_eq_zero]; omega
  have hz1 : dy.natAbs * dy.natAbs = 0 ↔ dy = 0 := by rw [Nat.mul_eq_zero]; omega
  generalize dx.natAbs * dx.natAbs = A at *
  generalize dy.natAbs * dy.natAbs = B at *
  have w5 : IntKind.i64.wrap (A : Int) = (A : Int) := IntWalk.i64_in _ (by omega)
  have w6 : IntKind.i64.wrap (B : Int) = (B : Int) := IntWalk.i64_in _ (by omega)
  have w7 : IntKind.i64.wrap ((A : Int) + (B : Int)) = ((A + B : Nat) : Int) := by rw [IntWalk.i64_in _ (by omega)]; omega
  have hz2 : A + B = 0 ↔ (dx = 0 ∧ dy = 0) := by rw [← hz0, ← hz1]; omega
  clear hdx hdy s2 s4 h1 h2 h3 h4 hz0 hz1
  generalize A + B = C at *
  by_cases e1 : dx = 0
  · by_cases e2 : dy = 0
    · obtain rfl : C = 0 := hz2.2 ⟨e1, e2⟩
      have e1' : (dx == 0) = true := by simp [e1]
      have e2' : (dy == 0) = true := by simp [e2]
      clear hz2 e1 e2
      repeat' (first | (with_reducible refine gcond_split (fun _ => ?_) (fun _ => ?_)) | (with_reducible refine vcond_dec_split (fun _ => ?_) (fun _ => ?_)) | (with_reducible refine vcond_eq_split (fun _ => ?_) (fun _ => ?_)) | (with_reducible refine vcond_ne_split (fun _ => ?_) (fun _ => ?_)) | (with_reducible refine vcond_split (fun _ => ?_) (fun _ => ?_)) | (with_reducible refine bnd_go (by omega) (by omega) ?_) | (with_reducible refine nn_go (by omega) ?_) | (with_reducible refine bops_go ?_) | (with_reducible intro _ hfr; simp only [fr_cons, fr_nil, and_true] at hfr) | (with_reducible intro _ _) | (simp only [zq00, zq01, zq02, zq03, zq04, zq05, zq06, zq07, zq08, zq09, zq0a, zq0b, zq0c, zq0d, zq0e, zq0f, zq0g, zq0h, zq0i, zq0j, zq0k, zq0l, zq0m, zq0n, zq0o, zq0p, zq0q, zq0r, zq0s, zq0t, zq0u, zq0v, zq0w, zq0x, zq0y, zq0z, zq10, zq11, zq12, zq13, zq14, zq15, zq16, zq17, zq18, zq19, zq1a, zq1b, zq1c, zq1d, zq1e, zq1f, zq1g, zq1h, zq1i, zq1j, zq1k, zq1l, zq1m, zq1n, zq1o, zq1p, zq1q, zq1r, zq1s, zq1t, zq1u, zq1v, zq1w, zq1x, zq1y, zq1z, zq20, zq21, zq22, zq23, zq24, zq25, zq26, zq27, zq28, zq29, zq2a, zq2b, zq2c, zq2d, zq2e, zq2f, zq2g, zq2h, zq2i, zq2j, zq2k, zq2l, zq2m, zq2n, zq2o, zq2p, zq2q, zq2r, zq2s, zq2t, zq2u, zq2v, zq2w, zq2x, zq2y, zq2z, zq30, zq31, zq32, zq33, zq34, zq35, zq36, zq37, zq38, zq39, zq3a, zq3b, zq3c, zq3d, zq3e, zq3f, zq3g, zq3h, zq3i, zq3j, zq3k, zq3l, zq3m, zq3n, zq3o, zq3p, zq3q, zq3r, zq3s, zq3t, zq3u, zq3v, zq3w, zq3x, zq3y, zq3z, zq40, zq41, zq42, zq43, zq44, zq45, zq46, zq47, zq48, zq49, zq4a, zq4b, zq4c, zq4d, zq4e, zq4f, zq4g, zq4h, zq4i, zq4j, zq4k, zq4l, zq4m, zq4n, zq4o, zq4p, zq4q, zq4r, zq4s, zq4t, zq4u, zq4v, zq4w, zq4x, zq4y, zq4z, zq50, zq51, zq52, zq53, zq54, zq55, zq56, zq57, zq58, zq59, zq5a, zq5b, zq5c, zq5d, zq5e, zq5f, zq5g, zq5h, zq5i, zq5j, zq5k, zq5l, zq5m, zq5n, zq5o, zq5p, zq5q, zq5r, zq5s, zq5t, zq5u, zq5v, zq5w, zq5x, zq5y, zq5z, zq60, zq61, zq62, zq63, zq64, zq65, zq66, zq67, zq68, zq69, zq6a, zq6b, zq6c, zq6d, zq6e, zq6f, zq6g, zq6h, zq6i, zq6j, zq6k, zq6l, zq6m, zq6n, zq6o, zq6p, zq6q, zq6r, zq6s, zq6t, zq6u, zq6v, zq6w, zq6x, zq6y, zq6z, zq70, zq71, zq72, zq73, zq74, zq75, zq76, zq77, zq78, zq79, zq7a, zq7b, zq7c, zq7d, zq7e, zq7f, zq7g, zq7h, zq7i, zq7j, zq7k, zq7l, zq7m, zq7n, zq7o, zq7p, zq7q, zq7r, reduceIte, Nat.reduceEqDiff, List.map_cons, List.map_nil, Option.map_some, Option.map_none, and_true, true_and, Nat.zero_add, Nat.add_zero, Nat.mul_one, Nat.reduceAdd, Nat.reduceMul, List.getElem?_toArray, List.getElem?_cons_zero, List.getElem?_cons_succ, Array.size_append, List.size_toArray, List.length_cons, List.length_nil, Bool.not_true, Bool.not_false, Int.toNat_natCast, List.append_toArray, List.cons_append, List.nil_append, List.set_cons_zero, List.set_cons_succ, Nat.reduceLT, Int.reduceEq, Int.reduceToNat, Int.reduceMul, decide_true, decide_false, bne_self_eq_false, beq_self_eq_true, ne_eq, not_false_eq_true, reduceCtorEq, *]))
      all_goals
        refine ⟨_, rfl, ?_⟩
        clear w1 w2 w3 w4 w5 w6 w7 s1 s3 hx0 hy0 e1'
        simp_all [argF, argU, dF]
    · have hz : ¬ C = 0 := fun h => e2 (hz2.1 h).2
      have e1' : (dx == 0) = true := by simp [e1]
      have e2' : (dy == 0) = false := by simp [e2]
      clear hz2 e1 e2
      repeat' (first | (with_reducible refine gcond_split (fun _ => ?_) (fun _ => ?_)) | (with_reducible refine vcond_dec_split (fun _ => ?_) (fun _ => ?_)) | (with_reducible refine vcond_eq_split (fun _ => ?_) (fun _ => ?_)) | (with_reducible refine vcond_ne_split (fun _ => ?_) (fun _ => ?_)) | (with_reducible refine vcond_split (fun _ => ?_) (fun _ => ?_)) | (with_reducible refine bnd_go (by omega) (by omega) ?_) | (with_reducible refine nn_go (by omega) ?_) | (with_reducible refine bops_go ?_) | (with_reducible intro _ hfr; simp only [fr_cons, fr_nil, and_true] at hfr) | (with_reducible intro _ _) | (simp only [zq00, zq01, zq02, zq03, zq04, zq05, zq06, zq07, zq08, zq09, zq0a, zq0b, zq0c, zq0d, zq0e, zq0f, zq0g, zq0h, zq0i, zq0j, zq0k, zq0l, zq0m, zq0n, zq0o, zq0p, zq0q, zq0r, zq0s, zq0t, zq0u, zq0v, zq0w, zq0x, zq0y, zq0z, zq10, zq11, zq12, zq13, zq14, zq15, zq16, zq17, zq18, zq19, zq1a, zq1b, zq1c, zq1d, zq1e, zq1f, zq1g, zq1h, zq1i, zq1j, zq1k, zq1l, zq1m, zq1n, zq1o, zq1p, zq1q, zq1r, zq1s, zq1t, zq1u, zq1v, zq1w, zq1x, zq1y, zq1z, zq20, zq21, zq22, zq23, zq24, zq25, zq26, zq27, zq28, zq29, zq2a, zq2b, zq2c, zq2d, zq2e, zq2f, zq2g, zq2h, zq2i, zq2j, zq2k, zq2l, zq2m, zq2n, zq2o, zq2p, zq2q, zq2r, zq2s, zq2t, zq2u, zq2v, zq2w, zq2x, zq2y, zq2z, zq30, zq31, zq32, zq33, zq34, zq35, zq36, zq37, zq38, zq39, zq3a, zq3b, zq3c, zq3d, zq3e, zq3f, zq3g, zq3h, zq3i, zq3j, zq3k, zq3l, zq3m, zq3n, zq3o, zq3p, zq3q, zq3r, zq3s, zq3t, zq3u, zq3v, zq3w, zq3x, zq3y, zq3z, zq40, zq41, zq42, zq43, zq44, zq45, zq46, zq47, zq48, zq49, zq4a, zq4b, zq4c, zq4d, zq4e, zq4f, zq4g, zq4h, zq4i, zq4j, zq4k, zq4l, zq4m, zq4n, zq4o, zq4p, zq4q, zq4r, zq4s, zq4t, zq4u, zq4v, zq4w, zq4x, zq4y, zq4z, zq50, zq51, zq52, zq53, zq54, zq55, zq56, zq57, zq58, zq59, zq5a, zq5b, zq5c, zq5d, zq5e, zq5f, zq5g, zq5h, zq5i, zq5j, zq5k, zq5l, zq5m, zq5n, zq5o, zq5p, zq5q, zq5r, zq5s, zq5t, zq5u, zq5v, zq5w, zq5x, zq5y, zq5z, zq60, zq61, zq62, zq63, zq64, zq65, zq66, zq67, zq68, zq69, zq6a, zq6b, zq6c, zq6d, zq6e, zq6f, zq6g, zq6h, zq6i, zq6j, zq6k, zq6l, zq6m, zq6n, zq6o, zq6p, zq6q, zq6r, zq6s, zq6t, zq6u, zq6v, zq6w, zq6x, zq6y, zq6z, zq70, zq71, zq72, zq73, zq74, zq75, zq76, zq77, zq78, zq79, zq7a, zq7b, zq7c, zq7d, zq7e, zq7f, zq7g, zq7h, zq7i, zq7j, zq7k, zq7l, zq7m, zq7n, zq7o, zq7p, zq7q, zq7r, reduceIte, Nat.reduceEqDiff, List.map_cons, List.map_nil, Option.map_some, Option.map_none, and_true, true_and, Nat.zero_add, Nat.add_zero, Nat.mul_one, Nat.reduceAdd, Nat.reduceMul, List.getElem?_toArray, List.getElem?_cons_zero, List.getElem?_cons_succ, Array.size_append, List.size_toArray, List.length_cons, List.length_nil, Bool.not_true, Bool.not_false, Int.toNat_natCast, List.append_toArray, List.cons_append, List.nil_append, List.set_cons_zero, List.set_cons_succ, Nat.reduceLT, Int.reduceEq, Int.reduceToNat, Int.reduceMul, decide_true, decide_false, bne_self_eq_false, beq_self_eq_true, ne_eq, not_false_eq_true, reduceCtorEq, *]))
      all_goals
        refine ⟨_, rfl, ?_⟩
        clear w1 w2 w3 w4 w5 w6 w7 s1 s3 hx0 hy0 e1'
        simp_all [argF, argU, dF]
  · have hz : ¬ C = 0 := fun h => e1 (hz2.1 h).1
    have e1' : (dx == 0) = false := by simp [e1]
    clear hz2 e1
    repeat' (first | (with_reducible refine gcond_split (fun _ => ?_) (fun _ => ?_)) | (with_reducible refine vcond_dec_split (fun _ => ?_) (fun _ => ?_)) | (with_reducible refine vcond_eq_split (fun _ => ?_) (fun _ => ?_)) | (with_reducible refine vcond_ne_split (fun _ => ?_) (fun _ => ?_)) | (with_reducible refine vcond_split (fun _ => ?_) (fun _ => ?_)) | (with_reducible refine bnd_go (by omega) (by omega) ?_) | (with_reducible refine nn_go (by omega) ?_) | (with_reducible refine bops_go ?_) | (with_reducible intro _ hfr; simp only [fr_cons, fr_nil, and_true] at hfr) | (with_reducible intro _ _) | (simp only [zq00, zq01, zq02, zq03, zq04, zq05, zq06, zq07, zq08, zq09, zq0a, zq0b, zq0c, zq0d, zq0e, zq0f, zq0g, zq0h, zq0i, zq0j, zq0k, zq0l, zq0m, zq0n, zq0o, zq0p, zq0q, zq0r, zq0s, zq0t, zq0u, zq0v, zq0w, zq0x, zq0y, zq0z, zq10, zq11, zq12, zq13, zq14, zq15, zq16, zq17, zq18, zq19, zq1a, zq1b, zq1c, zq1d, zq1e, zq1f, zq1g, zq1h, zq1i, zq1j, zq1k, zq1l, zq1m, zq1n, zq1o, zq1p, zq1q, zq1r, zq1s, zq1t, zq1u, zq1v, zq1w, zq1x, zq1y, zq1z, zq20, zq21, zq22, zq23, zq24, zq25, zq26, zq27, zq28, zq29, zq2a, zq2b, zq2c, zq2d, zq2e, zq2f, zq2g, zq2h, zq2i, zq2j, zq2k, zq2l, zq2m, zq2n, zq2o, zq2p, zq2q, zq2r, zq2s, zq2t, zq2u, zq2v, zq2w, zq2x, zq2y, zq2z, zq30, zq31, zq32, zq33, zq34, zq35, zq36, zq37, zq38, zq39, zq3a, zq3b, zq3c, zq3d, zq3e, zq3f, zq3g, zq3h, zq3i, zq3j, zq3k, zq3l, zq3m, zq3n, zq3o, zq3p, zq3q, zq3r, zq3s, zq3t, zq3u, zq3v, zq3w, zq3x, zq3y, zq3z, zq40, zq41, zq42, zq43, zq44, zq45, zq46, zq47, zq48, zq49, zq4a, zq4b, zq4c, zq4d, zq4e, zq4f, zq4g, zq4h, zq4i, zq4j, zq4k, zq4l, zq4m, zq4n, zq4o, zq4p, zq4q, zq4r, zq4s, zq4t, zq4u, zq4v, zq4w, zq4x, zq4y, zq4z, zq50, zq51, zq52, zq53, zq54, zq55, zq56, zq57, zq58, zq59, zq5a, zq5b, zq5c, zq5d, zq5e, zq5f, zq5g, zq5h, zq5i, zq5j, zq5k, zq5l, zq5m, zq5n, zq5o, zq5p, zq5q, zq5r, zq5s, zq5t, zq5u, zq5v, zq5w, zq5x, zq5y, zq5z, zq60, zq61, zq62, zq63, zq64, zq65, zq66, zq67, zq68, zq69, zq6a, zq6b, zq6c, zq6d, zq6e, zq6f, zq6g, zq6h, zq6i, zq6j, zq6k, zq6l, zq6m, zq6n, zq6o, zq6p, zq6q, zq6r, zq6s, zq6t, zq6u, zq6v, zq6w, zq6x, zq6y, zq6z, zq70, zq71, zq72, zq73, zq74, zq75, zq76, zq77, zq78, zq79, zq7a, zq7b, zq7c, zq7d, zq7e, zq7f, zq7g, zq7h, zq7i, zq7j, zq7k, zq7l, zq7m, zq7n, zq7o, zq7p, zq7q, zq7r, reduceIte, Nat.reduceEqDiff, List.map_cons, List.map_nil, Option.map_some, Option.map_none, and_true, true_and, Nat.zero_add, Nat.add_zero, Nat.mul_one, Nat.reduceAdd, Nat.reduceMul, List.getElem?_toArray, List.getElem?_cons_zero, List.getElem?_cons_succ, Array.size_append, List.size_toArray, List.length_cons, List.length_nil, Bool.not_true, Bool.not_false, Int.toNat_natCast, List.append_toArray, List.cons_append, List.nil_append, List.set_cons_zero, List.set_cons_succ, Nat.reduceLT, Int.reduceEq, Int.reduceToNat, Int.reduceMul, decide_true, decide_false, bne_self_eq_false, beq_self_eq_true, ne_eq, not_false_eq_true, reduceCtorEq, *]))
    all_goals
      refine ⟨_, rfl, ?_⟩
      clear w1 w2 w3 w4 w5 w6 w7 s1 s3 hx0 hy0 e1'
      simp_all [argF, argU, dF]

end Go.Proofs.Ytngfhggdombdgaa
