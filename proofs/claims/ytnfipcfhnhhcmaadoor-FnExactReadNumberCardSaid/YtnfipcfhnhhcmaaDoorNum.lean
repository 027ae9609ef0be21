/- Single numbers: what the program's and the reference's small functions return. -/
import Derived.Test.YtnfipcfhnhhcmaaDoorVcEq
import Derived.Test.YtnfipcfhnhhcmaaDoorCode0
import Derived.Test.YtnfipcfhnhhcmaaDoorCode1
namespace Go.Proofs.YtnfipcfhnhhcmaaDoor
open Go Go.Fl Go.Vc
set_option linter.all false

/-! ### the plain functions, of canonical words -/
def lt0 (x : Nat) : Bool := fcmp .lss .f32 x (cn .f32 0)
def gt0 (x : Nat) : Bool := fcmp .gtr .f32 x (cn .f32 0)
def ge0 (x : Nat) : Bool := fcmp .geq .f32 x (cn .f32 0)
def ne0 (x : Nat) : Bool := fcmp .neq .f32 x (cn .f32 0)
def nanB (x : Nat) : Bool := fcmp .neq .f32 x x
def plainB (x : Nat) : Bool := if fcmp .geq .f32 x (cn .f32 3380609024) then fcmp .leq .f32 x (cn .f32 1233125376) else false
def amountB (x : Nat) : Bool := if plainB x then ge0 x else false
def finB (x : Nat) : Bool := fcmp .eql .f32 (fop .sub .f32 x x) (cn .f32 0)
def sameB (a b : Nat) : Bool := if nanB (cn .f32 a) || nanB (cn .f32 b) then nanB (cn .f32 a) && nanB (cn .f32 b) else (a : Int) == (b : Int)
def inB (n lo hi : Int) : Bool := if lo ≤ n then decide (n ≤ hi) else false
def jointF (x y : Nat) : Nat := if gt0 x && gt0 y then fop .quo .f32 (fop .mul .f32 (cn .f32 1073741824) (fop .mul .f32 x y)) (fop .add .f32 x y) else cn .f32 0

/-- a float up to its canonical word -/
abbrev IsF (x : Nat) (v : Value) : Prop := ∃ r, v = .float .f32 r ∧ cn .f32 r = x

theorem IsF.mk (r : Nat) : IsF (cn .f32 r) (.float .f32 r) := ⟨r, rfl, rfl⟩

theorem isNaN_ok (a : Nat) (w : World) : PureC Tryd.prog 11 #[.float .f32 a] w (· = .bool (nanB (cn .f32 a))) := by
  refine pure_of_vc Tryd.func11 ok_impl_isNaN rfl There.nil ?_
  simp only [c_impl_isNaN, zq00, zq01, zq02, zq03, zq04, zq05, zq06, zq07, zq08, zq09, zq0a, zq0b, zq0c, zq0d, zq0e, zq0f, zq0g, zq0h, zq0i, zq0j, zq0k, zq0l, zq0m, zq0n, zq0o, zq0p, zq0q, zq0r, zq0s, zq0t, zq0u, zq0v, zq0w, zq0x, zq0y, zq0z, zq10, zq11, zq12, zq13, zq14, zq15, zq16, zq17, zq18, zq19, zq1a, zq1b, zq1c, zq1d, zq1e, zq1f, zq1g, zq1h, zq1i, zq1j, zq1k, zq1l, zq1m, zq1n, zq1o, zq1p, zq1q, zq1r, zq1s, zq1t, zq1u, zq1v, zq1w, zq1x, zq1y, zq1z, zq20, zq21, zq22, zq23, zq24, zq25, zq26, zq27, zq28, zq29, zq2a, zq2b, zq2c, zq2d, zq2e, zq2f, zq2g, zq2h, zq2i, zq2j, zq2k, zq2l, zq2m, zq2n, zq2o, zq2p, zq2q, zq2r, zq2s, zq2t, zq2u, zq2v, zq2w, zq2x, zq2y, zq2z, zq30, zq31, zq32, zq33, zq34, zq35, zq36, zq37, zq38, zq39, zq3a, zq3b, zq3c, zq3d, zq3e, zq3f, zq3g, zq3h, zq3i, zq3j, zq3k, zq3l, zq3m, zq3n, zq3o, zq3p, zq3q, zq3r, zq3s, zq3t, zq3u, zq3v, zq3w, zq3x, zq3y, zq3z, zq40, zq41, zq42, zq43, zq44, zq45, zq46, zq47, zq48, zq49, zq4a, zq4b, zq4c, zq4d, zq4e, zq4f, zq4g, zq4h, zq4i, zq4j, zq4k, zq4l, zq4m, zq4n, zq4o, zq4p, zq4q, zq4r, zq4s, zq4t, zq4u, zq4v, zq4w, zq4x, zq4y, zq4z, zq50, zq51, zq52, zq53, zq54, zq55, zq56, zq57, zq58, zq59, zq5a, zq5b, zq5c, zq5d, zq5e, zq5f, zq5g, zq5h, zq5i, zq5j, zq5k, zq5l, zq5m, zq5n, zq5o, zq5p, zq5q, zq5r, zq5s, zq5t, zq5u, zq5v, zq5w, zq5x, zq5y, zq5z, zq60, zq61, zq62, zq63, zq64, zq65, zq66, zq67, zq68, zq69, zq6a, zq6b, zq6c, zq6d, zq6e, zq6f, zq6g, zq6h, zq6i, zq6j, zq6k, zq6l, zq6m, zq6n, zq6o, zq6p, zq6q, zq6r, zq6s, zq6t, zq6u, zq6v, zq6w, zq6x, zq6y, zq6z, zq70, zq71, zq72, zq73, zq74, zq75, zq76, zq77, zq78, zq79, zq7a, zq7b, zq7c, zq7d, zq7e, zq7f, zq7g, zq7h, zq7i, zq7j, zq7k, zq7l, zq7m, zq7n, zq7o, zq7p, zq7q, zq7r, zq7s, zq7t, zq7u, zq7v, zq7w, zq7x, zq7y, zq7z, zq80, zq81, zq82, zq83, reduceIte, Nat.reduceEqDiff, List.map_cons, List.map_nil, Option.map_some, Option.map_none, and_true, true_and, Nat.zero_add, Nat.add_zero, Nat.mul_one, Nat.reduceAdd, Nat.reduceMul, List.getElem?_toArray, List.getElem?_cons_zero, List.getElem?_cons_succ, Array.size_append, List.size_toArray, List.length_cons, List.length_nil, Bool.not_true, Bool.not_false, Int.toNat_natCast, List.append_toArray, List.cons_append, List.nil_append, List.set_cons_zero, List.set_cons_succ, Nat.reduceLT, Int.reduceEq, Int.reduceToNat, Int.reduceMul, decide_true, decide_false, bne_self_eq_false, beq_self_eq_true, ne_eq, not_false_eq_true, reduceCtorEq]
  rfl

/-- the law's equality of two floats says yes where the canonical words are one -/
theorem sameFloat_ok (a b : Nat) (h : cn .f64 a = cn .f64 b) (w : World) : PureC Tryd.prog 9 #[.float .f64 a, .float .f64 b] w (· = .bool true) := by
  refine pure_of_vc Tryd.func9 ok_laws_sameFloat rfl There.nil ?_
  unfold c_laws_sameFloat
  repeat' (first | (with_reducible refine gcond_split (fun _ => ?_) (fun _ => ?_)) | (with_reducible refine vcond_dec_split (fun _ => ?_) (fun _ => ?_)) | (with_reducible refine vcond_eq_split (fun _ => ?_) (fun _ => ?_)) | (with_reducible refine vcond_ne_split (fun _ => ?_) (fun _ => ?_)) | (with_reducible refine vcond_split (fun _ => ?_) (fun _ => ?_)) | (with_reducible refine bnd_go (by omega) (by omega) ?_) | (with_reducible refine nn_go (by omega) ?_) | (with_reducible refine bops_go ?_) | (with_reducible intro _ hfr; simp only [fr_cons, fr_nil, and_true] at hfr) | (with_reducible intro _ _) | (simp only [zq00, zq01, zq02, zq03, zq04, zq05, zq06, zq07, zq08, zq09, zq0a, zq0b, zq0c, zq0d, zq0e, zq0f, zq0g, zq0h, zq0i, zq0j, zq0k, zq0l, zq0m, zq0n, zq0o, zq0p, zq0q, zq0r, zq0s, zq0t, zq0u, zq0v, zq0w, zq0x, zq0y, zq0z, zq10, zq11, zq12, zq13, zq14, zq15, zq16, zq17, zq18, zq19, zq1a, zq1b, zq1c, zq1d, zq1e, zq1f, zq1g, zq1h, zq1i, zq1j, zq1k, zq1l, zq1m, zq1n, zq1o, zq1p, zq1q, zq1r, zq1s, zq1t, zq1u, zq1v, zq1w, zq1x, zq1y, zq1z, zq20, zq21, zq22, zq23, zq24, zq25, zq26, zq27, zq28, zq29, zq2a, zq2b, zq2c, zq2d, zq2e, zq2f, zq2g, zq2h, zq2i, zq2j, zq2k, zq2l, zq2m, zq2n, zq2o, zq2p, zq2q, zq2r, zq2s, zq2t, zq2u, zq2v, zq2w, zq2x, zq2y, zq2z, zq30, zq31, zq32, zq33, zq34, zq35, zq36, zq37, zq38, zq39, zq3a, zq3b, zq3c, zq3d, zq3e, zq3f, zq3g, zq3h, zq3i, zq3j, zq3k, zq3l, zq3m, zq3n, zq3o, zq3p, zq3q, zq3r, zq3s, zq3t, zq3u, zq3v, zq3w, zq3x, zq3y, zq3z, zq40, zq41, zq42, zq43, zq44, zq45, zq46, zq47, zq48, zq49, zq4a, zq4b, zq4c, zq4d, zq4e, zq4f, zq4g, zq4h, zq4i, zq4j, zq4k, zq4l, zq4m, zq4n, zq4o, zq4p, zq4q, zq4r, zq4s, zq4t, zq4u, zq4v, zq4w, zq4x, zq4y, zq4z, zq50, zq51, zq52, zq53, zq54, zq55, zq56, zq57, zq58, zq59, zq5a, zq5b, zq5c, zq5d, zq5e, zq5f, zq5g, zq5h, zq5i, zq5j, zq5k, zq5l, zq5m, zq5n, zq5o, zq5p, zq5q, zq5r, zq5s, zq5t, zq5u, zq5v, zq5w, zq5x, zq5y, zq5z, zq60, zq61, zq62, zq63, zq64, zq65, zq66, zq67, zq68, zq69, zq6a, zq6b, zq6c, zq6d, zq6e, zq6f, zq6g, zq6h, zq6i, zq6j, zq6k, zq6l, zq6m, zq6n, zq6o, zq6p, zq6q, zq6r, zq6s, zq6t, zq6u, zq6v, zq6w, zq6x, zq6y, zq6z, zq70, zq71, zq72, zq73, zq74, zq75, zq76, zq77, zq78, zq79, zq7a, zq7b, zq7c, zq7d, zq7e, zq7f, zq7g, zq7h, zq7i, zq7j, zq7k, zq7l, zq7m, zq7n, zq7o, zq7p, zq7q, zq7r, zq7s, zq7t, zq7u, zq7v, zq7w, zq7x, zq7y, zq7z, zq80, zq81, zq82, zq83, reduceIte, Nat.reduceEqDiff, List.map_cons, List.map_nil, Option.map_some, Option.map_none, and_true, true_and, Nat.zero_add, Nat.add_zero, Nat.mul_one, Nat.reduceAdd, Nat.reduceMul, List.getElem?_toArray, List.getElem?_cons_zero, List.getElem?_cons_succ, Array.size_append, List.size_toArray, List.length_cons, List.length_nil, Bool.not_true, Bool.not_false, Int.toNat_natCast, List.append_toArray, List.cons_append, List.nil_append, List.set_cons_zero, List.set_cons_succ, Nat.reduceLT, Int.reduceEq, Int.reduceToNat, Int.reduceMul, decide_true, decide_false, bne_self_eq_false, beq_self_eq_true, ne_eq, not_false_eq_true, reduceCtorEq]))
  all_goals simp_all [fcmp]

end Go.Proofs.YtnfipcfhnhhcmaaDoor
