/- Laws over grounds: same, valid, the cells. -/
import Derived.Test.YtdhoaehiocbjaaaValid
namespace Go.Proofs.Ytdhoaehiocbjaaa
open Go Go.Fl Go.Vc
set_option linter.all false
set_option maxRecDepth 10000

theorem toGround_ok (g : G) (w : World) : PureC Try.prog 6 #[.agg (gcells g)] w (· = .agg (gcells g)) := by
  refine pure_of_vc Try.func6 ok_laws_toGround rfl There.nil ?_
  unfold c_laws_toGround
  repeat' (first | (with_reducible refine gcond_split (fun _ => ?_) (fun _ => ?_)) | (with_reducible refine vcond_dec_split (fun _ => ?_) (fun _ => ?_)) | (with_reducible refine vcond_eq_split (fun _ => ?_) (fun _ => ?_)) | (with_reducible refine vcond_ne_split (fun _ => ?_) (fun _ => ?_)) | (with_reducible refine vcond_split (fun _ => ?_) (fun _ => ?_)) | (with_reducible refine bnd_go (by omega) (by omega) ?_) | (with_reducible refine nn_go (by omega) ?_) | (with_reducible refine callG_pure (fun M w0 w H => toField_ok _ w) (fun v hv => ?_); subst hv) | (with_reducible refine bops_go ?_) | (with_reducible refine fops_go ?_) | (with_reducible refine fl_nil ?_) | (with_reducible refine fl_ex (by decide) ?_) | (with_reducible refine fl_non ?_ ?_) | (with_reducible intro _ hfr; simp only [fr_cons, fr_nil, and_true] at hfr) | (with_reducible intro _ _) | (simp only [e00, e01, e02, e03, e04, e05, e06, e07, e08, e09, e0a, e0b, e0c, e0d, e0e, e0f, e0g, e0h, e0i, e0j, e0k, e0l, e0m, e0n, e0o, e0p, e0q, e0r, e0s, e0t, e0u, e0v, e0w, e0x, e0y, e0z, e10, e11, e12, e13, e14, e15, e16, e17, e18, e19, e1a, e1b, e1c, e1d, e1e, e1f, e1g, e1h, e1i, e1j, e1k, e1l, e1m, e1n, e1o, e1p, e1q, e1r, e1s, e1t, e1u, e1v, e1w, e1x, e1y, e1z, e20, e21, e22, e23, e24, e25, e26, e27, e28, e29, e2a, e2b, e2c, e2d, e2e, e2f, e2g, e2h, e2i, e2j, e2k, e2l, e2m, e2n, e2o, e2p, e2q, e2r, e2s, e2t, e2u, e2v, e2w, e2x, e2y, e2z, e30, e31, e32, e33, e34, e35, e36, e37, e38, e39, e3a, e3b, e3c, e3d, e3e, e3f, e3g, e3h, e3i, e3j, e3k, e3l, e3m, e3n, e3o, e3p, e3q, e3r, e3s, e3t, e3u, e3v, e3w, e3x, e3y, e3z, e40, e41, e42, e43, e44, e45, e46, e47, e48, e49, e4a, e4b, e4c, e4d, e4e, e4f, e4g, e4h, e4i, e4j, e4k, e4l, e4m, e4n, e4o, e4p, e4q, e4r, e4s, e4t, e4u, e4v, e4w, e4x, e4y, e4z, e50, e51, e52, e53, e54, e55, e56, e57, e58, e59, e5a, e5b, e5c, e5d, e5e, e5f, e5g, e5h, e5i, e5j, e5k, e5l, e5m, e5n, e5o, e5p, e5q, e5r, e5s, e5t, e5u, e5v, e5w, e5x, e5y, e5z, e60, e61, e62, e63, e64, e65, e66, e67, e68, e69, e6a, e6b, e6c, e6d, e6e, e6f, e6g, e6h, e6i, e6j, e6k, e6l, e6m, e6n, e6o, e6p, e6q, e6r, e6s, e6t, e6u, e6v, e6w, e6x, e6y, e6z, e70, e71, e72, e73, e74, e75, e76, e77, e78, e79, e7a, e7b, e7c, e7d, e7e, e7f, e7g, reduceIte, Nat.reduceEqDiff, List.map_cons, List.map_nil, Option.map_some, Option.map_none, and_true, true_and, Nat.zero_add, Nat.add_zero, Nat.mul_one, Nat.reduceAdd, Nat.reduceMul, List.getElem?_toArray, List.getElem?_cons_zero, List.getElem?_cons_succ, Array.size_append, List.size_toArray, List.length_cons, List.length_nil, Bool.not_true, Bool.not_false, Int.toNat_natCast, List.append_toArray, List.cons_append, List.nil_append, List.set_cons_zero, List.set_cons_succ, Nat.reduceLT, Int.reduceEq, Int.reduceToNat, Int.reduceMul, decide_true, decide_false, bne_self_eq_false, beq_self_eq_true, ne_eq, not_false_eq_true, reduceCtorEq, *]))
  all_goals rfl

/-! ### same grounds -/
def sameG (x y : G) : Bool := (x.wide == y.wide) && (x.high == y.high) && (x.fixed == y.fixed) && sameF x.con y.con && sameF x.gain y.gain && sameF x.heads y.heads

/-! ### the cells -/
def cellsR (g : G) : Int × Int := if okG g then ((bitsOf (cellsTo g 64) : Nat), 0) else (0, 1)
abbrev cellsV (g : G) : Value := .tuple #[.int .u64 (cellsR g).1, .int .i64 (cellsR g).2]

def cellAtR (g : G) (x y : Int) : Int × Int :=
  if okG g then if inB x 0 (IntKind.i64.wrap (g.wide - 1)) then if inB y 0 (IntKind.i64.wrap (g.high - 1)) then (IntKind.i64.wrap (x + IntKind.i64.wrap (8 * y)), 0) else (0, 2) else (0, 2) else (0, 1)
abbrev cellAtV (g : G) (x y : Int) : Value := .tuple #[.int .i64 (cellAtR g x y).1, .int .i64 (cellAtR g x y).2]

end Go.Proofs.Ytdhoaehiocbjaaa
