/- Helpers: the laws' equality of fields and grounds; loops over a ground's cells as folds; stores into grounds. -/
import Derived.Test.YtdhoaehiocbjaaaLawA
namespace Go.Proofs.Ytdhoaehiocbjaaa
open Go Go.Fl Go.Vc
set_option linter.all false
set_option maxRecDepth 10000

/-- a region whose one callee returns true -/
abbrev trueRf (_ : Nat) (_ : Array Value) (v : Value) : Prop := v = .bool true

theorem eqField_ok (a b : Nat → Nat) (h : ∀ i, i < 64 → cn .f32 (a i) = cn .f32 (b i)) (w : World) : PureC Try.prog 8 #[.agg (fcells a), .agg (fcells b)] w (· = .bool true) := by
  refine pure_of_vc Try.func8 ok_laws_eqField rfl There.nil ?_
  unfold c_laws_eqField
  repeat' (first | (with_reducible refine gcond_split (fun _ => ?_) (fun _ => ?_)) | (with_reducible refine vcond_dec_split (fun _ => ?_) (fun _ => ?_)) | (with_reducible refine vcond_eq_split (fun _ => ?_) (fun _ => ?_)) | (with_reducible refine vcond_ne_split (fun _ => ?_) (fun _ => ?_)) | (with_reducible refine vcond_split (fun _ => ?_) (fun _ => ?_)) | (with_reducible refine bnd_go (by omega) (by omega) ?_) | (with_reducible refine nn_go (by omega) ?_) | (with_reducible refine bops_go ?_) | (with_reducible refine fops_go ?_) | (with_reducible refine fl_nil ?_) | (with_reducible refine fl_ex (by decide) ?_) | (with_reducible refine fl_non ?_ ?_) | (with_reducible intro _ hfr; simp only [fr_cons, fr_nil, and_true] at hfr) | (with_reducible intro _ _) | (simp only [e00, e01, e02, e03, e04, e05, e06, e07, e08, e09, e0a, e0b, e0c, e0d, e0e, e0f, e0g, e0h, e0i, e0j, e0k, e0l, e0m, e0n, e0o, e0p, e0q, e0r, e0s, e0t, e0u, e0v, e0w, e0x, e0y, e0z, e10, e11, e12, e13, e14, e15, e16, e17, e18, e19, e1a, e1b, e1c, e1d, e1e, e1f, e1g, e1h, e1i, e1j, e1k, e1l, e1m, e1n, e1o, e1p, e1q, e1r, e1s, e1t, e1u, e1v, e1w, e1x, e1y, e1z, e20, e21, e22, e23, e24, e25, e26, e27, e28, e29, e2a, e2b, e2c, e2d, e2e, e2f, e2g, e2h, e2i, e2j, e2k, e2l, e2m, e2n, e2o, e2p, e2q, e2r, e2s, e2t, e2u, e2v, e2w, e2x, e2y, e2z, e30, e31, e32, e33, e34, e35, e36, e37, e38, e39, e3a, e3b, e3c, e3d, e3e, e3f, e3g, e3h, e3i, e3j, e3k, e3l, e3m, e3n, e3o, e3p, e3q, e3r, e3s, e3t, e3u, e3v, e3w, e3x, e3y, e3z, e40, e41, e42, e43, e44, e45, e46, e47, e48, e49, e4a, e4b, e4c, e4d, e4e, e4f, e4g, e4h, e4i, e4j, e4k, e4l, e4m, e4n, e4o, e4p, e4q, e4r, e4s, e4t, e4u, e4v, e4w, e4x, e4y, e4z, e50, e51, e52, e53, e54, e55, e56, e57, e58, e59, e5a, e5b, e5c, e5d, e5e, e5f, e5g, e5h, e5i, e5j, e5k, e5l, e5m, e5n, e5o, e5p, e5q, e5r, e5s, e5t, e5u, e5v, e5w, e5x, e5y, e5z, e60, e61, e62, e63, e64, e65, e66, e67, e68, e69, e6a, e6b, e6c, e6d, e6e, e6f, e6g, e6h, e6i, e6j, e6k, e6l, e6m, e6n, e6o, e6p, e6q, e6r, e6s, e6t, e6u, e6v, e6w, e6x, e6y, e6z, e70, e71, e72, e73, e74, e75, e76, e77, e78, e79, e7a, e7b, e7c, e7d, e7e, e7f, e7g, reduceIte, Nat.reduceEqDiff, List.map_cons, List.map_nil, Option.map_some, Option.map_none, and_true, true_and, Nat.zero_add, Nat.add_zero, Nat.mul_one, Nat.reduceAdd, Nat.reduceMul, List.getElem?_toArray, List.getElem?_cons_zero, List.getElem?_cons_succ, Array.size_append, List.size_toArray, List.length_cons, List.length_nil, Bool.not_true, Bool.not_false, Int.toNat_natCast, List.append_toArray, List.cons_append, List.nil_append, List.set_cons_zero, List.set_cons_succ, Nat.reduceLT, Int.reduceEq, Int.reduceToNat, Int.reduceMul, decide_true, decide_false, bne_self_eq_false, beq_self_eq_true, ne_eq, not_false_eq_true, reduceCtorEq, *]))
  rename_i b1 f1 b2
  refine loop_up 64 (fun i ρ h => i ≤ 64 ∧ Env.get ρ 2 = .pointer (some ⟨b1, 0, none⟩) ∧ Env.get ρ 3 = .pointer (some ⟨b2, 0, none⟩) ∧ Env.get ρ 5 = .int .i64 i ∧
    h = [⟨b2, fcells b, 28, true⟩, ⟨b1, fcells a, 28, true⟩]) ⟨by omega, rfl, rfl, rfl, rfl⟩ ?_
  rintro i ρ h' hi ⟨_, e1, e2, e3, rfl⟩
  repeat' (first | (with_reducible refine gcond_split (fun _ => ?_) (fun _ => ?_)) | (with_reducible refine vcond_dec_split (fun _ => ?_) (fun _ => ?_)) | (with_reducible refine vcond_eq_split (fun _ => ?_) (fun _ => ?_)) | (with_reducible refine vcond_ne_split (fun _ => ?_) (fun _ => ?_)) | (with_reducible refine vcond_split (fun _ => ?_) (fun _ => ?_)) | (with_reducible refine bnd_go (by omega) (by omega) ?_) | (with_reducible refine nn_go (by omega) ?_) | (with_reducible refine getV_go (fcells_get _ _ (by omega)) ?_) | (with_reducible refine dops_go trueRf ?_) | ((with_reducible refine callQ_pure (fun M w0 w H => sameFloat_ok _ _ (by have e := h i (by omega); simp only [*]) w) (fun v hv => ?_)); subst hv) | (with_reducible refine bops_go ?_) | (with_reducible refine fops_go ?_) | (with_reducible refine fl_nil ?_) | (with_reducible refine fl_ex (by decide) ?_) | (with_reducible refine fl_non ?_ ?_) | (with_reducible intro _ hfr; simp only [fr_cons, fr_nil, and_true] at hfr) | (with_reducible intro _ _) | (simp only [e00, e01, e02, e03, e04, e05, e06, e07, e08, e09, e0a, e0b, e0c, e0d, e0e, e0f, e0g, e0h, e0i, e0j, e0k, e0l, e0m, e0n, e0o, e0p, e0q, e0r, e0s, e0t, e0u, e0v, e0w, e0x, e0y, e0z, e10, e11, e12, e13, e14, e15, e16, e17, e18, e19, e1a, e1b, e1c, e1d, e1e, e1f, e1g, e1h, e1i, e1j, e1k, e1l, e1m, e1n, e1o, e1p, e1q, e1r, e1s, e1t, e1u, e1v, e1w, e1x, e1y, e1z, e20, e21, e22, e23, e24, e25, e26, e27, e28, e29, e2a, e2b, e2c, e2d, e2e, e2f, e2g, e2h, e2i, e2j, e2k, e2l, e2m, e2n, e2o, e2p, e2q, e2r, e2s, e2t, e2u, e2v, e2w, e2x, e2y, e2z, e30, e31, e32, e33, e34, e35, e36, e37, e38, e39, e3a, e3b, e3c, e3d, e3e, e3f, e3g, e3h, e3i, e3j, e3k, e3l, e3m, e3n, e3o, e3p, e3q, e3r, e3s, e3t, e3u, e3v, e3w, e3x, e3y, e3z, e40, e41, e42, e43, e44, e45, e46, e47, e48, e49, e4a, e4b, e4c, e4d, e4e, e4f, e4g, e4h, e4i, e4j, e4k, e4l, e4m, e4n, e4o, e4p, e4q, e4r, e4s, e4t, e4u, e4v, e4w, e4x, e4y, e4z, e50, e51, e52, e53, e54, e55, e56, e57, e58, e59, e5a, e5b, e5c, e5d, e5e, e5f, e5g, e5h, e5i, e5j, e5k, e5l, e5m, e5n, e5o, e5p, e5q, e5r, e5s, e5t, e5u, e5v, e5w, e5x, e5y, e5z, e60, e61, e62, e63, e64, e65, e66, e67, e68, e69, e6a, e6b, e6c, e6d, e6e, e6f, e6g, e6h, e6i, e6j, e6k, e6l, e6m, e6n, e6o, e6p, e6q, e6r, e6s, e6t, e6u, e6v, e6w, e6x, e6y, e6z, e70, e71, e72, e73, e74, e75, e76, e77, e78, e79, e7a, e7b, e7c, e7d, e7e, e7f, e7g, reduceIte, Nat.reduceEqDiff, List.map_cons, List.map_nil, Option.map_some, Option.map_none, and_true, true_and, Nat.zero_add, Nat.add_zero, Nat.mul_one, Nat.reduceAdd, Nat.reduceMul, List.getElem?_toArray, List.getElem?_cons_zero, List.getElem?_cons_succ, Array.size_append, List.size_toArray, List.length_cons, List.length_nil, Bool.not_true, Bool.not_false, Int.toNat_natCast, List.append_toArray, List.cons_append, List.nil_append, List.set_cons_zero, List.set_cons_succ, Nat.reduceLT, Int.reduceEq, Int.reduceToNat, Int.reduceMul, decide_true, decide_false, bne_self_eq_false, beq_self_eq_true, ne_eq, not_false_eq_true, reduceCtorEq, e1, e2, e3, hfr.1, hfr.2]))
  exact again_up (by omega) ⟨by omega, e1, e2, congrArg (Value.int .i64) (wsucc (by omega)), rfl⟩

/-! ### stores into grounds and fields, at a cell -/
section
variable {h : Hp} {kv : Value → Hp → Prop} {b b' T i r : Nat} {g : G} {f : Nat → Nat}
theorem store_con (hi : i < 64) (hk : kv undef (upd h b (gcells { g with con := upn g.con i r }))) : vstoreAt 1 b (2 + i) (.float .f32 r) h kv (some ⟨b', gcells g, T, true⟩) :=
  store_f (by rw [gcells_size]; omega) (by rw [g_set_con _ _ _ hi]; exact hk)
theorem store_gain (hi : i < 64) (hk : kv undef (upd h b (gcells { g with gain := upn g.gain i r }))) : vstoreAt 1 b (66 + i) (.float .f32 r) h kv (some ⟨b', gcells g, T, true⟩) :=
  store_f (by rw [gcells_size]; omega) (by rw [g_set_gain _ _ _ hi]; exact hk)
theorem store_heads (hi : i < 64) (hk : kv undef (upd h b (gcells { g with heads := upn g.heads i r }))) : vstoreAt 1 b (130 + i) (.float .f32 r) h kv (some ⟨b', gcells g, T, true⟩) :=
  store_f (by rw [gcells_size]; omega) (by rw [g_set_heads _ _ _ hi]; exact hk)
theorem store_fld (hi : i < 64) (hk : kv undef (upd h b (fcells (upn f i r)))) : vstoreAt 1 b i (.float .f32 r) h kv (some ⟨b', fcells f, T, true⟩) :=
  store_f (by rw [fcells_size]; omega) (by rw [f_set _ _ _ hi]; exact hk)
end

theorem fill_one {place : Nat → Option (Nat × Nat)} {i off : Nat} {cs : Array Value} {v : Value} {rest : List (Nat × Value)} (hp : place i = some (off, 1)) (hs : v.cells = #[v]) (ho : off < cs.size) :
    Instr.fill place cs ((i, v) :: rest) = Instr.fill place (cs.setIfInBounds off v) rest := by
  rw [Instr.fill, hp]
  simp only [hs]
  rw [if_neg (by simp; omega)]
  simp

theorem build_g {k : Value → Prop} {x y : Int} {n : Int} (hk : k (.agg (gcells ⟨x, y, fz, fz, fz, n⟩))) :
    vbuild [(0, 1), (1, 1), (2, 64), (66, 64), (130, 64), (194, 1)] (gcells gz) [(0, .int .i8 x), (1, .int .i8 y), (5, .int .u64 n)] k := by
  unfold vbuild
  rw [fill_one (off := 0) rfl rfl (by rw [gcells_size]; omega), g_set_wide, fill_one (off := 1) rfl rfl (by rw [gcells_size]; omega), g_set_high, fill_one (off := 194) rfl rfl (by rw [gcells_size]; omega), g_set_fixed]
  exact hk

/-! ### folds over the cells -/
def overC {α : Type} (g : G) (f : α → Nat → α) (a : α) (i : Nat) : α := (cellsTo g i).foldl f a
def overL {α : Type} (l : List Nat) (f : α → Nat → α) (a : α) (i : Nat) : α := (l.take i).foldl f a
section
variable {α : Type} {g : G} {f : α → Nat → α} {a : α} {i : Nat} {l : List Nat}
theorem overC_yes (h : isC g i = true) : overC g f a (i + 1) = f (overC g f a i) i := by
  unfold overC; rw [cellsTo_succ, if_pos h]; simp
theorem overC_no (h : isC g i = false) : overC g f a (i + 1) = overC g f a i := by
  unfold overC; rw [cellsTo_succ, if_neg (by simp [h])]
theorem overL_succ (h : i < l.length) : overL l f a (i + 1) = f (overL l f a i) (l.getD i 0) := by
  unfold overL; rw [take_snoc h]; simp
theorem overL_all : overL l f a l.length = l.foldl f a := by unfold overL; rw [List.take_length]
theorem overC_ind {P : α → Prop} (h0 : P a) (hs : ∀ a c, c < i → isC g c = true → P a → P (f a c)) : P (overC g f a i) := by
  unfold overC
  have : ∀ (l : List Nat) (a : α), P a → (∀ c ∈ l, c < i ∧ isC g c = true) → P (l.foldl f a) := by
    intro l
    induction l with
    | nil => intro a h _; exact h
    | cons c l ih => intro a h hl; exact ih _ (hs a c (hl c List.mem_cons_self).1 (hl c List.mem_cons_self).2 h) fun d hd => hl d (List.mem_cons_of_mem _ hd)
  exact this _ _ h0 fun c hc => cellsTo_mem.1 hc
theorem overL_ind {P : α → Prop} (h0 : P a) (hs : ∀ a c, c ∈ l → P a → P (f a c)) : P (overL l f a i) := by
  unfold overL
  have : ∀ (m : List Nat) (a : α), P a → (∀ c ∈ m, c ∈ l) → P (m.foldl f a) := by
    intro m
    induction m with
    | nil => intro a h _; exact h
    | cons c m ih => intro a h hl; exact ih _ (hs a c (hl c List.mem_cons_self) h) fun d hd => hl d (List.mem_cons_of_mem _ hd)
  exact this _ _ h0 fun c hc => List.mem_of_mem_take hc
end

theorem isC_congr {s g : G} (h1 : s.wide = g.wide) (h2 : s.high = g.high) (n : Nat) : isC s n = isC g n := by unfold isC; rw [h1, h2]

/-- the cell at a place of the list -/
theorem cell_at {g : G} {i : Nat} (h : i < (cellsTo g 64).length) : (cellsTo g 64).getD i 0 < 64 ∧ isC g ((cellsTo g 64).getD i 0) = true := by
  have hm : (cellsTo g 64).getD i 0 ∈ cellsTo g 64 := by simp [h]
  exact cellsTo_mem.1 hm

theorem lt_true {a b : Nat} (h : a < b) : ((a : Int) < (b : Int)) = True := by simp; omega
theorem lt_false {a b : Nat} (h : b ≤ a) : ((a : Int) < (b : Int)) = False := by simp; omega

/-! ### fixed cells -/
def fixB (f : Int) (n : Nat) : Bool := ((f.fdiv (2 ^ n)).tmod 2 == 1)

theorem and_one {x : Int} (h : 0 ≤ x ∧ x < 2 ^ 64) : ibits .and .u64 x 1 = x.tmod 2 := by
  obtain ⟨n, rfl⟩ : ∃ n : Nat, x = (n : Int) := ⟨x.toNat, by omega⟩
  have hn : n < 2 ^ 64 := by omega
  simp only [ibits]
  have e1 : (BitVec.ofInt IntKind.u64.bits (n : Int) &&& BitVec.ofInt IntKind.u64.bits 1).toNat = n % 2 := by
    show (BitVec.ofInt 64 (n : Int) &&& BitVec.ofInt 64 ((1 : Nat) : Int)).toNat = n % 2
    rw [BitVec.ofInt_natCast, BitVec.ofInt_natCast, BitVec.toNat_and, BitVec.toNat_ofNat, BitVec.toNat_ofNat, Nat.mod_eq_of_lt hn, Nat.mod_eq_of_lt (by decide), Nat.and_one_is_mod]
  rw [e1]
  rw [IntWalk.u64_in _ (by omega)]
  rfl

theorem shr_range {f : Int} {n : Nat} (h : 0 ≤ f ∧ f < 2 ^ 64) : 0 ≤ f.fdiv (2 ^ n) ∧ f.fdiv (2 ^ n) < 2 ^ 64 := by
  obtain ⟨m, rfl⟩ : ∃ m : Nat, f = (m : Int) := ⟨f.toNat, by omega⟩
  have e : ((m : Int).fdiv (2 ^ n)) = ((m / 2 ^ n : Nat) : Int) := by
    rw [Int.fdiv_eq_ediv_of_nonneg _ (by exact_mod_cast Nat.zero_le _)]
    norm_cast
  rw [e]
  have : m / 2 ^ n ≤ m := Nat.div_le_self _ _
  generalize m / 2 ^ n = q at *
  omega

theorem min64 {n : Nat} (h : n < 64) : min n IntKind.u64.bits = n := Nat.min_eq_left (by show n ≤ 64; omega)
theorem u64n {n : Nat} (h : n < 64) : IntKind.u64.wrap (n : Int) = n := IntWalk.u64_in _ (by omega)

end Go.Proofs.Ytdhoaehiocbjaaa
