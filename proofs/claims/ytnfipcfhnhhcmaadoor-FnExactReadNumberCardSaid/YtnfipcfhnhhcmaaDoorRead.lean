/- Text as a number: the reference. -/
import Derived.Test.YtnfipcfhnhhcmaaDoorHex
namespace Go.Proofs.YtnfipcfhnhhcmaaDoor
open Go Go.Fl Go.Vc
set_option linter.all false
set_option maxRecDepth 10000

theorem ba_at (l : List UInt8) (i : Nat) : (⟨l.toArray⟩ : ByteArray)[i]? = l[i]? := by
  rw [getElem?_def]
  split
  · rename_i h
    have h' : i < l.length := h
    rw [List.getElem?_eq_getElem h']
    rfl
  · rename_i h
    have h' : ¬ i < l.length := h
    rw [List.getElem?_eq_none (by omega)]
theorem ba_size (l : List UInt8) : (⟨l.toArray⟩ : ByteArray).size = l.length := rfl

theorem hexN_succ (u n : Nat) : hexN u (n + 1) = hexN (u / 16) n ++ [digB (u % 16)] := by
  apply List.ext_getElem
  · rw [List.length_append, hexN_length, hexN_length]; rfl
  · intro j h1 h2
    rw [hexN_length] at h1
    rw [hexN_at h1]
    by_cases e : j < n
    · rw [List.getElem_append_left (by rw [hexN_length]; exact e), hexN_at e, Nat.div_div_eq_div_mul, ← Nat.pow_succ']
      congr 4
      omega
    · obtain rfl : j = n := by omega
      rw [List.getElem_append_right (by rw [hexN_length]; omega)]
      simp [hexN_length]

theorem digB_inj {a b : Nat} (ha : a < 16) (hb : b < 16) (h : digB a = digB b) : a = b := by
  have : ∀ a, a < 16 → ∀ b, b < 16 → digB a = digB b → a = b := by decide
  exact this a ha b hb h

theorem hexN_inj : ∀ (n : Nat) {u v : Nat}, u < 16 ^ n → v < 16 ^ n → hexN u n = hexN v n → u = v
  | 0, u, v, hu, hv, _ => by simp at hu hv; omega
  | n + 1, u, v, hu, hv, h => by
    rw [hexN_succ, hexN_succ] at h
    obtain ⟨h1, h2⟩ := List.append_inj h (by rw [hexN_length, hexN_length])
    rw [Nat.pow_succ] at hu hv
    have e1 := hexN_inj n (Nat.div_lt_of_lt_mul (by omega)) (Nat.div_lt_of_lt_mul (by omega)) h1
    have e2 := digB_inj (Nat.mod_lt _ (by decide)) (Nat.mod_lt _ (by decide)) (List.cons.inj h2).1
    omega

/-- a byte that is a digit -/
theorem dig_lo {c : UInt8} (h1 : 48 ≤ c.toNat) (h2 : c.toNat ≤ 57) : digB (c.toNat - 48) = c := by
  apply UInt8.toNat_inj.1
  rw [digB_nat (by omega)]
  unfold dig
  rw [if_pos (by omega)]
  omega
theorem dig_hi {c : UInt8} (h1 : 97 ≤ c.toNat) (h2 : c.toNat ≤ 102) : digB (c.toNat - 87) = c := by
  apply UInt8.toNat_inj.1
  rw [digB_nat (by omega)]
  unfold dig
  rw [if_neg (by omega)]
  omega
theorem dig_rng {d : Nat} (h : d < 16) : (48 ≤ (digB d).toNat ∧ (digB d).toNat ≤ 57 ∧ d = (digB d).toNat - 48) ∨ (97 ≤ (digB d).toNat ∧ (digB d).toNat ≤ 102 ∧ d = (digB d).toNat - 87) := by
  rw [digB_nat h]
  unfold dig
  split
  · left; omega
  · right; omega

/-- a text that the reference reads -/
def Good (l : List UInt8) (m : Nat) : Prop := m < 4294967296 ∧ l = hexN m 8 ∧ bitsW m = m
def Rd1 (l : List UInt8) (v : Value) : Prop :=
  (∃ m, Good l m ∧ v = .tuple #[.float .f32 m, .bool true]) ∨ ((¬ ∃ m, Good l m) ∧ ∃ x, v = .tuple #[.float .f32 x, .bool false])

theorem not_good_len {l : List UInt8} (h : l.length ≠ 8) : ¬ ∃ m, Good l m := by
  rintro ⟨m, _, h2, _⟩
  apply h
  rw [h2, hexN_length]

theorem not_good_dig {l : List UInt8} {i : Nat} {c : UInt8} (hx : l[i]? = some c) (hn : ¬ (48 ≤ c.toNat ∧ c.toNat ≤ 57) ∧ ¬ (97 ≤ c.toNat ∧ c.toNat ≤ 102)) : ¬ ∃ m, Good l m := by
  rintro ⟨m, _, h2, _⟩
  subst h2
  have hi : i < 8 := by
    rcases Nat.lt_or_ge i 8 with h | h
    · exact h
    · rw [List.getElem?_eq_none (by rw [hexN_length]; exact h)] at hx; cases hx
  rw [List.getElem?_eq_getElem (by rw [hexN_length]; exact hi), hexN_at hi] at hx
  cases hx
  rcases dig_rng (d := m / 16 ^ (8 - 1 - i) % 16) (Nat.mod_lt _ (by decide)) with h | h <;> omega

/-- one digit more -/
theorem take_dig {l : List UInt8} {i u d : Nat} {c : UInt8} (hx : l[i]? = some c) (hu : u < 16 ^ i) (ht : l.take i = hexN u i) (hd : d < 16) (hc : digB d = c) : u * 16 + d < 16 ^ (i + 1) ∧ l.take (i + 1) = hexN (u * 16 + d) (i + 1) := by
  refine ⟨by rw [Nat.pow_succ]; omega, ?_⟩
  rw [hexN_succ, show (u * 16 + d) / 16 = u by omega, show (u * 16 + d) % 16 = d by omega, List.take_succ, hx, ht, hc]
  rfl

theorem word_lo {u x : Nat} (hu : u * 16 + 15 < 4294967296) (h1 : 48 ≤ x) (h2 : x ≤ 57) : IntKind.u32.wrap (IntKind.u32.wrap ((u : Int) * 16) + IntKind.u32.wrap (IntKind.u8.wrap ((x : Int) - 48))) = ((u * 16 + (x - 48) : Nat) : Int) := by
  show ((((u : Int) * 16) % 4294967296) + ((((x : Int) - 48) % 256) % 4294967296)) % 4294967296 = _
  omega
theorem word_hi {u x : Nat} (hu : u * 16 + 15 < 4294967296) (h1 : 97 ≤ x) (h2 : x ≤ 102) : IntKind.u32.wrap (IntKind.u32.wrap (IntKind.u32.wrap ((u : Int) * 16) + IntKind.u32.wrap (IntKind.u8.wrap ((x : Int) - 97))) + 10) = ((u * 16 + (x - 87) : Nat) : Int) := by
  show (((((u : Int) * 16) % 4294967296) + ((((x : Int) - 97) % 256) % 4294967296)) % 4294967296 + 10) % 4294967296 = _
  omega
theorem pow_room {u i : Nat} (hi : i < 8) (hu : u < 16 ^ i) : u * 16 + 15 < 4294967296 := by
  have : 16 ^ i ≤ 16 ^ 7 := Nat.pow_le_pow_right (by decide) (by omega)
  omega

theorem l01Read_ok (l : List UInt8) (w : World) : PureC Tryd.prog 15 #[.string ⟨l.toArray⟩] w (Rd1 l) := by
  refine pure_of_vc Tryd.func15 ok_spec_l01Read rfl There.nil ?_
  unfold c_spec_l01Read
  by_cases hlen : l.length = 8
  · have e0 : (((l.length : Nat) : Int) != 8) = false := by rw [hlen]; rfl
    repeat' (first | (with_reducible refine gcond_split (fun _ => ?_) (fun _ => ?_)) | (with_reducible refine vcond_dec_split (fun _ => ?_) (fun _ => ?_)) | (with_reducible refine vcond_eq_split (fun _ => ?_) (fun _ => ?_)) | (with_reducible refine vcond_ne_split (fun _ => ?_) (fun _ => ?_)) | (with_reducible refine vcond_split (fun _ => ?_) (fun _ => ?_)) | (with_reducible refine bnd_go (by omega) (by omega) ?_) | (with_reducible refine nn_go (by omega) ?_) | (with_reducible refine bops_go ?_) | (with_reducible intro _ hfr; simp only [fr_cons, fr_nil, and_true] at hfr) | (with_reducible intro _ _) | (simp only [zq00, zq01, zq02, zq03, zq04, zq05, zq06, zq07, zq08, zq09, zq0a, zq0b, zq0c, zq0d, zq0e, zq0f, zq0g, zq0h, zq0i, zq0j, zq0k, zq0l, zq0m, zq0n, zq0o, zq0p, zq0q, zq0r, zq0s, zq0t, zq0u, zq0v, zq0w, zq0x, zq0y, zq0z, zq10, zq11, zq12, zq13, zq14, zq15, zq16, zq17, zq18, zq19, zq1a, zq1b, zq1c, zq1d, zq1e, zq1f, zq1g, zq1h, zq1i, zq1j, zq1k, zq1l, zq1m, zq1n, zq1o, zq1p, zq1q, zq1r, zq1s, zq1t, zq1u, zq1v, zq1w, zq1x, zq1y, zq1z, zq20, zq21, zq22, zq23, zq24, zq25, zq26, zq27, zq28, zq29, zq2a, zq2b, zq2c, zq2d, zq2e, zq2f, zq2g, zq2h, zq2i, zq2j, zq2k, zq2l, zq2m, zq2n, zq2o, zq2p, zq2q, zq2r, zq2s, zq2t, zq2u, zq2v, zq2w, zq2x, zq2y, zq2z, zq30, zq31, zq32, zq33, zq34, zq35, zq36, zq37, zq38, zq39, zq3a, zq3b, zq3c, zq3d, zq3e, zq3f, zq3g, zq3h, zq3i, zq3j, zq3k, zq3l, zq3m, zq3n, zq3o, zq3p, zq3q, zq3r, zq3s, zq3t, zq3u, zq3v, zq3w, zq3x, zq3y, zq3z, zq40, zq41, zq42, zq43, zq44, zq45, zq46, zq47, zq48, zq49, zq4a, zq4b, zq4c, zq4d, zq4e, zq4f, zq4g, zq4h, zq4i, zq4j, zq4k, zq4l, zq4m, zq4n, zq4o, zq4p, zq4q, zq4r, zq4s, zq4t, zq4u, zq4v, zq4w, zq4x, zq4y, zq4z, zq50, zq51, zq52, zq53, zq54, zq55, zq56, zq57, zq58, zq59, zq5a, zq5b, zq5c, zq5d, zq5e, zq5f, zq5g, zq5h, zq5i, zq5j, zq5k, zq5l, zq5m, zq5n, zq5o, zq5p, zq5q, zq5r, zq5s, zq5t, zq5u, zq5v, zq5w, zq5x, zq5y, zq5z, zq60, zq61, zq62, zq63, zq64, zq65, zq66, zq67, zq68, zq69, zq6a, zq6b, zq6c, zq6d, zq6e, zq6f, zq6g, zq6h, zq6i, zq6j, zq6k, zq6l, zq6m, zq6n, zq6o, zq6p, zq6q, zq6r, zq6s, zq6t, zq6u, zq6v, zq6w, zq6x, zq6y, zq6z, zq70, zq71, zq72, zq73, zq74, zq75, zq76, zq77, zq78, zq79, zq7a, zq7b, zq7c, zq7d, zq7e, zq7f, zq7g, zq7h, zq7i, zq7j, zq7k, zq7l, zq7m, zq7n, zq7o, zq7p, zq7q, zq7r, zq7s, zq7t, zq7u, zq7v, zq7w, zq7x, zq7y, zq7z, zq80, zq81, zq82, zq83, reduceIte, Nat.reduceEqDiff, List.map_cons, List.map_nil, Option.map_some, Option.map_none, and_true, true_and, Nat.zero_add, Nat.add_zero, Nat.mul_one, Nat.reduceAdd, Nat.reduceMul, List.getElem?_toArray, List.getElem?_cons_zero, List.getElem?_cons_succ, Array.size_append, List.size_toArray, List.length_cons, List.length_nil, Bool.not_true, Bool.not_false, Int.toNat_natCast, List.append_toArray, List.cons_append, List.nil_append, List.set_cons_zero, List.set_cons_succ, Nat.reduceLT, Int.reduceEq, Int.reduceToNat, Int.reduceMul, decide_true, decide_false, bne_self_eq_false, beq_self_eq_true, ne_eq, not_false_eq_true, reduceCtorEq, ba_size, e0]))
    refine loop_up 8 (fun i ρ h => i ≤ 8 ∧ Env.get ρ 0 = .string ⟨l.toArray⟩ ∧ Env.get ρ 5 = .int .i64 ((i : Nat) : Int) ∧ ∃ u, u < 16 ^ i ∧ Env.get ρ 4 = .int .u32 ((u : Nat) : Int) ∧ l.take i = hexN u i) ⟨by omega, rfl, rfl, 0, by decide, rfl, rfl⟩ ?_
    rintro i ρ h hi ⟨_, q0, q5, u, hu, q4, ht⟩
    rcases Nat.lt_or_ge i 8 with hi2 | hi2
    · have hl1 : ((i : Int) < 8) = True := eq_true (by omega)
      obtain ⟨c, hx⟩ : ∃ c, l[i]? = some c := ⟨_, List.getElem?_eq_getElem (by omega)⟩
      have hx' := (ba_at l i).trans hx
      have e1 : (0 ≤ ((i : Nat) : Int)) = True := eq_true (by omega)
      by_cases hA : 48 ≤ c.toNat ∧ c.toNat ≤ 57
      · have a1 : (48 ≤ ((c.toNat : Nat) : Int)) = True := eq_true (by omega)
        have a2 : (((c.toNat : Nat) : Int) ≤ 57) = True := eq_true (by omega)
        have a3 := word_lo (pow_room hi2 hu) hA.1 hA.2
        obtain ⟨a4, a5⟩ := take_dig hx hu ht (by omega) (dig_lo hA.1 hA.2)
        repeat' (first | (with_reducible refine gcond_split (fun _ => ?_) (fun _ => ?_)) | (with_reducible refine vcond_dec_split (fun _ => ?_) (fun _ => ?_)) | (with_reducible refine vcond_eq_split (fun _ => ?_) (fun _ => ?_)) | (with_reducible refine vcond_ne_split (fun _ => ?_) (fun _ => ?_)) | (with_reducible refine vcond_split (fun _ => ?_) (fun _ => ?_)) | (with_reducible refine bnd_go (by omega) (by omega) ?_) | (with_reducible refine nn_go (by omega) ?_) | (with_reducible refine getB_go hx' ?_) | (with_reducible refine bops_go ?_) | (with_reducible intro _ hfr; simp only [fr_cons, fr_nil, and_true] at hfr) | (with_reducible intro _ _) | (simp only [zq00, zq01, zq02, zq03, zq04, zq05, zq06, zq07, zq08, zq09, zq0a, zq0b, zq0c, zq0d, zq0e, zq0f, zq0g, zq0h, zq0i, zq0j, zq0k, zq0l, zq0m, zq0n, zq0o, zq0p, zq0q, zq0r, zq0s, zq0t, zq0u, zq0v, zq0w, zq0x, zq0y, zq0z, zq10, zq11, zq12, zq13, zq14, zq15, zq16, zq17, zq18, zq19, zq1a, zq1b, zq1c, zq1d, zq1e, zq1f, zq1g, zq1h, zq1i, zq1j, zq1k, zq1l, zq1m, zq1n, zq1o, zq1p, zq1q, zq1r, zq1s, zq1t, zq1u, zq1v, zq1w, zq1x, zq1y, zq1z, zq20, zq21, zq22, zq23, zq24, zq25, zq26, zq27, zq28, zq29, zq2a, zq2b, zq2c, zq2d, zq2e, zq2f, zq2g, zq2h, zq2i, zq2j, zq2k, zq2l, zq2m, zq2n, zq2o, zq2p, zq2q, zq2r, zq2s, zq2t, zq2u, zq2v, zq2w, zq2x, zq2y, zq2z, zq30, zq31, zq32, zq33, zq34, zq35, zq36, zq37, zq38, zq39, zq3a, zq3b, zq3c, zq3d, zq3e, zq3f, zq3g, zq3h, zq3i, zq3j, zq3k, zq3l, zq3m, zq3n, zq3o, zq3p, zq3q, zq3r, zq3s, zq3t, zq3u, zq3v, zq3w, zq3x, zq3y, zq3z, zq40, zq41, zq42, zq43, zq44, zq45, zq46, zq47, zq48, zq49, zq4a, zq4b, zq4c, zq4d, zq4e, zq4f, zq4g, zq4h, zq4i, zq4j, zq4k, zq4l, zq4m, zq4n, zq4o, zq4p, zq4q, zq4r, zq4s, zq4t, zq4u, zq4v, zq4w, zq4x, zq4y, zq4z, zq50, zq51, zq52, zq53, zq54, zq55, zq56, zq57, zq58, zq59, zq5a, zq5b, zq5c, zq5d, zq5e, zq5f, zq5g, zq5h, zq5i, zq5j, zq5k, zq5l, zq5m, zq5n, zq5o, zq5p, zq5q, zq5r, zq5s, zq5t, zq5u, zq5v, zq5w, zq5x, zq5y, zq5z, zq60, zq61, zq62, zq63, zq64, zq65, zq66, zq67, zq68, zq69, zq6a, zq6b, zq6c, zq6d, zq6e, zq6f, zq6g, zq6h, zq6i, zq6j, zq6k, zq6l, zq6m, zq6n, zq6o, zq6p, zq6q, zq6r, zq6s, zq6t, zq6u, zq6v, zq6w, zq6x, zq6y, zq6z, zq70, zq71, zq72, zq73, zq74, zq75, zq76, zq77, zq78, zq79, zq7a, zq7b, zq7c, zq7d, zq7e, zq7f, zq7g, zq7h, zq7i, zq7j, zq7k, zq7l, zq7m, zq7n, zq7o, zq7p, zq7q, zq7r, zq7s, zq7t, zq7u, zq7v, zq7w, zq7x, zq7y, zq7z, zq80, zq81, zq82, zq83, reduceIte, Nat.reduceEqDiff, List.map_cons, List.map_nil, Option.map_some, Option.map_none, and_true, true_and, Nat.zero_add, Nat.add_zero, Nat.mul_one, Nat.reduceAdd, Nat.reduceMul, List.getElem?_toArray, List.getElem?_cons_zero, List.getElem?_cons_succ, Array.size_append, List.size_toArray, List.length_cons, List.length_nil, Bool.not_true, Bool.not_false, Int.toNat_natCast, List.append_toArray, List.cons_append, List.nil_append, List.set_cons_zero, List.set_cons_succ, Nat.reduceLT, Int.reduceEq, Int.reduceToNat, Int.reduceMul, decide_true, decide_false, bne_self_eq_false, beq_self_eq_true, ne_eq, not_false_eq_true, reduceCtorEq, q0, q4, q5, hl1, e1, a1, a2, a3]))
        exact again_up hi2 ⟨by omega, q0, congrArg (Value.int .i64) (wsuc' (by omega)), _, a4, rfl, a5⟩
      · by_cases hB : 97 ≤ c.toNat ∧ c.toNat ≤ 102
        · have a1 : (48 ≤ ((c.toNat : Nat) : Int)) = True := eq_true (by omega)
          have a2 : (((c.toNat : Nat) : Int) ≤ 57) = False := eq_false (by omega)
          have b1 : (97 ≤ ((c.toNat : Nat) : Int)) = True := eq_true (by omega)
          have b2 : (((c.toNat : Nat) : Int) ≤ 102) = True := eq_true (by omega)
          have a3 := word_hi (pow_room hi2 hu) hB.1 hB.2
          obtain ⟨a4, a5⟩ := take_dig hx hu ht (by omega) (dig_hi hB.1 hB.2)
          repeat' (first | (with_reducible refine gcond_split (fun _ => ?_) (fun _ => ?_)) | (with_reducible refine vcond_dec_split (fun _ => ?_) (fun _ => ?_)) | (with_reducible refine vcond_eq_split (fun _ => ?_) (fun _ => ?_)) | (with_reducible refine vcond_ne_split (fun _ => ?_) (fun _ => ?_)) | (with_reducible refine vcond_split (fun _ => ?_) (fun _ => ?_)) | (with_reducible refine bnd_go (by omega) (by omega) ?_) | (with_reducible refine nn_go (by omega) ?_) | (with_reducible refine getB_go hx' ?_) | (with_reducible refine bops_go ?_) | (with_reducible intro _ hfr; simp only [fr_cons, fr_nil, and_true] at hfr) | (with_reducible intro _ _) | (simp only [zq00, zq01, zq02, zq03, zq04, zq05, zq06, zq07, zq08, zq09, zq0a, zq0b, zq0c, zq0d, zq0e, zq0f, zq0g, zq0h, zq0i, zq0j, zq0k, zq0l, zq0m, zq0n, zq0o, zq0p, zq0q, zq0r, zq0s, zq0t, zq0u, zq0v, zq0w, zq0x, zq0y, zq0z, zq10, zq11, zq12, zq13, zq14, zq15, zq16, zq17, zq18, zq19, zq1a, zq1b, zq1c, zq1d, zq1e, zq1f, zq1g, zq1h, zq1i, zq1j, zq1k, zq1l, zq1m, zq1n, zq1o, zq1p, zq1q, zq1r, zq1s, zq1t, zq1u, zq1v, zq1w, zq1x, zq1y, zq1z, zq20, zq21, zq22, zq23, zq24, zq25, zq26, zq27, zq28, zq29, zq2a, zq2b, zq2c, zq2d, zq2e, zq2f, zq2g, zq2h, zq2i, zq2j, zq2k, zq2l, zq2m, zq2n, zq2o, zq2p, zq2q, zq2r, zq2s, zq2t, zq2u, zq2v, zq2w, zq2x, zq2y, zq2z, zq30, zq31, zq32, zq33, zq34, zq35, zq36, zq37, zq38, zq39, zq3a, zq3b, zq3c, zq3d, zq3e, zq3f, zq3g, zq3h, zq3i, zq3j, zq3k, zq3l, zq3m, zq3n, zq3o, zq3p, zq3q, zq3r, zq3s, zq3t, zq3u, zq3v, zq3w, zq3x, zq3y, zq3z, zq40, zq41, zq42, zq43, zq44, zq45, zq46, zq47, zq48, zq49, zq4a, zq4b, zq4c, zq4d, zq4e, zq4f, zq4g, zq4h, zq4i, zq4j, zq4k, zq4l, zq4m, zq4n, zq4o, zq4p, zq4q, zq4r, zq4s, zq4t, zq4u, zq4v, zq4w, zq4x, zq4y, zq4z, zq50, zq51, zq52, zq53, zq54, zq55, zq56, zq57, zq58, zq59, zq5a, zq5b, zq5c, zq5d, zq5e, zq5f, zq5g, zq5h, zq5i, zq5j, zq5k, zq5l, zq5m, zq5n, zq5o, zq5p, zq5q, zq5r, zq5s, zq5t, zq5u, zq5v, zq5w, zq5x, zq5y, zq5z, zq60, zq61, zq62, zq63, zq64, zq65, zq66, zq67, zq68, zq69, zq6a, zq6b, zq6c, zq6d, zq6e, zq6f, zq6g, zq6h, zq6i, zq6j, zq6k, zq6l, zq6m, zq6n, zq6o, zq6p, zq6q, zq6r, zq6s, zq6t, zq6u, zq6v, zq6w, zq6x, zq6y, zq6z, zq70, zq71, zq72, zq73, zq74, zq75, zq76, zq77, zq78, zq79, zq7a, zq7b, zq7c, zq7d, zq7e, zq7f, zq7g, zq7h, zq7i, zq7j, zq7k, zq7l, zq7m, zq7n, zq7o, zq7p, zq7q, zq7r, zq7s, zq7t, zq7u, zq7v, zq7w, zq7x, zq7y, zq7z, zq80, zq81, zq82, zq83, reduceIte, Nat.reduceEqDiff, List.map_cons, List.map_nil, Option.map_some, Option.map_none, and_true, true_and, Nat.zero_add, Nat.add_zero, Nat.mul_one, Nat.reduceAdd, Nat.reduceMul, List.getElem?_toArray, List.getElem?_cons_zero, List.getElem?_cons_succ, Array.size_append, List.size_toArray, List.length_cons, List.length_nil, Bool.not_true, Bool.not_false, Int.toNat_natCast, List.append_toArray, List.cons_append, List.nil_append, List.set_cons_zero, List.set_cons_succ, Nat.reduceLT, Int.reduceEq, Int.reduceToNat, Int.reduceMul, decide_true, decide_false, bne_self_eq_false, beq_self_eq_true, ne_eq, not_false_eq_true, reduceCtorEq, q0, q4, q5, hl1, e1, a1, a2, b1, b2, a3]))
          exact again_up hi2 ⟨by omega, q0, congrArg (Value.int .i64) (wsuc' (by omega)), _, a4, rfl, a5⟩
        · skip
          repeat' (first | (with_reducible refine gcond_split (fun _ => ?_) (fun _ => ?_)) | (with_reducible refine vcond_dec_split (fun _ => ?_) (fun _ => ?_)) | (with_reducible refine vcond_eq_split (fun _ => ?_) (fun _ => ?_)) | (with_reducible refine vcond_ne_split (fun _ => ?_) (fun _ => ?_)) | (with_reducible refine vcond_split (fun _ => ?_) (fun _ => ?_)) | (with_reducible refine bnd_go (by omega) (by omega) ?_) | (with_reducible refine nn_go (by omega) ?_) | (with_reducible refine getB_go hx' ?_) | (with_reducible refine bops_go ?_) | (with_reducible intro _ hfr; simp only [fr_cons, fr_nil, and_true] at hfr) | (with_reducible intro _ _) | (simp only [zq00, zq01, zq02, zq03, zq04, zq05, zq06, zq07, zq08, zq09, zq0a, zq0b, zq0c, zq0d, zq0e, zq0f, zq0g, zq0h, zq0i, zq0j, zq0k, zq0l, zq0m, zq0n, zq0o, zq0p, zq0q, zq0r, zq0s, zq0t, zq0u, zq0v, zq0w, zq0x, zq0y, zq0z, zq10, zq11, zq12, zq13, zq14, zq15, zq16, zq17, zq18, zq19, zq1a, zq1b, zq1c, zq1d, zq1e, zq1f, zq1g, zq1h, zq1i, zq1j, zq1k, zq1l, zq1m, zq1n, zq1o, zq1p, zq1q, zq1r, zq1s, zq1t, zq1u, zq1v, zq1w, zq1x, zq1y, zq1z, zq20, zq21, zq22, zq23, zq24, zq25, zq26, zq27, zq28, zq29, zq2a, zq2b, zq2c, zq2d, zq2e, zq2f, zq2g, zq2h, zq2i, zq2j, zq2k, zq2l, zq2m, zq2n, zq2o, zq2p, zq2q, zq2r, zq2s, zq2t, zq2u, zq2v, zq2w, zq2x, zq2y, zq2z, zq30, zq31, zq32, zq33, zq34, zq35, zq36, zq37, zq38, zq39, zq3a, zq3b, zq3c, zq3d, zq3e, zq3f, zq3g, zq3h, zq3i, zq3j, zq3k, zq3l, zq3m, zq3n, zq3o, zq3p, zq3q, zq3r, zq3s, zq3t, zq3u, zq3v, zq3w, zq3x, zq3y, zq3z, zq40, zq41, zq42, zq43, zq44, zq45, zq46, zq47, zq48, zq49, zq4a, zq4b, zq4c, zq4d, zq4e, zq4f, zq4g, zq4h, zq4i, zq4j, zq4k, zq4l, zq4m, zq4n, zq4o, zq4p, zq4q, zq4r, zq4s, zq4t, zq4u, zq4v, zq4w, zq4x, zq4y, zq4z, zq50, zq51, zq52, zq53, zq54, zq55, zq56, zq57, zq58, zq59, zq5a, zq5b, zq5c, zq5d, zq5e, zq5f, zq5g, zq5h, zq5i, zq5j, zq5k, zq5l, zq5m, zq5n, zq5o, zq5p, zq5q, zq5r, zq5s, zq5t, zq5u, zq5v, zq5w, zq5x, zq5y, zq5z, zq60, zq61, zq62, zq63, zq64, zq65, zq66, zq67, zq68, zq69, zq6a, zq6b, zq6c, zq6d, zq6e, zq6f, zq6g, zq6h, zq6i, zq6j, zq6k, zq6l, zq6m, zq6n, zq6o, zq6p, zq6q, zq6r, zq6s, zq6t, zq6u, zq6v, zq6w, zq6x, zq6y, zq6z, zq70, zq71, zq72, zq73, zq74, zq75, zq76, zq77, zq78, zq79, zq7a, zq7b, zq7c, zq7d, zq7e, zq7f, zq7g, zq7h, zq7i, zq7j, zq7k, zq7l, zq7m, zq7n, zq7o, zq7p, zq7q, zq7r, zq7s, zq7t, zq7u, zq7v, zq7w, zq7x, zq7y, zq7z, zq80, zq81, zq82, zq83, reduceIte, Nat.reduceEqDiff, List.map_cons, List.map_nil, Option.map_some, Option.map_none, and_true, true_and, Nat.zero_add, Nat.add_zero, Nat.mul_one, Nat.reduceAdd, Nat.reduceMul, List.getElem?_toArray, List.getElem?_cons_zero, List.getElem?_cons_succ, Array.size_append, List.size_toArray, List.length_cons, List.length_nil, Bool.not_true, Bool.not_false, Int.toNat_natCast, List.append_toArray, List.cons_append, List.nil_append, List.set_cons_zero, List.set_cons_succ, Nat.reduceLT, Int.reduceEq, Int.reduceToNat, Int.reduceMul, decide_true, decide_false, bne_self_eq_false, beq_self_eq_true, ne_eq, not_false_eq_true, reduceCtorEq, q0, q4, q5, hl1, e1]))
          all_goals simp only [Bool.not_true, decide_eq_true_eq, decide_eq_false_iff_not] at *
          all_goals first
            | exact .inr ⟨not_good_dig hx ⟨hA, hB⟩, _, rfl⟩
            | (exfalso; omega)
    · obtain rfl : i = 8 := by omega
      have hl1 : (((8 : Nat) : Int) < 8) = False := by simp
      repeat' (first | (with_reducible refine gcond_split (fun _ => ?_) (fun _ => ?_)) | (with_reducible refine vcond_dec_split (fun _ => ?_) (fun _ => ?_)) | (with_reducible refine vcond_eq_split (fun _ => ?_) (fun _ => ?_)) | (with_reducible refine vcond_ne_split (fun _ => ?_) (fun _ => ?_)) | (with_reducible refine vcond_split (fun _ => ?_) (fun _ => ?_)) | (with_reducible refine bnd_go (by omega) (by omega) ?_) | (with_reducible refine nn_go (by omega) ?_) | (with_reducible refine callG_pure (fun M w0 w H => l01Bits_ok _ w) (fun v hv => ?_); subst hv) | (with_reducible refine bops_go ?_) | (with_reducible intro _ hfr; simp only [fr_cons, fr_nil, and_true] at hfr) | (with_reducible intro _ _) | (simp only [zq00, zq01, zq02, zq03, zq04, zq05, zq06, zq07, zq08, zq09, zq0a, zq0b, zq0c, zq0d, zq0e, zq0f, zq0g, zq0h, zq0i, zq0j, zq0k, zq0l, zq0m, zq0n, zq0o, zq0p, zq0q, zq0r, zq0s, zq0t, zq0u, zq0v, zq0w, zq0x, zq0y, zq0z, zq10, zq11, zq12, zq13, zq14, zq15, zq16, zq17, zq18, zq19, zq1a, zq1b, zq1c, zq1d, zq1e, zq1f, zq1g, zq1h, zq1i, zq1j, zq1k, zq1l, zq1m, zq1n, zq1o, zq1p, zq1q, zq1r, zq1s, zq1t, zq1u, zq1v, zq1w, zq1x, zq1y, zq1z, zq20, zq21, zq22, zq23, zq24, zq25, zq26, zq27, zq28, zq29, zq2a, zq2b, zq2c, zq2d, zq2e, zq2f, zq2g, zq2h, zq2i, zq2j, zq2k, zq2l, zq2m, zq2n, zq2o, zq2p, zq2q, zq2r, zq2s, zq2t, zq2u, zq2v, zq2w, zq2x, zq2y, zq2z, zq30, zq31, zq32, zq33, zq34, zq35, zq36, zq37, zq38, zq39, zq3a, zq3b, zq3c, zq3d, zq3e, zq3f, zq3g, zq3h, zq3i, zq3j, zq3k, zq3l, zq3m, zq3n, zq3o, zq3p, zq3q, zq3r, zq3s, zq3t, zq3u, zq3v, zq3w, zq3x, zq3y, zq3z, zq40, zq41, zq42, zq43, zq44, zq45, zq46, zq47, zq48, zq49, zq4a, zq4b, zq4c, zq4d, zq4e, zq4f, zq4g, zq4h, zq4i, zq4j, zq4k, zq4l, zq4m, zq4n, zq4o, zq4p, zq4q, zq4r, zq4s, zq4t, zq4u, zq4v, zq4w, zq4x, zq4y, zq4z, zq50, zq51, zq52, zq53, zq54, zq55, zq56, zq57, zq58, zq59, zq5a, zq5b, zq5c, zq5d, zq5e, zq5f, zq5g, zq5h, zq5i, zq5j, zq5k, zq5l, zq5m, zq5n, zq5o, zq5p, zq5q, zq5r, zq5s, zq5t, zq5u, zq5v, zq5w, zq5x, zq5y, zq5z, zq60, zq61, zq62, zq63, zq64, zq65, zq66, zq67, zq68, zq69, zq6a, zq6b, zq6c, zq6d, zq6e, zq6f, zq6g, zq6h, zq6i, zq6j, zq6k, zq6l, zq6m, zq6n, zq6o, zq6p, zq6q, zq6r, zq6s, zq6t, zq6u, zq6v, zq6w, zq6x, zq6y, zq6z, zq70, zq71, zq72, zq73, zq74, zq75, zq76, zq77, zq78, zq79, zq7a, zq7b, zq7c, zq7d, zq7e, zq7f, zq7g, zq7h, zq7i, zq7j, zq7k, zq7l, zq7m, zq7n, zq7o, zq7p, zq7q, zq7r, zq7s, zq7t, zq7u, zq7v, zq7w, zq7x, zq7y, zq7z, zq80, zq81, zq82, zq83, reduceIte, Nat.reduceEqDiff, List.map_cons, List.map_nil, Option.map_some, Option.map_none, and_true, true_and, Nat.zero_add, Nat.add_zero, Nat.mul_one, Nat.reduceAdd, Nat.reduceMul, List.getElem?_toArray, List.getElem?_cons_zero, List.getElem?_cons_succ, Array.size_append, List.size_toArray, List.length_cons, List.length_nil, Bool.not_true, Bool.not_false, Int.toNat_natCast, List.append_toArray, List.cons_append, List.nil_append, List.set_cons_zero, List.set_cons_succ, Nat.reduceLT, Int.reduceEq, Int.reduceToNat, Int.reduceMul, decide_true, decide_false, bne_self_eq_false, beq_self_eq_true, ne_eq, not_false_eq_true, reduceCtorEq, q0, q4, q5, hl1]))
      have hl : l = hexN u 8 := by rw [← ht, List.take_of_length_le (by omega)]
      by_cases hb : bitsW u = u
      · refine .inl ⟨u, ⟨hu, hl, hb⟩, ?_⟩
        rw [hb, beq_self_eq_true]
      · refine .inr ⟨fun ⟨m, h1, h2, h3⟩ => ?_, u, ?_⟩
        · have := hexN_inj 8 hu h1 (hl.symm.trans h2)
          subst this
          exact hb h3
        · rw [show (((bitsW u : Nat) : Int) == (u : Int)) = false from by simp; omega]
  · have e0 : (((l.length : Nat) : Int) != 8) = true := by simp; omega
    repeat' (first | (with_reducible refine gcond_split (fun _ => ?_) (fun _ => ?_)) | (with_reducible refine vcond_dec_split (fun _ => ?_) (fun _ => ?_)) | (with_reducible refine vcond_eq_split (fun _ => ?_) (fun _ => ?_)) | (with_reducible refine vcond_ne_split (fun _ => ?_) (fun _ => ?_)) | (with_reducible refine vcond_split (fun _ => ?_) (fun _ => ?_)) | (with_reducible refine bnd_go (by omega) (by omega) ?_) | (with_reducible refine nn_go (by omega) ?_) | (with_reducible refine bops_go ?_) | (with_reducible intro _ hfr; simp only [fr_cons, fr_nil, and_true] at hfr) | (with_reducible intro _ _) | (simp only [zq00, zq01, zq02, zq03, zq04, zq05, zq06, zq07, zq08, zq09, zq0a, zq0b, zq0c, zq0d, zq0e, zq0f, zq0g, zq0h, zq0i, zq0j, zq0k, zq0l, zq0m, zq0n, zq0o, zq0p, zq0q, zq0r, zq0s, zq0t, zq0u, zq0v, zq0w, zq0x, zq0y, zq0z, zq10, zq11, zq12, zq13, zq14, zq15, zq16, zq17, zq18, zq19, zq1a, zq1b, zq1c, zq1d, zq1e, zq1f, zq1g, zq1h, zq1i, zq1j, zq1k, zq1l, zq1m, zq1n, zq1o, zq1p, zq1q, zq1r, zq1s, zq1t, zq1u, zq1v, zq1w, zq1x, zq1y, zq1z, zq20, zq21, zq22, zq23, zq24, zq25, zq26, zq27, zq28, zq29, zq2a, zq2b, zq2c, zq2d, zq2e, zq2f, zq2g, zq2h, zq2i, zq2j, zq2k, zq2l, zq2m, zq2n, zq2o, zq2p, zq2q, zq2r, zq2s, zq2t, zq2u, zq2v, zq2w, zq2x, zq2y, zq2z, zq30, zq31, zq32, zq33, zq34, zq35, zq36, zq37, zq38, zq39, zq3a, zq3b, zq3c, zq3d, zq3e, zq3f, zq3g, zq3h, zq3i, zq3j, zq3k, zq3l, zq3m, zq3n, zq3o, zq3p, zq3q, zq3r, zq3s, zq3t, zq3u, zq3v, zq3w, zq3x, zq3y, zq3z, zq40, zq41, zq42, zq43, zq44, zq45, zq46, zq47, zq48, zq49, zq4a, zq4b, zq4c, zq4d, zq4e, zq4f, zq4g, zq4h, zq4i, zq4j, zq4k, zq4l, zq4m, zq4n, zq4o, zq4p, zq4q, zq4r, zq4s, zq4t, zq4u, zq4v, zq4w, zq4x, zq4y, zq4z, zq50, zq51, zq52, zq53, zq54, zq55, zq56, zq57, zq58, zq59, zq5a, zq5b, zq5c, zq5d, zq5e, zq5f, zq5g, zq5h, zq5i, zq5j, zq5k, zq5l, zq5m, zq5n, zq5o, zq5p, zq5q, zq5r, zq5s, zq5t, zq5u, zq5v, zq5w, zq5x, zq5y, zq5z, zq60, zq61, zq62, zq63, zq64, zq65, zq66, zq67, zq68, zq69, zq6a, zq6b, zq6c, zq6d, zq6e, zq6f, zq6g, zq6h, zq6i, zq6j, zq6k, zq6l, zq6m, zq6n, zq6o, zq6p, zq6q, zq6r, zq6s, zq6t, zq6u, zq6v, zq6w, zq6x, zq6y, zq6z, zq70, zq71, zq72, zq73, zq74, zq75, zq76, zq77, zq78, zq79, zq7a, zq7b, zq7c, zq7d, zq7e, zq7f, zq7g, zq7h, zq7i, zq7j, zq7k, zq7l, zq7m, zq7n, zq7o, zq7p, zq7q, zq7r, zq7s, zq7t, zq7u, zq7v, zq7w, zq7x, zq7y, zq7z, zq80, zq81, zq82, zq83, reduceIte, Nat.reduceEqDiff, List.map_cons, List.map_nil, Option.map_some, Option.map_none, and_true, true_and, Nat.zero_add, Nat.add_zero, Nat.mul_one, Nat.reduceAdd, Nat.reduceMul, List.getElem?_toArray, List.getElem?_cons_zero, List.getElem?_cons_succ, Array.size_append, List.size_toArray, List.length_cons, List.length_nil, Bool.not_true, Bool.not_false, Int.toNat_natCast, List.append_toArray, List.cons_append, List.nil_append, List.set_cons_zero, List.set_cons_succ, Nat.reduceLT, Int.reduceEq, Int.reduceToNat, Int.reduceMul, decide_true, decide_false, bne_self_eq_false, beq_self_eq_true, ne_eq, not_false_eq_true, reduceCtorEq, ba_size, e0]))
    exact .inr ⟨not_good_len hlen, _, rfl⟩

def Rd (l : List UInt8) (v : Value) : Prop :=
  (∃ m, Good l m ∧ v = .tuple #[.float .f32 m, .int .i64 0]) ∨ ((¬ ∃ m, Good l m) ∧ v = .tuple #[.float .f32 0, .int .i64 5])

theorem specReadNumber_ok (l : List UInt8) (w : World) : PureC Tryd.prog 7 #[.string ⟨l.toArray⟩] w (Rd l) := by
  refine pure_of_vc Tryd.func7 ok_spec_ReadNumber rfl There.nil ?_
  unfold c_spec_ReadNumber
  repeat' (first | (with_reducible refine gcond_split (fun _ => ?_) (fun _ => ?_)) | (with_reducible refine vcond_dec_split (fun _ => ?_) (fun _ => ?_)) | (with_reducible refine vcond_eq_split (fun _ => ?_) (fun _ => ?_)) | (with_reducible refine vcond_ne_split (fun _ => ?_) (fun _ => ?_)) | (with_reducible refine vcond_split (fun _ => ?_) (fun _ => ?_)) | (with_reducible refine bnd_go (by omega) (by omega) ?_) | (with_reducible refine nn_go (by omega) ?_) | ((with_reducible refine callG_pure (fun M w0 w H => l01Read_ok l w) (fun v hv => ?_)); rcases hv with ⟨m, hg, rfl⟩ | ⟨hg, x, rfl⟩) | (with_reducible refine bops_go ?_) | (with_reducible intro _ hfr; simp only [fr_cons, fr_nil, and_true] at hfr) | (with_reducible intro _ _) | (simp only [zq00, zq01, zq02, zq03, zq04, zq05, zq06, zq07, zq08, zq09, zq0a, zq0b, zq0c, zq0d, zq0e, zq0f, zq0g, zq0h, zq0i, zq0j, zq0k, zq0l, zq0m, zq0n, zq0o, zq0p, zq0q, zq0r, zq0s, zq0t, zq0u, zq0v, zq0w, zq0x, zq0y, zq0z, zq10, zq11, zq12, zq13, zq14, zq15, zq16, zq17, zq18, zq19, zq1a, zq1b, zq1c, zq1d, zq1e, zq1f, zq1g, zq1h, zq1i, zq1j, zq1k, zq1l, zq1m, zq1n, zq1o, zq1p, zq1q, zq1r, zq1s, zq1t, zq1u, zq1v, zq1w, zq1x, zq1y, zq1z, zq20, zq21, zq22, zq23, zq24, zq25, zq26, zq27, zq28, zq29, zq2a, zq2b, zq2c, zq2d, zq2e, zq2f, zq2g, zq2h, zq2i, zq2j, zq2k, zq2l, zq2m, zq2n, zq2o, zq2p, zq2q, zq2r, zq2s, zq2t, zq2u, zq2v, zq2w, zq2x, zq2y, zq2z, zq30, zq31, zq32, zq33, zq34, zq35, zq36, zq37, zq38, zq39, zq3a, zq3b, zq3c, zq3d, zq3e, zq3f, zq3g, zq3h, zq3i, zq3j, zq3k, zq3l, zq3m, zq3n, zq3o, zq3p, zq3q, zq3r, zq3s, zq3t, zq3u, zq3v, zq3w, zq3x, zq3y, zq3z, zq40, zq41, zq42, zq43, zq44, zq45, zq46, zq47, zq48, zq49, zq4a, zq4b, zq4c, zq4d, zq4e, zq4f, zq4g, zq4h, zq4i, zq4j, zq4k, zq4l, zq4m, zq4n, zq4o, zq4p, zq4q, zq4r, zq4s, zq4t, zq4u, zq4v, zq4w, zq4x, zq4y, zq4z, zq50, zq51, zq52, zq53, zq54, zq55, zq56, zq57, zq58, zq59, zq5a, zq5b, zq5c, zq5d, zq5e, zq5f, zq5g, zq5h, zq5i, zq5j, zq5k, zq5l, zq5m, zq5n, zq5o, zq5p, zq5q, zq5r, zq5s, zq5t, zq5u, zq5v, zq5w, zq5x, zq5y, zq5z, zq60, zq61, zq62, zq63, zq64, zq65, zq66, zq67, zq68, zq69, zq6a, zq6b, zq6c, zq6d, zq6e, zq6f, zq6g, zq6h, zq6i, zq6j, zq6k, zq6l, zq6m, zq6n, zq6o, zq6p, zq6q, zq6r, zq6s, zq6t, zq6u, zq6v, zq6w, zq6x, zq6y, zq6z, zq70, zq71, zq72, zq73, zq74, zq75, zq76, zq77, zq78, zq79, zq7a, zq7b, zq7c, zq7d, zq7e, zq7f, zq7g, zq7h, zq7i, zq7j, zq7k, zq7l, zq7m, zq7n, zq7o, zq7p, zq7q, zq7r, zq7s, zq7t, zq7u, zq7v, zq7w, zq7x, zq7y, zq7z, zq80, zq81, zq82, zq83, reduceIte, Nat.reduceEqDiff, List.map_cons, List.map_nil, Option.map_some, Option.map_none, and_true, true_and, Nat.zero_add, Nat.add_zero, Nat.mul_one, Nat.reduceAdd, Nat.reduceMul, List.getElem?_toArray, List.getElem?_cons_zero, List.getElem?_cons_succ, Array.size_append, List.size_toArray, List.length_cons, List.length_nil, Bool.not_true, Bool.not_false, Int.toNat_natCast, List.append_toArray, List.cons_append, List.nil_append, List.set_cons_zero, List.set_cons_succ, Nat.reduceLT, Int.reduceEq, Int.reduceToNat, Int.reduceMul, decide_true, decide_false, bne_self_eq_false, beq_self_eq_true, ne_eq, not_false_eq_true, reduceCtorEq]))
  all_goals first | exact .inl ⟨m, hg, rfl⟩ | exact .inr ⟨hg, rfl⟩

end Go.Proofs.YtnfipcfhnhhcmaaDoor
