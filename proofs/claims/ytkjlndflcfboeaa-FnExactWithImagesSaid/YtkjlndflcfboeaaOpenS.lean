/- Slices as arguments, opened. -/
import Derived.Test.YtkjlndflcfboeaaSlice
namespace Go.Proofs.Ytkjlndflcfboeaa
open Go Go.Fl Go.Vc Go.ChangeShapes Go.WideShapes
set_option linter.all false
set_option maxRecDepth 10000

theorem cells_of_cell {w : World} {b off : Nat} {v : Value} (h : w.cell? ⟨b, off, none⟩ = some v) : ∃ cs T fz, w.heap[b]? = some (.cells cs T fz) ∧ cs[off]? = some v := by
  unfold World.cell? at h
  simp only at h
  split at h
  · rename_i c T fz e
    exact ⟨c, T, fz, e, by simpa using h⟩
  · cases h
theorem cell_in {w : World} {b off : Nat} {v : Value} {cs : Array Value} {T : Nat} {fz : Nat × Nat} (hb : w.heap[b]? = some (.cells cs T fz)) (h : w.cell? ⟨b, off, none⟩ = some v) : cs[off]? = some v := by
  obtain ⟨c2, T2, z2, e, h2⟩ := cells_of_cell h
  rw [hb] at e
  cases e
  exact h2

theorem wf_bounds {k : IntKind} {n : Int} (h : (Lit.int k n).wf = true) : k.min ≤ n ∧ n ≤ k.max := by
  simp only [Lit.wf, Bool.and_eq_true, decide_eq_true_eq] at h
  exact h

theorem open_readings {H : Type} {enc : TypeId × Value → H} {P : Program} {w : World} {t e : TypeId} {f0 f1 : Field} {a : Option Addr} {n cap : Nat} {x : DataW H × List MemPlace} (ht : P.underlying t = some (.slice e)) (he : P.underlying e = some (.struct #[f0, f1]))
    (ce : P.cellsOf e = 2) (o0 : f0.offset = 0) (o1 : f1.offset = 1) (c0 : P.cellsOf f0.type = 1) (c1 : P.cellsOf f1.type = 1) (u0 : P.underlying f0.type = some (.int .i64)) (u1 : P.underlying f1.type = some (.int .i16))
    (h : ∃ m, DataW.trod enc P w 0 (fun _ => true) true m t [.slice a n cap] = some x) : n ≤ 9223372036854775807 ∧ ∃ f, RArg w a n f ∧ ∀ i, i < n → (f i).ok := by
  obtain ⟨m, h⟩ := h
  rcases Go.Deep.open_slice_pairs ht he ce o0 o1 c0 c1 h with ⟨h0, _⟩ | ⟨a', len, cap', m', n', V0, V1, D0, D1, P0, P1, hc, _, hl, hm, hmm, _, hx⟩
  · simp only [List.cons.injEq, and_true, Value.slice.injEq] at h0
    obtain ⟨rfl, rfl, rfl⟩ := h0
    exact ⟨by omega, fun _ => ⟨0, 0⟩, fun h => by omega, fun i hi => by omega⟩
  · simp only [List.cons.injEq, and_true, Value.slice.injEq] at hc
    obtain ⟨rfl, rfl, rfl⟩ := hc
    have hmx : maxLen = 9223372036854775807 := rfl
    refine ⟨by omega, ?_⟩
    have hnm : n ≤ m' := by rw [hmm]; split <;> omega
    rcases Nat.eq_zero_or_pos n with hn | hn
    · exact ⟨fun _ => ⟨0, 0⟩, fun h => by omega, fun i hi => by omega⟩
    · obtain ⟨b, off, spot⟩ := a'
      have hspot : spot = none := by simpa [Addr.add] using World.cell?_spot (hx 0 (by omega)).1
      subst hspot
      have each : ∀ i, i < n → ∃ r : Rd, r.ok ∧ w.cell? ⟨b, off + i * 2, none⟩ = some (.int .i64 r.t) ∧ w.cell? ⟨b, off + i * 2 + 1, none⟩ = some (.int .i16 r.l) := by
        intro i hi
        obtain ⟨k0, k1, k2, k3⟩ := hx i (by omega)
        rw [add_plain] at k0 k1
        obtain ⟨x0, e0, _, w0⟩ := DataW.trod_int u0 k2
        obtain ⟨x1, e1, _, w1⟩ := DataW.trod_int u1 k3
        simp only [List.cons.injEq, and_true] at e0 e1
        rw [e0] at k0
        rw [e1] at k1
        exact ⟨⟨x0, x1⟩, ⟨wf_bounds w0, wf_bounds w1⟩, k0, k1⟩
      obtain ⟨cs, T, fz, hb, _⟩ := cells_of_cell (each 0 hn).choose_spec.2.1
      have hch : ∃ f : Nat → Rd, ∀ i, i < n → (f i).ok ∧ w.cell? ⟨b, off + i * 2, none⟩ = some (.int .i64 (f i).t) ∧ w.cell? ⟨b, off + i * 2 + 1, none⟩ = some (.int .i16 (f i).l) := by
        refine ⟨fun i => if hi : i < n then (each i hi).choose else ⟨0, 0⟩, fun i hi => ?_⟩
        simp only [hi, dif_pos]
        exact (each i hi).choose_spec
      obtain ⟨f, hf⟩ := hch
      exact ⟨f, fun _ => ⟨b, off, cs, rfl, ⟨T, fz, hb⟩, fun i hi => ⟨cell_in hb (hf i hi).2.1, cell_in hb (hf i hi).2.2⟩⟩, fun i hi => (hf i hi).1⟩

/-- the blocks of an argument -/
theorem RArg.there {w : World} {p : Option Addr} {n : Nat} {f : Nat → Rd} (h : RArg w p n f) : ∃ h0, There w h0 ∧ ∀ {M w0 h' w'}, Holds M w0 h' w' → h0.Sublist h' → RArg w' p n f := by
  rcases Nat.eq_zero_or_pos n with hn | hn
  · exact ⟨[], There.nil, fun _ _ hp => by omega⟩
  · obtain ⟨b, off, cs, rfl, hb, hf⟩ := h hn
    exact ⟨[⟨b, cs, anyT, false⟩], There.any hb, fun H hs _ => ⟨b, off, cs, rfl, H.cells (hs.subset List.mem_cons_self), hf⟩⟩

theorem RArg.there2 {w : World} {p p2 : Option Addr} {n n2 : Nat} {f f2 : Nat → Rd} (h : RArg w p n f) (h2 : RArg w p2 n2 f2) :
    ∃ h0, There w h0 ∧ ∀ {M w0 h' w'}, Holds M w0 h' w' → h0.Sublist h' → RArg w' p n f ∧ RArg w' p2 n2 f2 := by
  rcases Nat.eq_zero_or_pos n with hn | hn
  · obtain ⟨h0, k1, k2⟩ := h2.there
    exact ⟨h0, k1, fun H hs => ⟨fun hp => by omega, k2 H hs⟩⟩
  · rcases Nat.eq_zero_or_pos n2 with hn2 | hn2
    · obtain ⟨h0, k1, k2⟩ := h.there
      exact ⟨h0, k1, fun H hs => ⟨k2 H hs, fun hp => by omega⟩⟩
    · obtain ⟨b, off, cs, rfl, hb, hf⟩ := h hn
      obtain ⟨b2, off2, cs2, rfl, hb2, hf2⟩ := h2 hn2
      by_cases e : b = b2
      · subst e
        have hcs : cs = cs2 := by
          obtain ⟨T, z, h1⟩ := hb
          obtain ⟨T2, z2, h2⟩ := hb2
          rw [h1] at h2
          cases h2; rfl
        subst hcs
        exact ⟨[⟨b, cs, anyT, false⟩], There.any hb, fun H hs => ⟨fun _ => ⟨b, off, cs, rfl, H.cells (hs.subset List.mem_cons_self), hf⟩, fun _ => ⟨b, off2, cs, rfl, H.cells (hs.subset List.mem_cons_self), hf2⟩⟩⟩
      · exact ⟨[⟨b, cs, anyT, false⟩, ⟨b2, cs2, anyT, false⟩], There.any2 hb hb2 e, fun H hs =>
          ⟨fun _ => ⟨b, off, cs, rfl, H.cells (hs.subset List.mem_cons_self), hf⟩, fun _ => ⟨b2, off2, cs2, rfl, H.cells (hs.subset (List.mem_cons_of_mem _ List.mem_cons_self)), hf2⟩⟩⟩

end Go.Proofs.Ytkjlndflcfboeaa
