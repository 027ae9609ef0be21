/- Arguments, opened: what a value of a type may be, by its cells. -/
import Derived.Test.YtdhoaehiocbjaaaGeo
import Derived.OpenShut
set_option linter.all false
namespace Go.Vc
open Go Go.Fl

section
variable {P : Program} {w : World} {r : Reach} {base : Nat} {t u : TypeId} {v : Value}

theorem cell_f32 (hu : P.underlying u = some (.float .f32)) (h : Cell.okWide P w r base u v) : ∃ b, v = .float .f32 b ∧ b < 2 ^ 32 := by
  unfold Cell.okWide at h
  rw [hu] at h
  cases v <;> simp only [Cell.ok, hu] at h
  case float k b => obtain ⟨rfl, hb⟩ := h; exact ⟨b, rfl, hb⟩

theorem cell_int {k : IntKind} (hu : P.underlying u = some (.int k)) (h : Cell.okWide P w r base u v) : ∃ n, v = .int k n ∧ k.min ≤ n ∧ n ≤ k.max := by
  unfold Cell.okWide at h
  rw [hu] at h
  cases v <;> simp only [Cell.ok, hu] at h
  case int k b => obtain ⟨rfl, hb⟩ := h; exact ⟨b, rfl, hb⟩

theorem cell_bool (hu : P.underlying u = some .bool) (h : Cell.okWide P w r base u v) : ∃ b, v = .bool b := by
  unfold Cell.okWide at h
  rw [hu] at h
  cases v <;> simp only [Cell.ok, hu] at h
  case bool b => exact ⟨b, rfl⟩

theorem val_f32 (hu : P.underlying t = some (.float .f32)) (h : Value.okWide P w r base t v) : ∃ b, v = .float .f32 b ∧ b < 2 ^ 32 := by
  unfold Value.okWide at h; simp only [hu] at h; exact cell_f32 hu h
theorem val_int {k : IntKind} (hu : P.underlying t = some (.int k)) (h : Value.okWide P w r base t v) : ∃ n, v = .int k n ∧ k.min ≤ n ∧ n ≤ k.max := by
  unfold Value.okWide at h; simp only [hu] at h; exact cell_int hu h
theorem val_bool (hu : P.underlying t = some .bool) (h : Value.okWide P w r base t v) : ∃ b, v = .bool b := by
  unfold Value.okWide at h; simp only [hu] at h; exact cell_bool hu h

/-- the cells of a struct or an array -/
theorem val_agg {ts : List TypeId} (hu : (∃ fs, P.underlying t = some (.struct fs)) ∨ ∃ n e, P.underlying t = some (.array n e)) (hts : P.cellTypes P.depth t = some ts) (hc : P.cellsOf t = ts.length)
    (h : Value.okWide P w r base t v) : ∃ cs, v = .agg cs ∧ cs.size = ts.length ∧ ∀ (i : Nat) u, ts[i]? = some u → ∃ x, cs[i]? = some x ∧ Cell.okWide P w r base u x := by
  have h' : ∃ cs, v = .agg cs ∧ cs.size = P.cellsOf t ∧ Row.okWide P w r base t cs := by
    unfold Value.okWide at h
    rcases hu with ⟨fs, hu⟩ | ⟨n, e, hu⟩ <;> (simp only [hu] at h; exact h)
  obtain ⟨cs, rfl, hs, ts', hts', _, hcells⟩ := h'
  rw [hts] at hts'; cases hts'
  refine ⟨cs, rfl, by rw [hs, hc], fun i u hi => ?_⟩
  have hlt : i < ts.length := by
    rcases Nat.lt_or_ge i ts.length with h1 | h1
    · exact h1
    · rw [List.getElem?_eq_none h1] at hi; cases hi
  have hci : i < cs.size := by rw [hs, hc]; exact hlt
  obtain ⟨u', hu', hx⟩ := hcells i cs[i] (Array.getElem?_eq_getElem hci)
  rw [Nat.mod_eq_of_lt hlt, hi] at hu'; cases hu'
  exact ⟨_, Array.getElem?_eq_getElem hci, hx⟩

def bitsAt (cs : Array Value) (i : Nat) : Nat := match cs[i]? with | some (.float _ b) => b | _ => 0
def intAt (cs : Array Value) (i : Nat) : Int := match cs[i]? with | some (.int _ b) => b | _ => 0

theorem eq_fcells {cs : Array Value} (hs : cs.size = 64) (h : ∀ i, i < 64 → ∃ b, cs[i]? = some (.float .f32 b) ∧ b < 2 ^ 32) : cs = fcells (bitsAt cs) ∧ ∀ i, i < 64 → bitsAt cs i < 2 ^ 32 := by
  refine ⟨Array.ext_getElem? fun i => ?_, fun i hi => ?_⟩
  · rw [fcells_at]
    by_cases hi : i < 64
    · obtain ⟨b, hb, _⟩ := h i hi
      rw [if_pos hi, hb]
      simp [bitsAt, hb]
    · rw [if_neg hi]
      exact Array.getElem?_eq_none (by omega)
  · obtain ⟨b, hb, hb2⟩ := h i hi
    simp only [bitsAt, hb]; exact hb2

theorem rep_lt {n i : Nat} {c : TypeId} {l : List TypeId} (h : i < n) : (List.replicate n c ++ l)[i]? = some c := by
  rw [List.getElem?_append_left (by simpa using h)]; simp [h]
theorem rep_ge {n i : Nat} {c : TypeId} {l : List TypeId} (h : n ≤ i) : (List.replicate n c ++ l)[i]? = l[i - n]? := by
  rw [List.getElem?_append_right (by simpa using h)]; simp
theorem rep_len {n : Nat} {c : TypeId} {l : List TypeId} : (List.replicate n c ++ l).length = n + l.length := by simp

theorem open_field {c : TypeId} (hu : ∃ n e, P.underlying t = some (.array n e)) (hts : P.cellTypes P.depth t = some (List.replicate 64 c ++ [])) (hc : P.cellsOf t = 64) (hf : P.underlying c = some (.float .f32))
    (h : Value.okWide P w r base t v) : ∃ f, v = .agg (fcells f) ∧ ∀ i, i < 64 → f i < 2 ^ 32 := by
  obtain ⟨cs, rfl, hs, hx⟩ := val_agg (.inr hu) hts (by rw [rep_len, hc]; rfl) h
  rw [rep_len] at hs
  obtain ⟨h1, h2⟩ := eq_fcells hs fun i hi => by
    obtain ⟨x, hxi, hok⟩ := hx i c (rep_lt hi)
    obtain ⟨b, rfl, hb⟩ := cell_f32 hf hok
    exact ⟨b, hxi, hb⟩
  exact ⟨bitsAt cs, by rw [← h1], h2⟩

/-- the numbers of a ground fit their kinds -/
structure GOk (g : G) : Prop where
  wide : -128 ≤ g.wide ∧ g.wide ≤ 127
  high : -128 ≤ g.high ∧ g.high ≤ 127
  con : ∀ i, i < 64 → g.con i < 2 ^ 32
  gain : ∀ i, i < 64 → g.gain i < 2 ^ 32
  heads : ∀ i, i < 64 → g.heads i < 2 ^ 32
  fixed : 0 ≤ g.fixed ∧ g.fixed < 2 ^ 64

structure BrOk (b : Br) : Prop where
  g : GOk b.g
  salt : ∀ i, i < 64 → b.salt i < 2 ^ 32
  spring : ∀ i, i < 64 → b.spring i < 2 ^ 32
  room : b.room < 2 ^ 32

def gOf (cs : Array Value) : G := ⟨intAt cs 0, intAt cs 1, fun i => bitsAt cs (2 + i), fun i => bitsAt cs (66 + i), fun i => bitsAt cs (130 + i), intAt cs 194⟩

/-- a row that begins as a ground does -/
theorem eq_gcells {cs : Array Value} (h0 : ∃ n, cs[0]? = some (.int .i8 n) ∧ -128 ≤ n ∧ n ≤ 127) (h1 : ∃ n, cs[1]? = some (.int .i8 n) ∧ -128 ≤ n ∧ n ≤ 127)
    (hf : ∀ i, 2 ≤ i → i < 194 → ∃ b, cs[i]? = some (.float .f32 b) ∧ b < 2 ^ 32) (h2 : ∃ n, cs[194]? = some (.int .u64 n) ∧ 0 ≤ n ∧ n < 2 ^ 64) :
    (∀ i, i < 195 → cs[i]? = (gcells (gOf cs))[i]?) ∧ GOk (gOf cs) := by
  obtain ⟨n0, e0, b0⟩ := h0
  obtain ⟨n1, e1, b1⟩ := h1
  obtain ⟨n2, e2, b2⟩ := h2
  refine ⟨fun i hi => ?_, ?_⟩
  · rw [gcells_at]
    by_cases k0 : i = 0
    · subst k0; rw [if_pos rfl, e0]; simp [gOf, intAt, e0]
    rw [if_neg k0]
    by_cases k1 : i = 1
    · subst k1; rw [if_pos rfl, e1]; simp [gOf, intAt, e1]
    rw [if_neg k1]
    by_cases k2 : i = 194
    · subst k2; rw [e2]; simp [gOf, intAt, e2]
    obtain ⟨b, hb, _⟩ := hf i (by omega) (by omega)
    rw [hb]
    by_cases k3 : i < 66
    · rw [if_pos k3]; simp only [gOf]; rw [show 2 + (i - 2) = i by omega]; simp [bitsAt, hb]
    rw [if_neg k3]
    by_cases k4 : i < 130
    · rw [if_pos k4]; simp only [gOf]; rw [show 66 + (i - 66) = i by omega]; simp [bitsAt, hb]
    rw [if_neg k4]
    by_cases k5 : i < 194
    · rw [if_pos k5]; simp only [gOf]; rw [show 130 + (i - 130) = i by omega]; simp [bitsAt, hb]
    omega
  · have hb : ∀ i, 2 ≤ i → i < 194 → bitsAt cs i < 2 ^ 32 := fun i l1 l2 => by
      obtain ⟨b, hb, hlt⟩ := hf i l1 l2
      simp only [bitsAt, hb]; exact hlt
    refine ⟨?_, ?_, fun i hi => hb _ (by omega) (by omega), fun i hi => hb _ (by omega) (by omega), fun i hi => hb _ (by omega) (by omega), ?_⟩
    · simp only [gOf, intAt, e0]; exact b0
    · simp only [gOf, intAt, e1]; exact b1
    · simp only [gOf, intAt, e2]; exact b2

theorem open_ground {a c d : TypeId} (hu : ∃ fs, P.underlying t = some (.struct fs)) (hts : P.cellTypes P.depth t = some (a :: a :: (List.replicate 192 c ++ [d]))) (hc : P.cellsOf t = 195)
    (ha : P.underlying a = some (.int .i8)) (hf : P.underlying c = some (.float .f32)) (hd : P.underlying d = some (.int .u64)) (h : Value.okWide P w r base t v) : ∃ g, v = .agg (gcells g) ∧ GOk g := by
  obtain ⟨cs, rfl, hs, hx⟩ := val_agg (.inl hu) hts (by rw [List.length_cons, List.length_cons, rep_len, hc]; rfl) h
  rw [List.length_cons, List.length_cons, rep_len] at hs
  replace hs : cs.size = 195 := by rw [hs]; simp only [List.length_cons, List.length_nil]
  have int8 : ∀ i, (i = 0 ∨ i = 1) → ∃ n, cs[i]? = some (.int .i8 n) ∧ -128 ≤ n ∧ n ≤ 127 := fun i hi => by
    obtain ⟨x, hxi, hok⟩ := hx i a (by rcases hi with rfl | rfl <;> (try rw [List.getElem?_cons_succ]) <;> rw [List.getElem?_cons_zero])
    obtain ⟨b, rfl, hb⟩ := cell_int ha hok
    exact ⟨b, hxi, hb⟩
  obtain ⟨h1, h2⟩ := eq_gcells (cs := cs) (int8 0 (.inl rfl)) (int8 1 (.inr rfl)) (fun i l1 l2 => by
      obtain ⟨x, hxi, hok⟩ := hx i c (by
        obtain ⟨j, rfl⟩ : ∃ j, i = j + 2 := ⟨i - 2, by omega⟩
        rw [List.getElem?_cons_succ, List.getElem?_cons_succ]
        exact rep_lt (by omega))
      obtain ⟨b, rfl, hb⟩ := cell_f32 hf hok
      exact ⟨b, hxi, hb⟩) (by
      obtain ⟨x, hxi, hok⟩ := hx 194 d (by
        rw [List.getElem?_cons_succ, List.getElem?_cons_succ, rep_ge (Nat.le_refl 192), Nat.sub_self]
        rfl)
      obtain ⟨b, rfl, hb1, hb2⟩ := cell_int hd hok
      refine ⟨b, hxi, hb1, ?_⟩
      have e : IntKind.u64.max = 18446744073709551615 := by decide
      rw [e] at hb2
      omega)
  refine ⟨gOf cs, ?_, h2⟩
  refine congrArg Value.agg ?_
  apply Array.ext_getElem?
  intro i
  by_cases hi : i < 195
  · exact h1 i hi
  · rw [Array.getElem?_eq_none (by omega), Array.getElem?_eq_none (by rw [gcells_size]; omega)]

theorem open_brine {a c d : TypeId} (hu : ∃ fs, P.underlying t = some (.struct fs)) (hts : P.cellTypes P.depth t = some (a :: a :: (List.replicate 192 c ++ d :: (List.replicate 129 c ++ [])))) (hc : P.cellsOf t = 324)
    (ha : P.underlying a = some (.int .i8)) (hf : P.underlying c = some (.float .f32)) (hd : P.underlying d = some (.int .u64)) (h : Value.okWide P w r base t v) : ∃ b, v = .agg (brcells b) ∧ BrOk b := by
  obtain ⟨cs, rfl, hs, hx⟩ := val_agg (.inl hu) hts (by rw [List.length_cons, List.length_cons, rep_len, List.length_cons, rep_len, hc]; rfl) h
  rw [List.length_cons, List.length_cons, rep_len] at hs
  rw [List.length_cons, rep_len] at hs
  replace hs : cs.size = 324 := by rw [hs]; simp only [List.length_nil]
  have int8 : ∀ i, (i = 0 ∨ i = 1) → ∃ n, cs[i]? = some (.int .i8 n) ∧ -128 ≤ n ∧ n ≤ 127 := fun i hi => by
    obtain ⟨x, hxi, hok⟩ := hx i a (by rcases hi with rfl | rfl <;> (try rw [List.getElem?_cons_succ]) <;> rw [List.getElem?_cons_zero])
    obtain ⟨b, rfl, hb⟩ := cell_int ha hok
    exact ⟨b, hxi, hb⟩
  have fl : ∀ i, 2 ≤ i → i < 194 ∨ (194 < i ∧ i < 324) → ∃ b, cs[i]? = some (.float .f32 b) ∧ b < 2 ^ 32 := fun i l1 l2 => by
    obtain ⟨x, hxi, hok⟩ := hx i c (by
      obtain ⟨j, rfl⟩ : ∃ j, i = j + 2 := ⟨i - 2, by omega⟩
      rw [List.getElem?_cons_succ, List.getElem?_cons_succ]
      rcases l2 with l2 | ⟨l2, l3⟩
      · exact rep_lt (by omega)
      · rw [rep_ge (by omega)]
        obtain ⟨m, hm⟩ : ∃ m, j - 192 = m + 1 := ⟨j - 193, by omega⟩
        rw [hm, List.getElem?_cons_succ]
        exact rep_lt (by omega))
    obtain ⟨b, rfl, hb⟩ := cell_f32 hf hok
    exact ⟨b, hxi, hb⟩
  obtain ⟨h1, h2⟩ := eq_gcells (cs := cs) (int8 0 (.inl rfl)) (int8 1 (.inr rfl)) (fun i l1 l2 => fl i l1 (.inl l2)) (by
      obtain ⟨x, hxi, hok⟩ := hx 194 d (by
        rw [List.getElem?_cons_succ, List.getElem?_cons_succ, rep_ge (Nat.le_refl 192), Nat.sub_self]
        rfl)
      obtain ⟨b, rfl, hb1, hb2⟩ := cell_int hd hok
      refine ⟨b, hxi, hb1, ?_⟩
      have e : IntKind.u64.max = 18446744073709551615 := by decide
      rw [e] at hb2
      omega)
  have bit : ∀ i, 194 < i → i < 324 → cs[i]? = some (.float .f32 (bitsAt cs i)) ∧ bitsAt cs i < 2 ^ 32 := fun i l1 l2 => by
    obtain ⟨b, hb, hlt⟩ := fl i (by omega) (.inr ⟨l1, l2⟩)
    simp only [bitsAt, hb]; exact ⟨trivial, hlt⟩
  refine ⟨⟨gOf cs, fun i => bitsAt cs (195 + i), fun i => bitsAt cs (259 + i), bitsAt cs 323⟩, ?_, h2, fun i hi => (bit _ (by omega) (by omega)).2, fun i hi => (bit _ (by omega) (by omega)).2, (bit _ (by omega) (by omega)).2⟩
  refine congrArg Value.agg ?_
  apply Array.ext_getElem?
  intro i
  rw [brcells_at]
  by_cases hi : i < 195
  · rw [if_pos hi]; exact h1 i hi
  rw [if_neg hi]
  by_cases h3 : i < 259
  · rw [if_pos h3, (bit i (by omega) (by omega)).1]; simp only; rw [show 195 + (i - 195) = i by omega]
  rw [if_neg h3]
  by_cases h4 : i < 323
  · rw [if_pos h4, (bit i (by omega) (by omega)).1]; simp only; rw [show 259 + (i - 259) = i by omega]
  rw [if_neg h4]
  by_cases h5 : i = 323
  · subst h5; rw [if_pos rfl, (bit 323 (by omega) (by omega)).1]
  rw [if_neg h5, Array.getElem?_eq_none (by omega)]

theorem eq_cells2 {cs : Array Value} (hs : cs.size = 2) {x y : Value} (h0 : cs[0]? = some x) (h1 : cs[1]? = some y) : cs = #[x, y] := by
  apply Array.ext_getElem?
  intro i
  match i with
  | 0 => rw [h0]; rfl
  | 1 => rw [h1]; rfl
  | i + 2 => rw [Array.getElem?_eq_none (by omega)]; rfl

theorem eq_cells3 {cs : Array Value} (hs : cs.size = 3) {x y z : Value} (h0 : cs[0]? = some x) (h1 : cs[1]? = some y) (h2 : cs[2]? = some z) : cs = #[x, y, z] := by
  apply Array.ext_getElem?
  intro i
  match i with
  | 0 => rw [h0]; rfl
  | 1 => rw [h1]; rfl
  | 2 => rw [h2]; rfl
  | i + 3 => rw [Array.getElem?_eq_none (by omega)]; rfl

theorem eq_cells5 {cs : Array Value} (hs : cs.size = 5) {x y z p q : Value} (h0 : cs[0]? = some x) (h1 : cs[1]? = some y) (h2 : cs[2]? = some z) (h3 : cs[3]? = some p) (h4 : cs[4]? = some q) : cs = #[x, y, z, p, q] := by
  apply Array.ext_getElem?
  intro i
  match i with
  | 0 => rw [h0]; rfl
  | 1 => rw [h1]; rfl
  | 2 => rw [h2]; rfl
  | 3 => rw [h3]; rfl
  | 4 => rw [h4]; rfl
  | i + 5 => rw [Array.getElem?_eq_none (by omega)]; rfl

/-- two floats -/
theorem open_aquifer {c : TypeId} (hu : ∃ fs, P.underlying t = some (.struct fs)) (hts : P.cellTypes P.depth t = some [c, c]) (hc : P.cellsOf t = 2) (hf : P.underlying c = some (.float .f32))
    (h : Value.okWide P w r base t v) : ∃ x y, v = .agg #[.float .f32 x, .float .f32 y] ∧ x < 2 ^ 32 ∧ y < 2 ^ 32 := by
  obtain ⟨cs, rfl, hs, hx⟩ := val_agg (.inl hu) hts (by simpa using hc) h
  obtain ⟨v0, e0, k0⟩ := hx 0 c rfl
  obtain ⟨v1, e1, k1⟩ := hx 1 c rfl
  obtain ⟨x, rfl, hx0⟩ := cell_f32 hf k0
  obtain ⟨y, rfl, hy0⟩ := cell_f32 hf k1
  exact ⟨x, y, by rw [eq_cells2 hs e0 e1], hx0, hy0⟩

/-- a well -/
theorem open_well {a c : TypeId} (hu : ∃ fs, P.underlying t = some (.struct fs)) (hts : P.cellTypes P.depth t = some [a, a, c]) (hc : P.cellsOf t = 3) (ha : P.underlying a = some (.int .i8)) (hf : P.underlying c = some (.float .f32))
    (h : Value.okWide P w r base t v) : ∃ x y q, v = .agg #[.int .i8 x, .int .i8 y, .float .f32 q] ∧ (-128 ≤ x ∧ x ≤ 127) ∧ (-128 ≤ y ∧ y ≤ 127) ∧ q < 2 ^ 32 := by
  obtain ⟨cs, rfl, hs, hx⟩ := val_agg (.inl hu) hts (by simpa using hc) h
  obtain ⟨v0, e0, k0⟩ := hx 0 a rfl
  obtain ⟨v1, e1, k1⟩ := hx 1 a rfl
  obtain ⟨v2, e2, k2⟩ := hx 2 c rfl
  obtain ⟨x, rfl, hx0⟩ := cell_int ha k0
  obtain ⟨y, rfl, hy0⟩ := cell_int ha k1
  obtain ⟨q, rfl, hq0⟩ := cell_f32 hf k2
  exact ⟨x, y, q, by rw [eq_cells3 hs e0 e1 e2], hx0, hy0, hq0⟩

/-- a reading -/
theorem open_reading {a c : TypeId} (hu : ∃ fs, P.underlying t = some (.struct fs)) (hts : P.cellTypes P.depth t = some [a, c]) (hc : P.cellsOf t = 2) (ha : P.underlying a = some (.int .i64)) (hf : P.underlying c = some (.int .i16))
    (h : Value.okWide P w r base t v) : ∃ x y, v = .agg #[.int .i64 x, .int .i16 y] ∧ (IntKind.i64.min ≤ x ∧ x ≤ IntKind.i64.max) ∧ (-32768 ≤ y ∧ y ≤ 32767) := by
  obtain ⟨cs, rfl, hs, hx⟩ := val_agg (.inl hu) hts (by simpa using hc) h
  obtain ⟨v0, e0, k0⟩ := hx 0 a rfl
  obtain ⟨v1, e1, k1⟩ := hx 1 c rfl
  obtain ⟨x, rfl, hx0⟩ := cell_int ha k0
  obtain ⟨y, rfl, hy0⟩ := cell_int hf k1
  exact ⟨x, y, by rw [eq_cells2 hs e0 e1], hx0, hy0⟩

/-- a site: a well and a place -/
theorem open_site {a c : TypeId} (hu : ∃ fs, P.underlying t = some (.struct fs)) (hts : P.cellTypes P.depth t = some [a, a, c, a, a]) (hc : P.cellsOf t = 5) (ha : P.underlying a = some (.int .i8)) (hf : P.underlying c = some (.float .f32))
    (h : Value.okWide P w r base t v) : ∃ x y q i j, v = .agg #[.int .i8 x, .int .i8 y, .float .f32 q, .int .i8 i, .int .i8 j] ∧ (-128 ≤ x ∧ x ≤ 127) ∧ (-128 ≤ y ∧ y ≤ 127) ∧ q < 2 ^ 32 ∧ (-128 ≤ i ∧ i ≤ 127) ∧ (-128 ≤ j ∧ j ≤ 127) := by
  obtain ⟨cs, rfl, hs, hx⟩ := val_agg (.inl hu) hts (by simpa using hc) h
  obtain ⟨v0, e0, k0⟩ := hx 0 a rfl
  obtain ⟨v1, e1, k1⟩ := hx 1 a rfl
  obtain ⟨v2, e2, k2⟩ := hx 2 c rfl
  obtain ⟨v3, e3, k3⟩ := hx 3 a rfl
  obtain ⟨v4, e4, k4⟩ := hx 4 a rfl
  obtain ⟨x, rfl, hx0⟩ := cell_int ha k0
  obtain ⟨y, rfl, hy0⟩ := cell_int ha k1
  obtain ⟨q, rfl, hq0⟩ := cell_f32 hf k2
  obtain ⟨i, rfl, hi0⟩ := cell_int ha k3
  obtain ⟨j, rfl, hj0⟩ := cell_int ha k4
  exact ⟨x, y, q, i, j, by rw [eq_cells5 hs e0 e1 e2 e3 e4], hx0, hy0, hq0, hi0, hj0⟩

end
end Go.Vc
