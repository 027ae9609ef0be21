/- Fields, grounds and brines as rows of cells. -/
import Derived.Test.YtnfipcfhnhhcmaaDoorFl
import Derived.Test.YtnfipcfhnhhcmaaDoorVcOps
set_option linter.all false
namespace Go.Vc
open Go Go.Fl

def fcells (f : Nat → Nat) : Array Value := ((List.range 64).map fun i => Value.float .f32 (f i)).toArray
def fz : Nat → Nat := fun _ => 0

structure G where
  wide : Int
  high : Int
  con : Nat → Nat
  gain : Nat → Nat
  heads : Nat → Nat
  fixed : Int

def gz : G := ⟨0, 0, fz, fz, fz, 0⟩

def gcells (g : G) : Array Value := #[.int .i8 g.wide, .int .i8 g.high] ++ (fcells g.con ++ (fcells g.gain ++ (fcells g.heads ++ #[.int .u64 g.fixed])))

structure Br where
  g : G
  salt : Nat → Nat
  spring : Nat → Nat
  room : Nat

def brz : Br := ⟨gz, fz, fz, 0⟩

def brcells (b : Br) : Array Value := gcells b.g ++ (fcells b.salt ++ (fcells b.spring ++ #[.float .f32 b.room]))

theorem fcells_size (f : Nat → Nat) : (fcells f).size = 64 := by simp [fcells]
theorem gcells_size (g : G) : (gcells g).size = 195 := by simp [gcells, fcells_size]
theorem brcells_size (b : Br) : (brcells b).size = 324 := by simp [brcells, fcells_size, gcells_size]

theorem fcells_at (f : Nat → Nat) (j : Nat) : (fcells f)[j]? = if j < 64 then some (.float .f32 (f j)) else none := by
  simp only [fcells, List.getElem?_toArray, List.getElem?_map, List.getElem?_range]
  split
  · rename_i h; simp [List.getElem?_range, h]
  · rename_i h; simp [List.getElem?_range, h]

theorem gcells_at (g : G) (j : Nat) : (gcells g)[j]? =
    if j = 0 then some (.int .i8 g.wide) else if j = 1 then some (.int .i8 g.high) else if j < 66 then some (.float .f32 (g.con (j - 2)))
    else if j < 130 then some (.float .f32 (g.gain (j - 66))) else if j < 194 then some (.float .f32 (g.heads (j - 130))) else if j = 194 then some (.int .u64 g.fixed) else none := by
  unfold gcells
  by_cases h0 : j = 0
  · subst h0; rw [if_pos rfl, Array.getElem?_append_left (by simp)]; rfl
  by_cases h1 : j = 1
  · subst h1; rw [if_neg (by decide), if_pos rfl, Array.getElem?_append_left (by simp)]; rfl
  rw [if_neg h0, if_neg h1, Array.getElem?_append_right (by simp; omega)]
  simp only [List.size_toArray, List.length_cons, List.length_nil, Nat.zero_add, Nat.reduceAdd]
  by_cases h2 : j < 66
  · rw [if_pos h2, Array.getElem?_append_left (by rw [fcells_size]; omega), fcells_at, if_pos (by omega)]
  rw [if_neg h2, Array.getElem?_append_right (by rw [fcells_size]; omega), fcells_size]
  by_cases h3 : j < 130
  · rw [if_pos h3, Array.getElem?_append_left (by rw [fcells_size]; omega), fcells_at, if_pos (by omega), show j - 2 - 64 = j - 66 by omega]
  rw [if_neg h3, Array.getElem?_append_right (by rw [fcells_size]; omega), fcells_size]
  by_cases h4 : j < 194
  · rw [if_pos h4, Array.getElem?_append_left (by rw [fcells_size]; omega), fcells_at, if_pos (by omega), show j - 2 - 64 - 64 = j - 130 by omega]
  rw [if_neg h4, Array.getElem?_append_right (by rw [fcells_size]; omega), fcells_size]
  by_cases h5 : j = 194
  · subst h5; rfl
  rw [if_neg h5]
  exact Array.getElem?_eq_none (by simp; omega)

theorem brcells_at (b : Br) (j : Nat) : (brcells b)[j]? =
    if j < 195 then (gcells b.g)[j]? else if j < 259 then some (.float .f32 (b.salt (j - 195))) else if j < 323 then some (.float .f32 (b.spring (j - 259))) else if j = 323 then some (.float .f32 b.room) else none := by
  unfold brcells
  by_cases h0 : j < 195
  · rw [if_pos h0, Array.getElem?_append_left (by rw [gcells_size]; omega)]
  rw [if_neg h0, Array.getElem?_append_right (by rw [gcells_size]; omega), gcells_size]
  by_cases h2 : j < 259
  · rw [if_pos h2, Array.getElem?_append_left (by rw [fcells_size]; omega), fcells_at, if_pos (by omega)]
  rw [if_neg h2, Array.getElem?_append_right (by rw [fcells_size]; omega), fcells_size]
  by_cases h3 : j < 323
  · rw [if_pos h3, Array.getElem?_append_left (by rw [fcells_size]; omega), fcells_at, if_pos (by omega), show j - 195 - 64 = j - 259 by omega]
  rw [if_neg h3, Array.getElem?_append_right (by rw [fcells_size]; omega), fcells_size]
  by_cases h5 : j = 323
  · subst h5; rfl
  rw [if_neg h5]
  exact Array.getElem?_eq_none (by simp; omega)

theorem fcells_get (f : Nat → Nat) (i : Nat) (h : i < 64) : (fcells f)[i]? = some (.float .f32 (f i)) := by rw [fcells_at, if_pos h]
theorem g_wide (g : G) : (gcells g)[0]? = some (.int .i8 g.wide) := by rw [gcells_at, if_pos rfl]
theorem g_high (g : G) : (gcells g)[1]? = some (.int .i8 g.high) := by rw [gcells_at, if_neg (by decide), if_pos rfl]
theorem g_fixed (g : G) : (gcells g)[194]? = some (.int .u64 g.fixed) := by rw [gcells_at]; rfl
theorem g_con (g : G) (i : Nat) (h : i < 64) : (gcells g)[2 + i]? = some (.float .f32 (g.con i)) := by
  rw [gcells_at, if_neg (by omega), if_neg (by omega), if_pos (by omega), show 2 + i - 2 = i by omega]
theorem g_gain (g : G) (i : Nat) (h : i < 64) : (gcells g)[66 + i]? = some (.float .f32 (g.gain i)) := by
  rw [gcells_at, if_neg (by omega), if_neg (by omega), if_neg (by omega), if_pos (by omega), show 66 + i - 66 = i by omega]
theorem g_heads (g : G) (i : Nat) (h : i < 64) : (gcells g)[130 + i]? = some (.float .f32 (g.heads i)) := by
  rw [gcells_at, if_neg (by omega), if_neg (by omega), if_neg (by omega), if_neg (by omega), if_pos (by omega), show 130 + i - 130 = i by omega]
theorem br_ground (b : Br) (j : Nat) (h : j < 195) : (brcells b)[j]? = (gcells b.g)[j]? := by rw [brcells_at, if_pos h]
theorem br_salt (b : Br) (i : Nat) (h : i < 64) : (brcells b)[195 + i]? = some (.float .f32 (b.salt i)) := by
  rw [brcells_at, if_neg (by omega), if_pos (by omega), show 195 + i - 195 = i by omega]
theorem br_spring (b : Br) (i : Nat) (h : i < 64) : (brcells b)[259 + i]? = some (.float .f32 (b.spring i)) := by
  rw [brcells_at, if_neg (by omega), if_neg (by omega), if_pos (by omega), show 259 + i - 259 = i by omega]
theorem br_room (b : Br) : (brcells b)[323]? = some (.float .f32 b.room) := by rw [brcells_at]; rfl

/-- a row of 64 numbers out of a longer row -/
theorem extract_field {cs : Array Value} {off : Nat} {f : Nat → Nat} (h : ∀ i, i < 64 → cs[off + i]? = some (.float .f32 (f i))) : cs.extract off (off + 64) = fcells f := by
  apply Array.ext_getElem?
  intro j
  rw [Array.getElem?_extract, fcells_at]
  have h63 := (Array.getElem?_eq_some_iff.1 (h 63 (by omega))).1
  by_cases hj : j < 64
  · rw [if_pos (by omega), if_pos hj, h j hj]
  · rw [if_neg (by omega), if_neg hj]

theorem g_ext_con (g : G) : (gcells g).extract 2 66 = fcells g.con := extract_field (off := 2) fun i h => g_con g i h
theorem g_ext_gain (g : G) : (gcells g).extract 66 130 = fcells g.gain := extract_field (off := 66) fun i h => g_gain g i h
theorem g_ext_heads (g : G) : (gcells g).extract 130 194 = fcells g.heads := extract_field (off := 130) fun i h => g_heads g i h
theorem g_ext_all (g : G) : (gcells g).extract 0 195 = gcells g := by
  have := gcells_size g
  rw [← this]; simp
theorem f_ext_all (f : Nat → Nat) : (fcells f).extract 0 64 = fcells f := by
  have := fcells_size f
  rw [← this]; simp
theorem br_ext_salt (b : Br) : (brcells b).extract 195 259 = fcells b.salt := extract_field (off := 195) fun i h => br_salt b i h
theorem br_ext_spring (b : Br) : (brcells b).extract 259 323 = fcells b.spring := extract_field (off := 259) fun i h => br_spring b i h
theorem br_ext_all (b : Br) : (brcells b).extract 0 324 = brcells b := by
  have := brcells_size b
  rw [← this]; simp
theorem br_ext_ground (b : Br) : (brcells b).extract 0 195 = gcells b.g := by
  apply Array.ext_getElem?
  intro j
  rw [Array.getElem?_extract, Nat.zero_add, brcells_size]
  by_cases hj : j < 195
  · rw [if_pos (by omega), br_ground b j hj]
  · rw [if_neg (by omega)]
    exact (Array.getElem?_eq_none (by rw [gcells_size]; omega)).symm

def upn (f : Nat → Nat) (i x : Nat) : Nat → Nat := fun j => if j = i then x else f j

theorem f_set (f : Nat → Nat) (i x : Nat) (h : i < 64) : (fcells f).setIfInBounds i (.float .f32 x) = fcells (upn f i x) := by
  apply Array.ext_getElem?
  intro j
  rw [Array.getElem?_setIfInBounds, fcells_at, fcells_at, fcells_size, if_pos h]
  unfold upn
  by_cases e : i = j
  · subst e; rw [if_pos rfl, if_pos h, if_pos rfl]
  · rw [if_neg e, if_neg (Ne.symm e)]

theorem g_set_wide (g : G) (n : Int) : (gcells g).setIfInBounds 0 (.int .i8 n) = gcells { g with wide := n } := by
  apply Array.ext_getElem?
  intro j
  rw [Array.getElem?_setIfInBounds, gcells_at, gcells_at, gcells_size]
  by_cases e : 0 = j
  · subst e; rfl
  · rw [if_neg e, if_neg (Ne.symm e), if_neg (Ne.symm e)]
theorem g_set_high (g : G) (n : Int) : (gcells g).setIfInBounds 1 (.int .i8 n) = gcells { g with high := n } := by
  apply Array.ext_getElem?
  intro j
  rw [Array.getElem?_setIfInBounds, gcells_at, gcells_at, gcells_size]
  by_cases e : 1 = j
  · subst e; rfl
  · rw [if_neg e, if_neg (Ne.symm e), if_neg (Ne.symm e)]
theorem g_set_fixed (g : G) (n : Int) : (gcells g).setIfInBounds 194 (.int .u64 n) = gcells { g with fixed := n } := by
  apply Array.ext_getElem?
  intro j
  rw [Array.getElem?_setIfInBounds, gcells_at, gcells_at, gcells_size]
  by_cases e : 194 = j
  · subst e; rfl
  · rw [if_neg e, if_neg (Ne.symm e), if_neg (Ne.symm e)]

theorem g_set_con (g : G) (i x : Nat) (h : i < 64) : (gcells g).setIfInBounds (2 + i) (.float .f32 x) = gcells { g with con := upn g.con i x } := by
  apply Array.ext_getElem?
  intro j
  rw [Array.getElem?_setIfInBounds, gcells_at, gcells_at, gcells_size]
  unfold upn
  by_cases e : 2 + i = j
  · subst e; rw [if_pos rfl, if_pos (by omega), if_neg (by omega), if_neg (by omega), if_pos (by omega)]; simp
  · rw [if_neg e]
    by_cases hj : j < 66 ∧ j ≠ 0 ∧ j ≠ 1
    · simp only [hj, if_true, if_false]; rw [if_neg (by omega)]
    · repeat (first | with_reducible rfl | split <;> try omega)
theorem g_set_gain (g : G) (i x : Nat) (h : i < 64) : (gcells g).setIfInBounds (66 + i) (.float .f32 x) = gcells { g with gain := upn g.gain i x } := by
  apply Array.ext_getElem?
  intro j
  rw [Array.getElem?_setIfInBounds, gcells_at, gcells_at, gcells_size]
  unfold upn
  by_cases e : 66 + i = j
  · subst e; rw [if_pos rfl, if_pos (by omega), if_neg (by omega), if_neg (by omega), if_neg (by omega), if_pos (by omega)]; simp
  · rw [if_neg e]
    by_cases hj : j < 130 ∧ ¬ j < 66 ∧ j ≠ 0 ∧ j ≠ 1
    · simp only [hj, if_true, if_false]; rw [if_neg (by omega)]
    · repeat (first | with_reducible rfl | split <;> try omega)
theorem g_set_heads (g : G) (i x : Nat) (h : i < 64) : (gcells g).setIfInBounds (130 + i) (.float .f32 x) = gcells { g with heads := upn g.heads i x } := by
  apply Array.ext_getElem?
  intro j
  rw [Array.getElem?_setIfInBounds, gcells_at, gcells_at, gcells_size]
  unfold upn
  by_cases e : 130 + i = j
  · subst e; rw [if_pos rfl, if_pos (by omega), if_neg (by omega), if_neg (by omega), if_neg (by omega), if_neg (by omega), if_pos (by omega)]; simp
  · rw [if_neg e]
    by_cases hj : j < 194 ∧ ¬ j < 130
    · rw [if_neg (by omega), if_neg (by omega), if_neg (by omega), if_neg (by omega), if_pos (by omega), if_neg (by omega), if_neg (by omega), if_neg (by omega), if_neg (by omega), if_pos (by omega)]
      dsimp only; rw [if_neg (by omega)]
    · repeat (first | with_reducible rfl | split <;> try omega)

theorem splice_at {cs vs : Array Value} {off : Nat} (h : off + vs.size ≤ cs.size) (j : Nat) : (splice cs off vs)[j]? = if off ≤ j ∧ j < off + vs.size then vs[j - off]? else cs[j]? := by
  unfold splice
  have hs : (cs.extract 0 off).size = off := by simp; omega
  have hs2 : (cs.extract 0 off ++ vs).size = off + vs.size := by rw [Array.size_append, hs]
  by_cases h1 : j < off
  · rw [if_neg (by omega), Array.getElem?_append_left (by omega), Array.getElem?_append_left (by omega), Array.getElem?_extract, if_pos (by omega), Nat.zero_add]
  · by_cases h2 : j < off + vs.size
    · rw [if_pos (by omega), Array.getElem?_append_left (by omega), Array.getElem?_append_right (by omega), hs]
    · rw [if_neg (by omega), Array.getElem?_append_right (by omega), hs2, Array.getElem?_extract]
      by_cases h3 : j < cs.size
      · rw [if_pos (by omega), show off + vs.size + (j - (off + vs.size)) = j by omega]
      · rw [if_neg (by omega), Array.getElem?_eq_none (by omega)]

theorem splice_all {cs vs : Array Value} (h : vs.size = cs.size) : splice cs 0 vs = vs := by
  apply Array.ext_getElem?
  intro j
  rw [splice_at (by omega), Nat.sub_zero]
  split
  · rfl
  · rw [Array.getElem?_eq_none (by omega), Array.getElem?_eq_none (by omega)]

theorem g_splice_con (g : G) (f : Nat → Nat) : splice (gcells g) 2 (fcells f) = gcells { g with con := f } := by
  apply Array.ext_getElem?
  intro j
  rw [splice_at (by rw [fcells_size, gcells_size]; omega), fcells_size, fcells_at, gcells_at, gcells_at]
  by_cases hj : j < 66 ∧ j ≠ 0 ∧ j ≠ 1
  · rw [if_pos (by omega), if_pos (by omega), if_neg (by omega), if_neg (by omega), if_pos (by omega)]
  · rw [if_neg (by omega)]
    repeat (first | with_reducible rfl | split <;> try omega)
theorem g_splice_gain (g : G) (f : Nat → Nat) : splice (gcells g) 66 (fcells f) = gcells { g with gain := f } := by
  apply Array.ext_getElem?
  intro j
  rw [splice_at (by rw [fcells_size, gcells_size]; omega), fcells_size, fcells_at, gcells_at, gcells_at]
  by_cases hj : j < 130 ∧ ¬ j < 66
  · rw [if_pos (by omega), if_pos (by omega), if_neg (by omega), if_neg (by omega), if_neg (by omega), if_pos (by omega)]
  · rw [if_neg (by omega)]
    repeat (first | with_reducible rfl | split <;> try omega)
theorem g_splice_heads (g : G) (f : Nat → Nat) : splice (gcells g) 130 (fcells f) = gcells { g with heads := f } := by
  apply Array.ext_getElem?
  intro j
  rw [splice_at (by rw [fcells_size, gcells_size]; omega), fcells_size, fcells_at, gcells_at, gcells_at]
  by_cases hj : j < 194 ∧ ¬ j < 130
  · rw [if_pos (by omega), if_pos (by omega), if_neg (by omega), if_neg (by omega), if_neg (by omega), if_neg (by omega), if_pos (by omega)]
  · rw [if_neg (by omega)]
    repeat (first | with_reducible rfl | split <;> try omega)
theorem br_splice_ground (b : Br) (g : G) : splice (brcells b) 0 (gcells g) = brcells { b with g := g } := by
  apply Array.ext_getElem?
  intro j
  rw [splice_at (by rw [gcells_size, brcells_size]; omega), gcells_size, brcells_at, brcells_at]
  by_cases hj : j < 195
  · rw [if_pos (by omega), if_pos hj]; rfl
  · rw [if_neg (by omega), if_neg hj, if_neg hj]
theorem br_splice_salt (b : Br) (f : Nat → Nat) : splice (brcells b) 195 (fcells f) = brcells { b with salt := f } := by
  apply Array.ext_getElem?
  intro j
  rw [splice_at (by rw [fcells_size, brcells_size]; omega), fcells_size, fcells_at, brcells_at, brcells_at]
  by_cases hj : j < 259 ∧ ¬ j < 195
  · rw [if_pos (by omega), if_pos (by omega), if_neg (by omega), if_pos (by omega)]
  · rw [if_neg (by omega)]
    repeat (first | with_reducible rfl | split <;> try omega)
theorem br_splice_spring (b : Br) (f : Nat → Nat) : splice (brcells b) 259 (fcells f) = brcells { b with spring := f } := by
  apply Array.ext_getElem?
  intro j
  rw [splice_at (by rw [fcells_size, brcells_size]; omega), fcells_size, fcells_at, brcells_at, brcells_at]
  by_cases hj : j < 323 ∧ ¬ j < 259
  · rw [if_pos (by omega), if_pos (by omega), if_neg (by omega), if_neg (by omega), if_pos (by omega)]
  · rw [if_neg (by omega)]
    repeat (first | with_reducible rfl | split <;> try omega)
theorem br_set_room (b : Br) (x : Nat) : (brcells b).setIfInBounds 323 (.float .f32 x) = brcells { b with room := x } := by
  apply Array.ext_getElem?
  intro j
  rw [Array.getElem?_setIfInBounds, brcells_at, brcells_at, brcells_size]
  by_cases e : 323 = j
  · subst e; rfl
  · rw [if_neg e, if_neg (Ne.symm e), if_neg (Ne.symm e)]

theorem f_one (f : Nat → Nat) : (fcells f).all (·.oneCell') = true := by
  rw [Array.all_eq_true_iff_forall_mem]
  intro v hv
  obtain ⟨j, hj, e⟩ := Array.getElem_of_mem hv
  have : (fcells f)[j]? = some v := by rw [Array.getElem?_eq_getElem hj, e]
  rw [fcells_at] at this
  split at this <;> cases this
  rfl
theorem g_one (g : G) : (gcells g).all (·.oneCell') = true := by
  rw [Array.all_eq_true_iff_forall_mem]
  intro v hv
  obtain ⟨j, hj, e⟩ := Array.getElem_of_mem hv
  have : (gcells g)[j]? = some v := by rw [Array.getElem?_eq_getElem hj, e]
  rw [gcells_at] at this
  repeat' split at this
  all_goals (cases this; try rfl)
theorem br_one (b : Br) : (brcells b).all (·.oneCell') = true := by
  unfold brcells
  simp only [Array.all_append, g_one, f_one, Bool.true_and]
  simp [Value.oneCell']

end Go.Vc
