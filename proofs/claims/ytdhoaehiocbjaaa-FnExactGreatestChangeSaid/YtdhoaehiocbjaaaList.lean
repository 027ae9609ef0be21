/- The numbers of a field at the cells; sums; the least and the greatest head. -/
import Derived.Test.YtdhoaehiocbjaaaFlow
namespace Go.Proofs.Ytdhoaehiocbjaaa
open Go Go.Fl Go.Vc
set_option linter.all false
set_option maxRecDepth 10000

def flts (l : List Nat) : List Value := l.map fun (c : Nat) => Value.float .f32 c
theorem flts_length (l : List Nat) : (flts l).length = l.length := by simp [flts]
theorem flts_get {l : List Nat} {rest : Array Value} {j : Nat} (h : j < l.length) : ((flts l).toArray ++ rest)[j]? = some (.float .f32 (l.getD j 0)) := by
  rw [Array.getElem?_append_left (by simp [flts]; exact h)]
  simp [flts, h]

/-- a slice of the numbers of a list, in memory of its own -/
def FltsAt (e : Nat) (l : List Nat) (v : Value) (h : Hp) : Prop :=
  ∃ b cap rest, v = .slice (some ⟨b, 0, none⟩) l.length cap ∧ l.length + Array.size rest = cap ∧ h = [⟨b, (flts l).toArray ++ rest, e, true⟩]

/-! ### sums -/
def sumF : List Nat → Nat
  | [] => cn .f32 0
  | x :: xs => xs.foldl (fun a y => fop .add .f32 a (cn .f32 y)) (cn .f32 x)

/-- the cells behind the first -/
def restTo (g : G) (i : Nat) : List Nat := ((List.range i).map (· + 1)).filter (isC g)
theorem restTo_yes {g : G} {i : Nat} (h : isC g (i + 1) = true) : restTo g (i + 1) = restTo g i ++ [i + 1] := by
  unfold restTo; rw [List.range_succ, List.map_append, List.filter_append]; simp [h]
theorem restTo_no {g : G} {i : Nat} (h : isC g (i + 1) = false) : restTo g (i + 1) = restTo g i := by
  unfold restTo; rw [List.range_succ, List.map_append, List.filter_append]; simp [h]
theorem cells_rest {g : G} (h : isC g 0 = true) (i : Nat) : cellsTo g (i + 1) = 0 :: restTo g i := by
  unfold cellsTo restTo
  rw [List.range_succ_eq_map, List.filter_cons, if_pos h]
theorem zero_cell {g : G} (h : okG g = true) : isC g 0 = true := by
  obtain ⟨h1, h2⟩ := size_of_ok h
  unfold isC
  rw [if_pos (by show ((0 : Nat) : Int) < g.wide; omega)]
  simp; omega

def sumR (g : G) (f : Nat → Nat) : Nat × Int := if okG g then toldR (sumF ((cellsTo g 64).map f)) else (cn .f32 0, 1)

/-! ### the least and the greatest head -/
def hbV (s : Nat × Nat) (x : Nat) : Nat × Nat := (if fcmp .lss .f32 (cn .f32 x) (cn .f32 s.1) then x else s.1, if fcmp .gtr .f32 (cn .f32 x) (cn .f32 s.2) then x else s.2)
def hbF (g : G) (l : List Nat) : Nat × Nat := (l.map g.heads).foldl hbV (g.heads 0, g.heads 0)

theorem order_self (k : FloatKind) (x : Nat) : k.format.order x x = none ∨ k.format.order x x = some .eq := by
  unfold Ieee.Format.order
  cases k.format.read x with
  | nan s f => exact .inl rfl
  | infinity s => exact .inr (by simp [Ieee.Datum.order])
  | number s m p => exact .inr (by simp [Ieee.Datum.order])
theorem hb_first (x : Nat) : hbV (x, x) x = (x, x) := by
  unfold hbV fcmp
  rcases order_self .f32 (cn .f32 x) with h | h <;> rw [h] <;> simp
theorem hb_all {g : G} (h : isC g 0 = true) : hbF g (cellsTo g 64) = hbF g (restTo g 63) := by
  unfold hbF
  rw [cells_rest h 63, List.map_cons, List.foldl_cons, hb_first]

def hbR (g : G) : Nat × Nat × Int := if okG g then ((hbF g (restTo g 63)).1, (hbF g (restTo g 63)).2, 0) else (0, 0, 1)
abbrev hbVal (g : G) : Value := .tuple #[.float .f32 (hbR g).1, .float .f32 (hbR g).2.1, .int .i64 (hbR g).2.2]

end Go.Proofs.Ytdhoaehiocbjaaa
