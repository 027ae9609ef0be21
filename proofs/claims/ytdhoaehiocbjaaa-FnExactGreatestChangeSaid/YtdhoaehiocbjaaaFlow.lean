/- Flows between cells, balances of cells, settled heads. -/
import Derived.Test.YtdhoaehiocbjaaaFold
import Derived.Test.YtdhoaehiocbjaaaBeside
namespace Go.Proofs.Ytdhoaehiocbjaaa
open Go Go.Fl Go.Vc
set_option linter.all false
set_option maxRecDepth 10000

/-- a float and a code -/
abbrev IsFc (x : Nat) (c : Int) (v : Value) : Prop := ∃ r, v = .tuple #[.float .f32 r, .int .i64 c] ∧ cn .f32 r = x
theorem IsFc.of {x r : Nat} {c c' : Int} (hx : cn .f32 r = x) (hc : c = c') : IsFc x c' (.tuple #[.float .f32 r, .int .i64 c]) := ⟨r, by rw [hc], hx⟩
def toldR (x : Nat) : Nat × Int := if finB x then (x, 0) else (cn .f32 0, 4)

/-! ### the neighbour -/
theorem beside_cases {g : G} (hz : g.wide ≤ 8 ∧ g.high ≤ 8) (n : Nat) (s : Int) : besideR g n s = -1 ∨ ∃ k : Nat, besideR g n s = (k : Int) ∧ k < 64 := by
  unfold besideR
  split
  · rename_i h
    exact .inr ⟨(besX n s + 8 * besY n s).toNat, by omega, by omega⟩
  · exact .inl rfl
theorem size_of_ok {g : G} (h : okG g = true) : (2 ≤ g.wide ∧ g.wide ≤ 8) ∧ (2 ≤ g.high ∧ g.high ≤ 8) := by
  unfold okG at h
  split at h
  · rename_i hs
    unfold sizesB at hs
    split at hs
    · rename_i h1
      rw [inB_iff] at h1 hs
      exact ⟨h1, hs⟩
    · cases hs
  · cases h
theorem small_of_ok {g : G} (h : okG g = true) : g.wide ≤ 8 ∧ g.high ≤ 8 := ⟨(size_of_ok h).1.2, (size_of_ok h).2.2⟩

def flowK (g : G) (n k : Nat) : Nat := fop .mul .f32 (jointF (cn .f32 (g.con n)) (cn .f32 (g.con k))) (fop .sub .f32 (cn .f32 (g.heads n)) (cn .f32 (g.heads k)))
def flowF (g : G) (n : Nat) (s : Int) : Nat := if besideR g n s < 0 then cn .f32 0 else flowK g n (besideR g n s).toNat

theorem flowF_k {g : G} {n k : Nat} {s : Int} (h : besideR g n s = (k : Int)) : flowF g n s = flowK g n k := by
  unfold flowF; rw [h, if_neg (by omega)]; rfl
theorem flowF_no {g : G} {n : Nat} {s : Int} (h : besideR g n s = -1) : flowF g n s = cn .f32 0 := by
  unfold flowF; rw [h, if_pos (by omega)]

def flowR (g : G) (n s : Int) : Nat × Int := if sidedR g n s = 0 then toldR (flowF g n.toNat s) else (cn .f32 0, sidedR g n s)

theorem ok_of_asked {g : G} {n : Int} (h : askedR g n = 0) : okG g = true := by
  unfold askedR at h
  split at h
  · assumption
  · cases h
theorem asked_of_sided {g : G} {n s : Int} (h : sidedR g n s = 0) : askedR g n = 0 := by
  unfold sidedR at h
  split at h
  · assumption
  · exact h
theorem asked_side {g : G} {n s : Int} (h : sidedR g n s = 0) : (∃ m : Nat, n = (m : Int) ∧ m < 64) ∧ 0 ≤ s ∧ s ≤ 3 := by
  unfold sidedR at h
  split at h
  · rename_i ha
    split at h
    · rename_i hs
      have h1 : 0 ≤ s ∧ s ≤ 3 := by rw [inB_iff] at hs; exact hs
      refine ⟨?_, h1⟩
      unfold askedR at ha
      split at ha
      · split at ha
        · rename_i hin; exact nat_of_in hin
        · cases ha
      · cases ha
    · cases h
  · rename_i ha; exact absurd h ha

/-! ### balances -/
def balF (g : G) (n : Nat) : Nat → Nat
  | 0 => cn .f32 (g.gain n)
  | i + 1 => if 0 ≤ besideR g n (i : Nat) then fop .sub .f32 (balF g n i) (flowF g n (i : Nat)) else balF g n i

def balR (g : G) (n : Int) : Nat × Int := if askedR g n = 0 then toldR (balF g n.toNat 4) else (cn .f32 0, askedR g n)

theorem asked_nat' {g : G} {n : Int} (h : askedR g n = 0) : ∃ m : Nat, n = (m : Int) ∧ m < 64 := by
  unfold askedR at h
  split at h
  · split at h
    · rename_i hin; exact nat_of_in hin
    · cases h
  · cases h

/-! ### settled heads -/
def aboveF (g : G) (n : Nat) : Nat → Nat
  | 0 => cn .f32 (g.gain n)
  | i + 1 => if 0 ≤ besideR g n (i : Nat) then fop .add .f32 (aboveF g n i) (fop .mul .f32 (jointF (cn .f32 (g.con n)) (cn .f32 (g.con (besideR g n (i : Nat)).toNat))) (cn .f32 (g.heads (besideR g n (i : Nat)).toNat))) else aboveF g n i
def belowF (g : G) (n : Nat) : Nat → Nat
  | 0 => cn .f32 0
  | i + 1 => if 0 ≤ besideR g n (i : Nat) then fop .add .f32 (belowF g n i) (jointF (cn .f32 (g.con n)) (cn .f32 (g.con (besideR g n (i : Nat)).toNat))) else belowF g n i
def eqZ (x : Nat) : Bool := fcmp .eql .f32 x (cn .f32 0)
def settF (g : G) (n : Nat) : Nat := if fixB g.fixed n then cn .f32 (g.heads n) else if eqZ (belowF g n 4) then cn .f32 (g.heads n) else fop .quo .f32 (aboveF g n 4) (belowF g n 4)

def headR (g : G) (n : Int) : Nat × Int := if askedR g n = 0 then toldR (settF g n.toNat) else (cn .f32 0, askedR g n)

end Go.Proofs.Ytdhoaehiocbjaaa
