/- Decay, and the falling exponential. -/
import Derived.Test.YtkjlndflcfboeaaSmall
namespace Go.Proofs.Ytkjlndflcfboeaa
open Go Go.Fl Go.Vc
set_option linter.all false
set_option maxRecDepth 10000

theorem wsuc {i : Nat} (h : i < 4611686018427387904) : IntKind.i64.wrap ((i : Int) + 1) = ((i + 1 : Nat) : Int) := by rw [IntWalk.i64_in _ (by omega)]; rfl
theorem below_suc {p : Nat → Prop} {i : Nat} (h : ∀ j, j < i → p j) (hi : p i) : ∀ j, j < i + 1 → p j := fun j hj => by
  by_cases e : j = i
  · subst e; exact hi
  · exact h j (by omega)

/-- a float and a code -/
abbrev IsFI (x : Nat) (c : Int) (v : Value) : Prop := ∃ r, v = .tuple #[.float .f32 r, .int .i64 c] ∧ cn .f32 r = x
theorem isFI_of {r x : Nat} {c c' : Int} (hx : cn .f32 r = x) (hc : c = c') : IsFI x c' (.tuple #[.float .f32 r, .int .i64 c]) := ⟨r, by rw [hc], hx⟩

/-! ### comparisons of numbers that are no NaN -/
theorem ord_some {k : FloatKind} {x y : Nat} (hx : nan k x = false) (hy : nan k y = false) : ∃ o, k.format.order x y = some o := by
  unfold nan at hx hy
  unfold Ieee.Format.order
  cases h1 : k.format.read x with
  | nan s f => rw [h1] at hx; cases hx
  | infinity s =>
    cases h2 : k.format.read y with
    | nan s f => rw [h2] at hy; cases hy
    | infinity t => exact ⟨_, rfl⟩
    | number t n j => exact ⟨_, rfl⟩
  | number s m i =>
    cases h2 : k.format.read y with
    | nan s f => rw [h2] at hy; cases hy
    | infinity t => exact ⟨_, rfl⟩
    | number t n j => exact ⟨_, rfl⟩
theorem ord_none {k : FloatKind} {x y : Nat} (hx : nan k x = true) : k.format.order x y = none := by
  obtain ⟨s, f, hr⟩ := read_nan hx
  unfold Ieee.Format.order
  rw [hr]; rfl
theorem num_of_ge {x c : Nat} (h : fcmp .geq .f32 x c = true) : nan .f32 x = false := by
  cases hn : nan .f32 x with
  | false => rfl
  | true => simp [fcmp, ord_none hn] at h
theorem le_false {x c : Nat} (h : fcmp .gtr .f32 x c = true) : fcmp .leq .f32 x c = false := by
  simp only [fcmp] at h ⊢
  cases ho : FloatKind.f32.format.order x c with
  | none => rfl
  | some o => rw [ho] at h; cases o <;> first | rfl | cases h
theorem gt_of_num {x c : Nat} (hx : nan .f32 x = false) (hc : nan .f32 c = false) : fcmp .gtr .f32 x c = !fcmp .leq .f32 x c := by
  obtain ⟨o, ho⟩ := ord_some hx hc
  simp only [fcmp, ho]
  cases o <;> rfl

/-! ### decay -/
def decayF (a k : Nat) : Nat → Nat
  | 0 => a
  | n + 1 => fop .mul .f32 (decayF a k n) k

def keepB (a k : Nat) (t : Int) : Bool := amountB a && fcmp .geq .f32 k (cn .f32 0) && fcmp .leq .f32 k (cn .f32 1065353216) && inB t 0 1000

theorem nat_times {t : Int} (h : inB t 0 1000 = true) : ∃ m : Nat, t = (m : Int) ∧ m ≤ 1000 := by
  have := inB_le h
  exact ⟨t.toNat, by omega, by omega⟩
theorem times_of_keep {a k : Nat} {t : Int} (h : keepB a k t = true) : inB t 0 1000 = true := by
  simp only [keepB, Bool.and_eq_true] at h; exact h.2

def decR (a k : Nat) (t : Int) : Nat × Int := if keepB a k t then (decayF a k t.toNat, 0) else (cn .f32 0, 2)

/-! ### gone after -/
def eq0 (x : Nat) : Bool := fcmp .eql .f32 x (cn .f32 0)
def goneR (a k : Nat) (t : Int) : Int × Int :=
  if keepB a k t then (match (List.range (t.toNat + 1)).find? (fun i => eq0 (decayF a k i)) with | some i => ((i : Int), 0) | none => (0, 7)) else (0, 2)
abbrev goneV (a k : Nat) (t : Int) : Value := .tuple #[.int .i64 (goneR a k t).1, .int .i64 (goneR a k t).2]

theorem gone_at {a k m i : Nat} (hk : keepB a k (m : Int) = true) (hi : i ≤ m) (hz : eq0 (decayF a k i) = true) (hb : ∀ j, j < i → eq0 (decayF a k j) = false) : goneR a k m = ((i : Int), 0) := by
  have : (List.range (m + 1)).find? (fun i => eq0 (decayF a k i)) = some i := by
    rw [List.find?_range_eq_some]
    exact ⟨hz, by simp; omega, fun j hj => by simp [hb j hj]⟩
  simp [goneR, hk, this]
theorem gone_no {a k m : Nat} (hk : keepB a k (m : Int) = true) (hb : ∀ j, j < m + 1 → eq0 (decayF a k j) = false) : goneR a k m = (0, 7) := by
  have : (List.range (m + 1)).find? (fun i => eq0 (decayF a k i)) = none := by
    rw [List.find?_range_eq_none]
    exact fun j hj => by simp [hb j hj]
  simp [goneR, hk, this]

/-! ### the falling exponential -/
def sqF (p : Nat) : Nat → Nat
  | 0 => p
  | n + 1 => fop .mul .f32 (sqF p n) (sqF p n)
def hornF (v p : Nat) : Nat := fop .add .f32 (fop .mul .f32 p v) (cn .f32 1065353216)
def expF (u : Nat) : Nat :=
  let v := fop .quo .f32 u (cn .f32 1132462080)
  fop .quo .f32 (cn .f32 1065353216) (sqF (hornF v (hornF v (fop .add .f32 (fop .mul .f32 v (cn .f32 1042983595)) (cn .f32 1056964608)))) 8)
def expOk (u : Nat) : Bool := if fcmp .geq .f32 u (cn .f32 0) then fcmp .leq .f32 u (cn .f32 1117782016) else false
def expR (u : Nat) : Nat × Int := if expOk u then (expF u, 0) else (cn .f32 0, 2)
theorem ratio_6 : ratioF 1 6 = cn .f32 1042983595 := by kernel_rfl
theorem num_80 : nan .f32 (cn .f32 1117782016) = false := by decide

end Go.Proofs.Ytkjlndflcfboeaa
