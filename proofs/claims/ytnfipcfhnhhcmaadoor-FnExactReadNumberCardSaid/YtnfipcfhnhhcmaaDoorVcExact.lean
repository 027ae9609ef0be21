/- Exact operations: their value hangs on the operands and on known blocks alone, so it is one and the same in every world where these blocks lie. -/
import Derived.Test.YtnfipcfhnhhcmaaDoorVcStepV
import Derived.Test.YtnfipcfhnhhcmaaDoorVcMix
set_option linter.all false
namespace Go.Vc
open Go Go.Fl

section
variable {P : Program} {Rf : Nat → Array Value → Value → Prop} {h : Hp} {ρ : Env} {k : Value → Prop}

theorem e1_getN {n : Option Nat} {cs : Array Value} {off : Nat} (hs : getN n cs off k) : ∃ v, k v ∧ getN n cs off (· = v) := by
  cases n with
  | some m => exact ⟨_, hs.2, hs.1, rfl⟩
  | none =>
    unfold getN at *
    simp only at hs ⊢
    cases hc : cs[off]? with
    | none => simp [hc] at hs
    | some v => rw [hc] at hs; exact ⟨v, hs, rfl⟩
theorem e1_pick {c a b : Value} (hs : vpick c a b k) : ∃ v, k v ∧ vpick c a b (· = v) := by
  unfold vpick at *; split at hs
  · exact ⟨_, hs, rfl⟩
  · exact hs.elim
theorem e1_load {n : Option Nat} {p : Value} (hs : vload n p h k) : ∃ v, k v ∧ vload n p h (· = v) := by
  unfold vload at *; split at hs
  · rename_i b off
    unfold vloadAt at *
    cases hc : look h b with
    | none => simp [hc] at hs
    | some x => rw [hc] at hs; exact e1_getN hs
  · exact hs.elim
theorem e1_addr {p : Value} {d : Nat} (hs : vaddr p d k) : ∃ v, k v ∧ vaddr p d (· = v) := by
  unfold vaddr at *; split at hs
  · exact ⟨_, hs, rfl⟩
  · exact hs.elim
theorem e1_idxA {len esz : Nat} {p i : Value} (hs : vidxA len esz p i k) : ∃ v, k v ∧ vidxA len esz p i (· = v) := by
  unfold vidxA at *; split at hs
  · exact ⟨_, hs.2, hs.1, rfl⟩
  · exact hs.elim
theorem e1_idxS {esz : Nat} {p i : Value} (hs : vidxS esz p i k) : ∃ v, k v ∧ vidxS esz p i (· = v) := by
  unfold vidxS at *; split at hs
  · exact ⟨_, hs.2, hs.1, rfl⟩
  · exact hs.elim
theorem e1_ixA {len esz : Nat} {m : Option Nat} {x i : Value} (hs : vixA len esz m x i k) : ∃ v, k v ∧ vixA len esz m x i (· = v) := by
  unfold vixA at *; split at hs
  · obtain ⟨v, h1, h2⟩ := e1_getN hs.2; exact ⟨v, h1, hs.1, h2⟩
  · exact hs.elim
theorem e1_ixStr {x i : Value} (hs : vixStr x i k) : ∃ v, k v ∧ vixStr x i (· = v) := by
  unfold vixStr at *; split at hs
  · obtain ⟨h0, hs⟩ := hs
    split at hs
    · rename_i hb; exact ⟨_, hs, h0, rfl⟩
    · exact hs.elim
  · exact hs.elim
theorem e1_fld {m : Option Nat} {off : Nat} {x : Value} (hs : vfld m off x k) : ∃ v, k v ∧ vfld m off x (· = v) := by
  unfold vfld at *; split at hs
  · exact e1_getN hs
  · exact hs.elim
theorem e1_int {op : BinOp} {kd : IntKind} {a b : Int} (hs : vint op kd a b k) : ∃ v, k v ∧ vint op kd a b (· = v) := by
  cases op <;> first
    | exact hs.elim
    | exact ⟨_, hs, rfl⟩
    | exact ⟨_, hs.2, hs.1, rfl⟩
theorem e1_bin {op : BinOp} {x y : Value} (hs : vbin op x y k) : ∃ v, k v ∧ vbin op x y (· = v) := by
  cases x <;> first | exact hs.elim | skip
  case int kx a =>
    cases y <;> first | exact hs.elim | skip
    case int ky b =>
      cases op <;> first
        | exact ⟨_, hs.2, hs.1, rfl⟩
        | (obtain ⟨v, h1, h2⟩ := e1_int hs.2; exact ⟨v, h1, hs.1, h2⟩)
  case string a =>
    cases y <;> first | exact hs.elim | skip
    case string b =>
      cases op <;> first
        | exact hs.elim
        | exact ⟨_, hs, rfl⟩
        | exact ⟨_, hs.2, hs.1, rfl⟩
theorem e1_beq {ne : Bool} {x y : Value} (hs : vbeq ne x y k) : ∃ v, k v ∧ vbeq ne x y (· = v) := by
  unfold vbeq at *; split at hs
  · exact ⟨_, hs, rfl⟩
  · exact hs.elim
theorem e1_un {op : UnOp} {x : Value} (hs : vun op x k) : ∃ v, k v ∧ vun op x (· = v) := by
  unfold vun at *; split at hs
  · exact ⟨_, hs, rfl⟩
  · exact ⟨_, hs, rfl⟩
  · exact ⟨_, hs, rfl⟩
  · exact hs.elim
theorem e1_ext {x : Value} {i : Nat} (hs : vext x i k) : ∃ v, k v ∧ vext x i (· = v) := by
  unfold vext at *; split at hs
  · split at hs
    · rename_i hv; exact ⟨_, hs, rfl⟩
    · exact hs.elim
  · exact hs.elim
theorem e1_nilc {x : Value} (hs : vnilc x k) : ∃ v, k v ∧ vnilc x (· = v) := by
  unfold vnilc at *; split at hs
  · exact ⟨_, hs, rfl⟩
  · exact ⟨_, hs, rfl⟩
  · exact hs.elim
theorem e1_lenS {x : Value} (hs : vlenS x k) : ∃ v, k v ∧ vlenS x (· = v) := by
  unfold vlenS at *; split at hs
  · exact ⟨_, hs, rfl⟩
  · exact hs.elim
theorem e1_lenL {x : Value} (hs : vlenL x k) : ∃ v, k v ∧ vlenL x (· = v) := by
  unfold vlenL at *; split at hs
  · exact ⟨_, hs, rfl⟩
  · exact hs.elim
theorem e1_f32 {x : Value} (hs : vf32bits x k) : ∃ v, k v ∧ vf32bits x (· = v) := by
  unfold vf32bits at *; split at hs
  · exact ⟨_, hs, rfl⟩
  · exact hs.elim
theorem e1_f64 {x : Value} (hs : vf64bits x k) : ∃ v, k v ∧ vf64bits x (· = v) := by
  unfold vf64bits at *; split at hs
  · exact ⟨_, hs, rfl⟩
  · exact hs.elim
theorem e1_f64from {x : Value} (hs : vf64from x k) : ∃ v, k v ∧ vf64from x (· = v) := by
  unfold vf64from at *; split at hs
  · exact ⟨_, hs, rfl⟩
  · exact hs.elim
theorem e1_build {pl : List (Nat × Nat)} {z : Array Value} {parts : List (Nat × Value)} (hs : vbuild pl z parts k) : ∃ v, k v ∧ vbuild pl z parts (· = v) := by
  unfold vbuild at *; split at hs
  · rename_i e; exact ⟨_, hs, rfl⟩
  · exact hs.elim
theorem e1_buildA {esz : Nat} {z : Array Value} {parts : List (Nat × Value)} (hs : vbuildA esz z parts k) : ∃ v, k v ∧ vbuildA esz z parts (· = v) := by
  unfold vbuildA at *; split at hs
  · rename_i e; exact ⟨_, hs, rfl⟩
  · exact hs.elim
theorem e1_slcL {esz : Nat} {x : Value} {lo hi : Option Value} (hs : vslcL esz x lo hi k) : ∃ v, k v ∧ vslcL esz x lo hi (· = v) := by
  unfold vslcL at *; split at hs
  · exact ⟨_, hs.2, hs.1, rfl⟩
  · exact hs.elim

theorem e1_aeq {ne : Bool} {x y : Value} (hs : vaeq ne x y k) : ∃ v, k v ∧ vaeq ne x y (· = v) := by
  cases x <;> first | exact hs.elim | skip
  case agg cs =>
    cases y <;> first | exact hs.elim | skip
    case agg ds =>
      simp only [vaeq] at *
      split at hs
      · exact ⟨_, hs.2, hs.1, rfl⟩
      · exact hs.elim
theorem e1_snil {x : Value} (hs : vsnil x k) : ∃ v, k v ∧ vsnil x (· = v) := by
  unfold vsnil at *; split at hs
  · exact ⟨_, hs, rfl⟩
  · exact hs.elim

theorem exact_val {op : VO} (hx : op.exact = true) (hs : stepQ P Rf op ρ h k) : ∃ v, k v ∧ stepQ P Rf op ρ h (· = v) := by
  cases op <;> first
    | (cases hx; done)
    | exact ⟨_, hs, rfl⟩
    | exact e1_pick hs
    | exact e1_load hs
    | exact e1_addr hs
    | exact e1_idxA hs
    | exact e1_idxS hs
    | exact e1_ixA hs
    | exact e1_ixStr hs
    | exact e1_fld hs
    | exact e1_bin hs
    | exact e1_beq hs
    | exact e1_un hs
    | exact e1_ext hs
    | exact e1_nilc hs
    | exact e1_lenS hs
    | exact e1_lenL hs
    | exact e1_f32 hs
    | exact e1_f64 hs
    | exact e1_f64from hs
    | exact e1_build hs
    | exact e1_buildA hs
    | exact e1_slcL hs
    | exact e1_aeq hs
    | exact e1_snil hs

/-- is an operation of the program exact -/
def exO (P : Program) (o : Oper) : Bool :=
  match cmpOp P o with
  | some op => op.exact
  | none => false

theorem pure_of_exact {N : Nat} {M : Nat → Prop} {w0 : World} {a : Act} {o : Oper} {op : VO} (hc : cmpOp P o = some op) (hx : op.exact = true) (hag : Agree N ρ a) (hs : stepQ P Rf op ρ h k) :
    ∃ v, pureAt P (Holds M w0 h) o a v ∧ k v := by
  obtain ⟨v, hk, hs'⟩ := exact_val hx hs
  refine ⟨v, fun w H => ?_, hk⟩
  obtain ⟨u, n, hr, hu, hn⟩ := stepQ_val hc hag hs' (fun f args e => by subst e; cases hx) H.at_
  rw [hr, hn hx, hu]
  rfl

end
end Go.Vc
