/- Arguments, opened: what a value of a type may be, by its cells. -/
import Derived.Test.YtnfipcfhnhhcmaaDoorGeo
import Derived.OpenShut
set_option linter.all false
namespace Go.Vc
open Go Go.Fl

section
variable {P : Program} {w : World} {r : Reach} {base : Nat} {t u : TypeId} {v : Value}

theorem cell_f32 (hu : P.underlying u = some (.float .f32)) (h : Cell.okWide P w r base u v) : ∃ b, v = .float .f32 b ∧ b < 2 ^ 32 := by
  unfold Cell.okWide at h
  rw [hu] at h
  cases v <;> simp only [Cell.ok, hu] at h
  case float k b => obtain ⟨rfl, hb⟩ := h; exact ⟨b, rfl, hb⟩

theorem cell_int {k : IntKind} (hu : P.underlying u = some (.int k)) (h : Cell.okWide P w r base u v) : ∃ n, v = .int k n ∧ k.min ≤ n ∧ n ≤ k.max := by
  unfold Cell.okWide at h
  rw [hu] at h
  cases v <;> simp only [Cell.ok, hu] at h
  case int k b => obtain ⟨rfl, hb⟩ := h; exact ⟨b, rfl, hb⟩

theorem cell_bool (hu : P.underlying u = some .bool) (h : Cell.okWide P w r base u v) : ∃ b, v = .bool b := by
  unfold Cell.okWide at h
  rw [hu] at h
  cases v <;> simp only [Cell.ok, hu] at h
  case bool b => exact ⟨b, rfl⟩

theorem val_f32 (hu : P.underlying t = some (.float .f32)) (h : Value.okWide P w r base t v) : ∃ b, v = .float .f32 b ∧ b < 2 ^ 32 := by
  unfold Value.okWide at h; simp only [hu] at h; exact cell_f32 hu h
end
end Go.Vc
