/- The join: a slice of bytes, read as the draws want it. -/
import Derived.Test.YtehijimgenicfaaRfXB
import Derived.Test.YtehijimgenicfaaRfT
set_option linter.unusedVariables false
set_option linter.unusedSectionVars false
set_option linter.unusedSimpArgs false
namespace Go.Rf
open Go
theorem of_u8 : ∀ c, CellsOK [.int .u8] c → ∃ x : Int, c = encU x ∧ (0 ≤ x ∧ x ≤ 255) := by
  intro c h
  simp only [CellsOK, CellOK] at h
  obtain ⟨_, r0, rfl, ⟨n0, rfl, w⟩, h⟩ := h
  subst h
  refine ⟨n0, rfl, ?_⟩
  simp only [Lit.wf, IntKind.min, IntKind.max, Bool.and_eq_true, decide_eq_true_eq, IntKind.signed, IntKind.bits] at w
  simpa using w
theorem u8_all {l : List Int} (h : ∀ x ∈ l, 0 ≤ x ∧ x ≤ 255) : ∀ j, 0 ≤ l.getD j default ∧ l.getD j default ≤ 255 := fun j => by
  rcases Nat.lt_or_ge j l.length with hj | hj
  · exact h _ (getD_mem hj)
  · have e : l.getD j default = 0 := by rw [List.getD_eq_getElem?_getD, List.getElem?_eq_none hj]; rfl
    rw [e]
    omega
end Go.Rf
