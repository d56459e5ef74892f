/- Lists of structs with strings, opened. -/
import Derived.Test.YtehijimgenicfaaRfS
import Derived.Test.YtehijimgenicfaaRfJ
set_option linter.unusedVariables false
set_option linter.unusedSectionVars false
namespace Go.Rf
open Go
theorem list_of2 {α : Type} {f : α → List Value} {ks : List CK} {Q : α → Prop} (h : ∀ c, CellsOK ks c → ∃ x, c = f x ∧ Q x) : ∀ (ys : List (List Value)), (∀ c ∈ ys, CellsOK ks c) → ∃ xs : List α, ys = xs.map f ∧ ∀ x ∈ xs, Q x
  | [], _ => ⟨[], rfl, by simp⟩
  | c :: r, hc => by
    obtain ⟨x, rfl, hx⟩ := h c (hc c (by simp))
    obtain ⟨xs, rfl, hxs⟩ := list_of2 h r (fun c' h' => hc c' (by simp [h']))
    exact ⟨x :: xs, rfl, fun y hy => by rcases List.mem_cons.mp hy with rfl | hy; exact hx; exact hxs y hy⟩
theorem getD_of {α : Type} [Inhabited α] {Q : α → Prop} {xs : List α} (h : ∀ x ∈ xs, Q x) : ∀ i, i < xs.length → Q (xs.getD i default) := fun i hi => by
  rw [List.getD_eq_getElem?_getD, List.getElem?_eq_getElem hi]
  exact h _ (List.getElem_mem hi)
end Go.Rf
