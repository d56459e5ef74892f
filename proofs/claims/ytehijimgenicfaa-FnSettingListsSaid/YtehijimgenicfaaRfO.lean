/- Plain lists: a row that is being filled, two rows that are compared, a test of every place. -/
import Derived.Test.YtehijimgenicfaaRfN
set_option linter.unusedVariables false
set_option linter.unusedSimpArgs false
set_option linter.unusedSectionVars false
namespace Go.Rf
open Go
section
variable {α : Type} [Inhabited α] {f : α → List Value} {z : List Value} {xs ys : List α} {i : Nat}
def fill (f : α → List Value) (z : List Value) (xs : List α) (i : Nat) : List (List Value) := (xs.take i).map f ++ List.replicate (xs.length - i) z
theorem fill_zero : fill f z xs 0 = List.replicate xs.length z := by simp [fill]
theorem fill_len (h : i ≤ xs.length) : (fill f z xs i).length = xs.length := by simp [fill]; omega
theorem fill_get (h : i < xs.length) : (fill f z xs i)[i]? = some z := by
  have h1 : (List.map f (List.take i xs)).length = i := by simp; omega
  rw [fill, List.getElem?_append_right (by omega), h1, Nat.sub_self, List.getElem?_replicate, if_pos (by omega)]
theorem take_succ (h : i < xs.length) : xs.take (i + 1) = xs.take i ++ [xs.getD i default] := by
  rw [List.take_add_one]
  simp [h]
theorem fill_set (h : i < xs.length) : (fill f z xs i).set i (f (xs.getD i default)) = fill f z xs (i + 1) := by
  have h1 : (List.map f (List.take i xs)).length = i := by simp; omega
  have h2 : xs.length - i = (xs.length - (i + 1)) + 1 := by omega
  rw [fill, List.set_append_right _ _ (by omega), h1, h2, List.replicate_succ, fill, take_succ h]
  simp
theorem fill_end (h1 : i ≤ xs.length) (h2 : xs.length ≤ i) : fill f z xs i = xs.map f := by
  have : xs.length - i = 0 := by omega
  simp [fill, this, List.take_of_length_le h2]
/-- an element of a list that is a map, at a natural place -/
theorem getN (h : i < xs.length) : (xs.map f)[((i : Int)).toNat]? = some (f (xs.getD i default)) := by simp [h]
theorem getNI {j : Int} (h0 : 0 ≤ j) (h : j.toNat < xs.length) : (xs.map f)[j.toNat]? = some (f (xs.getD j.toNat default)) := by simp [h]

theorem eq_true_of (hl : xs.length = ys.length) (h : ∀ j, j < i → xs.getD j default = ys.getD j default) (hi : xs.length ≤ i) : xs = ys := by
  apply List.ext_getElem hl
  intro j h1 h2
  have := h j (by omega)
  simpa [h1, h2] using this
theorem eq_false_of (h : xs.getD i default ≠ ys.getD i default) : xs ≠ ys := fun e => h (by rw [e])
theorem upto_succ {p : Nat → Prop} (h : ∀ j, j < i → p j) (hi : p i) : ∀ j, j < i + 1 → p j := fun j hj => by
  rcases Nat.lt_or_ge j i with h1 | h1
  · exact h j h1
  · have : j = i := by omega
    exact this ▸ hi
end
def allN (n : Nat) (f : Nat → Bool) : Bool := (List.range n).all f
theorem allN_t {n i : Nat} {f : Nat → Bool} (h : ∀ j, j < i → f j = true) (hi : n ≤ i) : allN n f = true := by
  simp only [allN, List.all_eq_true, List.mem_range]
  exact fun j hj => h j (by omega)
theorem allN_f {n i : Nat} {f : Nat → Bool} (h : f i = false) (hi : i < n) : allN n f = false := by
  simp only [allN, List.all_eq_false, List.mem_range]
  exact ⟨i, hi, by simp [h]⟩
theorem allN_iff {n : Nat} {f : Nat → Bool} : allN n f = true ↔ ∀ j, j < n → f j = true := by simp [allN]
end Go.Rf
