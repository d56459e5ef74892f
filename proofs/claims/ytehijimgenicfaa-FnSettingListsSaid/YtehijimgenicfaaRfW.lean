/- Rows that are written over from the left. -/
import Derived.Test.YtehijimgenicfaaRfU
import Derived.Test.YtehijimgenicfaaRfK
set_option linter.unusedVariables false
set_option linter.unusedSimpArgs false
set_option linter.unusedSectionVars false
namespace Go.Rf
open Go Go.RowKit
section
variable {α : Type} [Inhabited α] {f : α → List Value} {g : Nat → α} {xs : List α} {i j : Nat}
def over (g : Nat → α) (xs : List α) (i : Nat) : List α := (List.range i).map g ++ xs.drop i
theorem over_zero : over g xs 0 = xs := by simp [over]
theorem over_len (h : i ≤ xs.length) : (over g xs i).length = xs.length := by simp [over]; omega
theorem over_lenF : (over g xs xs.length).length = xs.length := over_len (Nat.le_refl _)
theorem over_get (h : i < xs.length) : ((over g xs i).map f)[((i : Int)).toNat]? = some (f (xs.getD i default)) := by
  have : (over g xs i)[i]? = some (xs.getD i default) := by
    rw [over, List.getElem?_append_right (by simp)]
    simp [h]
  simp [this]
theorem over_set (h : i < xs.length) : ((over g xs i).map f).set ((i : Int)).toNat (f (g i)) = (over g xs (i + 1)).map f := by
  have : (over g xs i).set i (g i) = over g xs (i + 1) := by
    rw [over, List.set_append_right _ _ (by simp), over, List.range_succ]
    have h2 : xs.drop i = xs.getD i default :: xs.drop (i + 1) := by rw [List.drop_eq_getElem_cons h]; simp [h]
    rw [h2]
    simp
  have h3 : ((i : Int)).toNat = i := rfl
  rw [h3, ← this, List.map_set]
theorem over_full (h : j < xs.length) : ((over g xs xs.length).map f)[((j : Int)).toNat]? = some (f (g j)) := by
  have : (over g xs xs.length)[j]? = some (g j) := by
    rw [over, List.getElem?_append_left (by simpa using h)]
    simp [h]
  simp [this]
theorem map_set_len {ys : List (List Value)} {c : List Value} {k : Nat} (h : k < ys.length) : k < (ys.set k c).length := by simpa using h
end
theorem set_get {ys : List (List Value)} {j : Nat} {c : List Value} (h : j < ys.length) : (ys.set j c)[j]? = some c := by simp [h]
def encI (n : Int) : List Value := [.int .i64 n]
def encO (b : Bool) : List Value := [.bool b]
def mkI (k : Int) (j : Nat) : Int := k + j
def mkO (k : Int) (j : Nat) : Bool := (k + j) % 3 == 0
def mkB (k : Int) (j : Nat) : Bucket := ⟨k + 5 * j, k + 5 * j + 1, k + 5 * j + 1 + 1, k + 5 * j + 1 + 1 + 1, k + 5 * j + 1 + 1 + 1 + 1⟩
end Go.Rf
