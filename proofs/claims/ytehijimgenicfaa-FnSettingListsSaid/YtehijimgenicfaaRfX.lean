/- Rows that grow by one; prefixes. -/
import Derived.Test.YtehijimgenicfaaRfW
set_option linter.unusedVariables false
set_option linter.unusedSimpArgs false
set_option linter.unusedSectionVars false
namespace Go.Rf
open Go
section
variable {α : Type} [Inhabited α] {f : α → List Value} {g : Nat → α} {xs : List α} {i : Nat}
def pre (g : Nat → α) (i : Nat) : List α := (List.range i).map g
theorem pre_len : (pre g i).length = i := by simp [pre]
theorem pre_snoc : (pre g i).map f ++ [f (g i)] = (pre g (i + 1)).map f := by simp [pre, List.range_succ]
theorem pre_zero : [] = (pre g 0).map f := by simp [pre]
theorem over_fin : over g xs xs.length = pre g xs.length := by simp [over, pre]
theorem over_fin' (h : i = xs.length) : over g xs i = pre g xs.length := by subst h; exact over_fin
end
end Go.Rf
