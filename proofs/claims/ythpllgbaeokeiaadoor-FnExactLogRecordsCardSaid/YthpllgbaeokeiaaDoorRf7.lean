/- The records of a log; their marks. -/
import Derived.Test.YthpllgbaeokeiaaDoorRf6
import Derived.Test.YthpllgbaeokeiaaDoorRfR
set_option linter.unusedVariables false
namespace Go.Rf
open Go Go.RowKit
def mkR (k : Int) (j : Nat) : Rec := ⟨mtT (k + 2 * j), mtT (k + 2 * j + 1)⟩
def lrT (x : Lg) : List Rec := if okLg x then pre (recN (x.d ++ x.p)) (logN (x.d ++ x.p)) else []
theorem lr_f {x : Lg} (h : okLg x = false) : lrT x = [] ∧ okLg x = false := by rw [lrT, h]; exact ⟨rfl, rfl⟩
theorem lr_t {x : Lg} (h : okLg x = true) : lrT x = pre (recN (x.d ++ x.p)) (logN (x.d ++ x.p)) ∧ okLg x = true := by rw [lrT, h]; exact ⟨rfl, rfl⟩
theorem lrT_len {x : Lg} : (lrT x).length ≤ 60 := by
  unfold lrT
  split
  · rw [pre_len]; exact logN_le.1
  · exact Nat.zero_le _
end Go.Rf
