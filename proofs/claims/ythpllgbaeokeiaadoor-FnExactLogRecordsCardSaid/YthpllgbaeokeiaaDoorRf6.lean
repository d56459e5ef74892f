/- The size of a line of a log. -/
import Derived.Test.YthpllgbaeokeiaaDoorRf5
set_option linter.unusedVariables false
namespace Go.Rf
open Go Go.RowKit
theorem line_size {k : Int} {x : Rec} (h0 : 0 ≤ k) (h1 : k ≤ 9223372036854775807) (h : recOK x = true) : (lineT k x).size ≤ 423 := by
  have hb := body_size h0 h1 h
  have hs := seal_size (s := bodyT k x)
  have e1 : (⟨#[10]⟩ : ByteArray).size = 1 := rfl
  rw [lineT, ByteArray.size_append]
  omega
end Go.Rf
