/- What the draws of buckets give. -/
import Derived.Test.YtehijimgenicfaaRfXB
import Derived.Test.YtehijimgenicfaaRfM
set_option linter.unusedVariables false
set_option linter.unusedSectionVars false
set_option linter.unusedSimpArgs false
namespace Go.Rf
open Go Go.RowKit
def bkIn (b : Bucket) : Prop := (0 ≤ b.g ∧ b.g ≤ 5) ∧ (-1 ≤ b.r ∧ b.r ≤ 101) ∧ (0 ≤ b.b ∧ b.b ≤ 1001) ∧ (-1 ≤ b.h ∧ b.h ≤ 1001) ∧ (-1 ≤ b.t ∧ b.t ≤ 100001)
def bksIn (l : List Bucket) : Prop := l.length ≤ 5 ∧ ∀ b ∈ l, bkIn b
theorem bks_snoc {l : List Bucket} {b : Bucket} (h : ∀ b ∈ l, bkIn b) (hb : bkIn b) : ∀ c ∈ l ++ [b], bkIn c := fun c hc => by
  rcases List.mem_append.1 hc with hc | hc
  · exact h c hc
  · rw [List.mem_singleton.1 hc]; exact hb
theorem bks_get {l : List Bucket} (h : ∀ b ∈ l, bkIn b) {i : Nat} (hi : i < l.length) : bkIn (l.getD i default) := h _ (getD_mem hi)
end Go.Rf
