/- Settings as text. -/
import Derived.Test.YtehijimgenicfaaDoorRfV
set_option linter.unusedVariables false
set_option linter.unusedSimpArgs false
set_option linter.unusedSectionVars false
namespace Go.Proofs.YtehijimgenicfaaDoor
open Go Go.Rf
def setT0 (x : Setting) : ByteArray := (⟨#[103, 117, 101, 115, 116, 32]⟩ : ByteArray) ++ numT x.g ++ (⟨#[32]⟩ : ByteArray) ++ x.n ++ (⟨#[32, 99, 112, 117, 115, 32]⟩ : ByteArray) ++ numT x.c ++ (⟨#[32, 102, 114, 97, 109, 101, 115, 32]⟩ : ByteArray) ++ numT x.f ++ (⟨#[32, 119, 101, 105, 103, 104, 116, 32]⟩ : ByteArray) ++ numT x.w
def setT (x : Setting) : ByteArray := if x.k then setT0 x ++ (⟨#[32, 116, 105, 109, 101, 114, 115]⟩ : ByteArray) else setT0 x
theorem isSet_ok {x : Setting} (h : isSet x = true) : (1 ≤ x.g ∧ x.g ≤ 4) ∧ x.n.size ≤ 8 ∧ (1 ≤ x.c ∧ x.c ≤ 4) ∧ (1 ≤ x.f ∧ x.f ≤ 16) ∧ (1 ≤ x.w ∧ x.w ≤ 100) := by
  simp only [isSet, kindB, inside, Bool.and_eq_true, decide_eq_true_eq] at h
  omega
theorem size_lit (a : Array UInt8) : (⟨a⟩ : ByteArray).size = a.size := rfl
end Go.Proofs.YtehijimgenicfaaDoor
