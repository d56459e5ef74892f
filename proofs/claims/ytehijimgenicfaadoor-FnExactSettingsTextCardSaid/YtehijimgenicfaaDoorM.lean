/- Settings as text. -/
import Derived.Test.YtehijimgenicfaaDoorRfV
set_option linter.unusedVariables false
set_option linter.unusedSimpArgs false
set_option linter.unusedSectionVars false
namespace Go.Proofs.YtehijimgenicfaaDoor
open Go Go.Rf
def setT0 (x : Setting) : ByteArray := (⟨#[103, 117, 101, 115, 116, 32]⟩ : ByteArray) ++ numT x.g ++ (⟨#[32]⟩ : ByteArray) ++ x.n ++ (⟨#[32, 99, 112, 117, 115, 32]⟩ : ByteArray) ++ numT x.c ++ (⟨#[32, 102, 114, 97, 109, 101, 115, 32]⟩ : ByteArray) ++ numT x.f ++ (⟨#[32, 119, 101, 105, 103, 104, 116, 32]⟩ : ByteArray) ++ numT x.w
def setT (x : Setting) : ByteArray := if x.k then setT0 x ++ (⟨#[32, 116, 105, 109, 101, 114, 115]⟩ : ByteArray) else setT0 x
theorem isSet_ok {x : Setting} (h : isSet x = true) : (1 ≤ x.g ∧ x.g ≤ 4) ∧ x.n.size ≤ 8 ∧ (1 ≤ x.c ∧ x.c ≤ 4) ∧ (1 ≤ x.f ∧ x.f ≤ 16) ∧ (1 ≤ x.w ∧ x.w ≤ 100) := by
  simp only [isSet, kindB, inside, Bool.and_eq_true, decide_eq_true_eq] at h
  omega
theorem size_lit (a : Array UInt8) : (⟨a⟩ : ByteArray).size = a.size := rfl
def setsF (xs : List Setting) (i : Nat) : ByteArray := foldN (fun i t => t ++ setT (xs.getD i default) ++ (⟨#[10]⟩ : ByteArray)) ⟨#[]⟩ i
theorem setsF_succ {xs : List Setting} {i : Nat} : setsF xs (i + 1) = setsF xs i ++ setT (xs.getD i default) ++ (⟨#[10]⟩ : ByteArray) := rfl
theorem setsF_succ2 {xs : List Setting} {i : Nat} : setsF xs (i + 1) = setsF xs i ++ (setT (xs.getD i default) ++ (⟨#[10]⟩ : ByteArray)) := by rw [setsF_succ, ByteArray.append_assoc]
def setsT (xs : List Setting) : ByteArray := if goodT xs then setsF xs xs.length else ⟨#[]⟩
theorem goodT_set {xs : List Setting} (h : goodT xs = true) : ∀ i, i < xs.length → isSet (xs.getD i default) = true := fun i hi => by
  simp only [goodT, Bool.and_eq_true] at h
  have := allN_iff.mp h.1 i hi
  simp only [oneT, Bool.and_eq_true] at this
  exact this.1.1
theorem setT_size {x : Setting} (h : isSet x = true) : (setT x).size ≤ 200 := by
  have ho := isSet_ok h
  have z1 := numT_size (n := x.g) (by omega) (by omega)
  have z2 := numT_size (n := x.c) (by omega) (by omega)
  have z3 := numT_size (n := x.f) (by omega) (by omega)
  have z4 := numT_size (n := x.w) (by omega) (by omega)
  unfold setT setT0
  split <;> simp only [ByteArray.size_append, size_lit, List.size_toArray, List.length_cons, List.length_nil] <;> omega
theorem setsF_size {xs : List Setting} (h : ∀ i, i < xs.length → isSet (xs.getD i default) = true) : ∀ i, i ≤ xs.length → (setsF xs i).size ≤ 201 * i
  | 0, _ => by simp [setsF, foldN, ByteArray.size]
  | i + 1, hi => by
    have h1 := setsF_size h i (by omega)
    have h2 := setT_size (h i (by omega))
    rw [setsF_succ]
    simp only [ByteArray.size_append, size_lit, List.size_toArray, List.length_cons, List.length_nil]
    omega
end Go.Proofs.YtehijimgenicfaaDoor
