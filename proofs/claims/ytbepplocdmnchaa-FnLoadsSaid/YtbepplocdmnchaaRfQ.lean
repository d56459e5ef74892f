/- The mean delay. -/
import Derived.Test.YtbepplocdmnchaaRfP
set_option linter.unusedVariables false
set_option linter.unusedSectionVars false
set_option linter.unusedSimpArgs false
namespace Go.Rf
open Go
def gcdI (a b : Int) : Int := (Nat.gcd a.toNat b.toNat : Nat)
theorem gcdI_pos {a b : Int} (h : 0 < b) : 0 < gcdI a b := by
  have : 0 < Nat.gcd a.toNat b.toNat := Nat.gcd_pos_of_pos_right _ (by omega)
  simp only [gcdI]; omega
theorem gcd_step {a b : Nat} : Nat.gcd b (a % b) = Nat.gcd a b := by
  rw [Nat.gcd_comm a b, Nat.gcd_rec b a, Nat.gcd_comm]
theorem gcdI_le {a b : Int} (h : 0 < b) : gcdI a b ≤ b := by
  have := Nat.gcd_le_right a.toNat (by omega : 0 < b.toNat)
  simp only [gcdI]; omega
def sumD (xs : List Sample) (i : Nat) : Int := foldN (fun i s => s + ((xs.getD i default).g - (xs.getD i default).a)) 0 i
theorem sumD_succ {xs : List Sample} {i : Nat} : sumD xs (i + 1) = sumD xs i + ((xs.getD i default).g - (xs.getD i default).a) := rfl
theorem sumD_le {xs : List Sample} (h : ∀ i, i < xs.length → okS (xs.getD i default)) : ∀ i, i ≤ xs.length → 0 ≤ sumD xs i ∧ sumD xs i ≤ 100000 * i
  | 0, _ => by simp [sumD, foldN]
  | i + 1, hi => by
    have h1 := sumD_le h i (by omega)
    have h2 := h i (by omega)
    unfold okS at h2
    rw [sumD_succ]
    omega
def mdT (xs : List Sample) : Int × Int := if someS xs then (sumD xs xs.length / gcdI (sumD xs xs.length) xs.length, xs.length / gcdI (sumD xs xs.length) xs.length) else (0, 0)
theorem someS_pos {xs : List Sample} (h : someS xs = true) : 0 < xs.length := by
  simp only [someS, Bool.and_eq_true, decide_eq_true_eq] at h
  exact h.2
end Go.Rf
