/- Shares of the irqs. -/
import Derived.Test.YtbepplocdmnchaaRfX
import Derived.Test.YtbepplocdmnchaaRfQ
set_option linter.unusedVariables false
set_option linter.unusedSimpArgs false
set_option linter.unusedSectionVars false
namespace Go.Rf
open Go
section
variable {α : Type} [Inhabited α] {f : α → List Value} {g g' : Nat → α} {n k : Nat}
theorem pre_at (h : k < n) : (pre g n)[k]? = some (g k) := by simp [pre, h]
theorem pre_getD (h : k < n) : (pre g n).getD k default = g k := by simp [pre_at h]
theorem pre_get (h : k < n) : ((pre g n).map f)[k]? = some (f (g k)) := by simp [pre_at h]
theorem pre_set (hk : k < n) (h : ∀ j, j < n → j ≠ k → g' j = g j) : ((pre g n).map f).set k (f (g' k)) = (pre g' n).map f := by
  apply List.ext_getElem?
  intro j
  by_cases hj : j < n
  · rw [pre_get hj]
    by_cases e : k = j
    · subst e
      rw [List.getElem?_set_self (by simpa [pre] using hk)]
    · rw [List.getElem?_set_ne e, pre_get hj, h j hj (Ne.symm e)]
  · rw [List.getElem?_eq_none (by simp [pre]; omega), List.getElem?_eq_none (by simp [pre]; omega)]
theorem pre_congr (h : ∀ j, j < n → g j = g' j) : pre g n = pre g' n := by
  simp only [pre]
  exact List.map_congr_left fun j hj => h j (List.mem_range.mp hj)
theorem pre_const {c : α} : List.replicate n (f c) = (pre (fun _ => c) n).map f := List.ext_getElem (by simp [pre]) (by intros; simp [pre])
end
def isG (xs : List Sample) (i q : Nat) : Int := cntN (fun j => decide ((xs.getD j default).q = (q : Int))) i
theorem isG_le {xs : List Sample} {i q : Nat} : 0 ≤ isG xs i q ∧ isG xs i q ≤ i := cntN_le _ _
theorem isG_same {xs : List Sample} {i q : Nat} (h : (xs.getD i default).q = (q : Int)) : isG xs (i + 1) q = isG xs i q + 1 := cntN_t (by simpa using h)
theorem isG_other {xs : List Sample} {i q : Nat} (h : (xs.getD i default).q ≠ (q : Int)) : isG xs (i + 1) q = isG xs i q := cntN_f (by simpa using h)
theorem isG_set {xs : List Sample} {i : Nat} (h : 0 ≤ (xs.getD i default).q ∧ (xs.getD i default).q ≤ 7) :
    ((pre (isG xs i) 8).map encI).set ((xs.getD i default).q).toNat (encI (isG xs i ((xs.getD i default).q).toNat + 1)) = (pre (isG xs (i + 1)) 8).map encI := by
  have e : isG xs i ((xs.getD i default).q).toNat + 1 = isG xs (i + 1) ((xs.getD i default).q).toNat := (isG_same (by omega)).symm
  rw [e]
  exact pre_set (by omega) fun j hj hne => isG_other (by omega)
def shG (xs : List Sample) (q : Nat) : Int := 100 * isG xs xs.length q / xs.length
def shT (xs : List Sample) : List Int := if someS xs then pre (shG xs) 8 else []
theorem shT_len {xs : List Sample} : (shT xs).length ≤ 8 := by unfold shT; split <;> simp [pre_len]
def shO (xs : List Sample) (q : Nat) : Int := 100 * (pre (isG xs xs.length) 8).getD q default / xs.length
theorem shO_eq {xs : List Sample} : pre (shO xs) 8 = pre (shG xs) 8 := pre_congr fun j hj => by simp only [shO, shG, pre_getD hj]
def mkS (k : Int) (j : Nat) : Sample := ⟨k + 3 * j, k + 3 * j + 1, k + 3 * j + 1 + 1⟩
end Go.Rf
