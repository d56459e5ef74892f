/- Lists of settings. -/
import Derived.Test.YtehijimgenicfaaRfS
set_option linter.unusedVariables false
set_option linter.unusedSimpArgs false
set_option linter.unusedSectionVars false
namespace Go.Rf
open Go
theorem Ctr.bool {P : Program} [Env P] {f : FuncId} {args : List AV} {a b : Bool} (h : Ctr P f args (.one (.v (.bool a)))) (e : a = b) : Ctr P f args (.one (.v (.bool b))) := e ▸ h
def anyN (n : Nat) (f : Nat → Bool) : Bool := !(allN n (fun i => !f i))
theorem anyN_t {n i : Nat} {f : Nat → Bool} (h : f i = true) (hi : i < n) : anyN n f = true := by
  rw [anyN, allN_f (i := i) (by simp [h]) hi]; rfl
theorem anyN_f {n i : Nat} {f : Nat → Bool} (h : ∀ j, j < i → f j = false) (hi : n ≤ i) : anyN n f = false := by
  rw [anyN, allN_t (i := i) (fun j hj => by simp [h j hj]) hi]; rfl
theorem anyN_congr {n : Nat} {f g : Nat → Bool} (h : ∀ i, i < n → f i = g i) : anyN n f = anyN n g := by
  cases hg : anyN n g
  · rw [anyN, Bool.not_eq_false'] at hg
    rw [anyN_f (i := n) (fun j hj => by have := allN_iff.mp hg j hj; rw [h j hj]; simpa using this) (Nat.le_refl _)]
  · rw [anyN, Bool.not_eq_true'] at hg
    simp only [allN, List.all_eq_false, List.mem_range] at hg
    obtain ⟨i, hi, h2⟩ := hg
    exact anyN_t (i := i) (by rw [h i hi]; simpa using h2) hi
def idxN (f : Nat → Bool) (n : Nat) : Int := match (List.range n).find? f with
  | some i => i
  | none => -1
theorem idx_none {f : Nat → Bool} {n i : Nat} (h : ∀ j, j < i → f j = false) (hi : n ≤ i) : idxN f n = -1 := by
  have : (List.range n).find? f = none := by
    rw [List.find?_eq_none]
    exact fun j hj => by simp [h j (by have := List.mem_range.mp hj; omega)]
  rw [idxN, this]
theorem idx_some {f : Nat → Bool} {n i : Nat} (h : ∀ j, j < i → f j = false) (hi : i < n) (ht : f i = true) : idxN f n = i := by
  have : (List.range n).find? f = some i := by
    rw [List.find?_range_eq_some]
    exact ⟨ht, List.mem_range.mpr hi, fun j hj => by simp [h j hj]⟩
  rw [idxN, this]
theorem idx_any {f : Nat → Bool} {n : Nat} : decide (idxN f n ≥ 0) = anyN n f := by
  unfold idxN
  cases hf : (List.range n).find? f with
  | none =>
    rw [List.find?_eq_none] at hf
    rw [anyN_f (i := n) (fun j hj => by simpa using hf j (List.mem_range.mpr hj)) (Nat.le_refl _)]
    rfl
  | some i =>
    have h1 := List.find?_some hf
    have h2 := List.mem_range.mp (List.mem_of_find?_eq_some hf)
    rw [anyN_t h1 h2]
    simp
theorem cut_take {α : Type} {xs : List α} {f : α → List Value} {i : Nat} : ((xs.map f).drop ((0 : Int)).toNat).take (((i : Int)).toNat - ((0 : Int)).toNat) = (xs.take i).map f := by
  simp [List.map_take]
def sameN (xs : List Setting) (i k : Nat) : Bool := (xs.getD k default).n.toList == (xs.getD i default).n.toList
def oneT (xs : List Setting) (i : Nat) : Bool := isSet (xs.getD i default) && (decide (i = 0) || decide ((xs.getD (i - 1) default).g < (xs.getD i default).g)) && !(anyN i (sameN xs i))
def sumF (xs : List Setting) (i : Nat) : Int := foldN (fun i s => s + (xs.getD i default).f) 0 i
theorem sumF_succ {xs : List Setting} {i : Nat} : sumF xs (i + 1) = sumF xs i + (xs.getD i default).f := rfl
def goodT (xs : List Setting) : Bool := allN xs.length (oneT xs) && decide (sumF xs xs.length ≤ 16)
theorem oneT_ok {xs : List Setting} {i : Nat} (h : ∀ j, j < i → oneT xs j = true) : ∀ j, j < i → 0 ≤ (xs.getD j default).f ∧ (xs.getD j default).f ≤ 16 := fun j hj => by
  have := h j hj
  simp only [oneT, isSet, inside, Bool.and_eq_true, decide_eq_true_eq] at this
  omega
theorem goodT_ok {xs : List Setting} (h : goodT xs = true) : (∀ j, j < xs.length → 0 ≤ (xs.getD j default).f ∧ (xs.getD j default).f ≤ 16) ∧ sumF xs xs.length ≤ 16 := by
  simp only [goodT, Bool.and_eq_true, decide_eq_true_eq, allN_iff] at h
  exact ⟨oneT_ok h.1, h.2⟩
theorem sumF_le {xs : List Setting} (h : ∀ i, i < xs.length → 0 ≤ (xs.getD i default).f ∧ (xs.getD i default).f ≤ 16) : ∀ i, i ≤ xs.length → 0 ≤ sumF xs i ∧ sumF xs i ≤ 16 * i
  | 0, _ => by simp [sumF, foldN]
  | i + 1, hi => by
    have h1 := sumF_le h i (by omega)
    have h2 := h i (by omega)
    rw [sumF_succ]
    omega
theorem take_any {xs : List Setting} {i : Nat} (hi : i < xs.length) : anyN (xs.take i).length (fun k => ((xs.take i).getD k default).n.toList == (xs.getD i default).n.toList) = anyN i (sameN xs i) := by
  have hl : (xs.take i).length = i := by simp; omega
  rw [hl]
  refine anyN_congr fun k hk => ?_
  simp [sameN, List.getD_eq_getElem?_getD, List.getElem?_take, hk]
def szN (xs : List Setting) (l : Int) : Nat → Int
  | 0 => l - xs.length
  | i + 1 => szN xs l i - (xs.getD i default).n.size
theorem szN_succ {xs : List Setting} {l : Int} {i : Nat} : szN xs l (i + 1) = szN xs l i - (xs.getD i default).n.size := rfl
def szT (xs : List Setting) (l : Int) : Int := if l - xs.length < 0 then -1 else if allN xs.length (fun i => decide (0 ≤ szN xs l (i + 1))) then szN xs l xs.length else -1
end Go.Rf
