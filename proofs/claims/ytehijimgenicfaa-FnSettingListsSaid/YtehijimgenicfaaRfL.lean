/- Rows from which elements are deleted. -/
import Derived.Test.YtehijimgenicfaaRfX
set_option linter.unusedVariables false
set_option linter.unusedSimpArgs false
set_option linter.unusedSectionVars false
namespace Go.Rf
open Go
theorem idx_cases {f : Nat → Bool} {n : Nat} (h : idxN f n ≠ -1) : ∃ i : Nat, idxN f n = (i : Int) ∧ i < n ∧ (∀ j, j < i → f j = false) ∧ f i = true := by
  unfold idxN at h ⊢
  cases hf : (List.range n).find? f with
  | none => simp [hf] at h
  | some i =>
    rw [List.find?_range_eq_some] at hf
    exact ⟨i, rfl, List.mem_range.mp hf.2.1, fun j hj => by simpa using hf.2.2 j hj, hf.1⟩
theorem idx_neg {f : Nat → Bool} {n : Nat} (h : idxN f n = -1) : ∀ i, i < n → f i = false := by
  unfold idxN at h
  cases hf : (List.range n).find? f with
  | none =>
    rw [List.find?_eq_none] at hf
    intro i hi
    simpa using hf i (List.mem_range.mpr hi)
  | some i => simp [hf] at h
section
variable {α : Type} [Inhabited α] {f : α → List Value} {p : α → Bool} {xs : List α} {j : Nat}
def keepL (p : α → Bool) (xs : List α) (j : Nat) : List α := (xs.take j).filter (fun x => !p x)
def delR (p : α → Bool) (xs : List α) (j : Nat) : List α := keepL p xs j ++ xs.drop (keepL p xs j).length
theorem keepL_len : (keepL p xs j).length ≤ j := by
  have h1 := List.length_filter_le (fun x => !p x) (xs.take j)
  have h2 := List.length_take_le j xs
  unfold keepL
  omega
theorem keepL_le : (keepL p xs j).length ≤ xs.length := by
  have h1 := List.length_filter_le (fun x => !p x) (xs.take j)
  have h2 := List.length_take_le' j xs
  unfold keepL
  omega
theorem delR_len : (delR p xs j).length = xs.length := by
  have := keepL_le (p := p) (xs := xs) (j := j)
  simp [delR]; omega
theorem delR_get (h : j < xs.length) : ((delR p xs j).map f)[((j : Int)).toNat]? = some (f (xs.getD j default)) := by
  have h1 := keepL_len (p := p) (xs := xs) (j := j)
  have h2 : (delR p xs j)[j]? = some (xs.getD j default) := by
    rw [delR, List.getElem?_append_right h1, List.getElem?_drop]
    have : (keepL p xs j).length + (j - (keepL p xs j).length) = j := by omega
    rw [this]
    simp [h]
  have h3 : ((j : Int)).toNat = j := rfl
  rw [h3, List.getElem?_map, h2]
  rfl
theorem keep_t (h : j < xs.length) (hp : p (xs.getD j default) = true) : keepL p xs (j + 1) = keepL p xs j := by
  rw [keepL, take_succ h, List.filter_append]
  simp only [keepL, List.filter_cons, hp]
  simp
theorem keep_f (h : j < xs.length) (hp : p (xs.getD j default) = false) : keepL p xs (j + 1) = keepL p xs j ++ [xs.getD j default] := by
  rw [keepL, take_succ h, List.filter_append]
  simp only [keepL, List.filter_cons, hp]
  simp
theorem delR_t (h : j < xs.length) (hp : p (xs.getD j default) = true) : delR p xs (j + 1) = delR p xs j := by rw [delR, keep_t h hp, delR]
theorem delR_row (h : j < xs.length) : ((delR p xs j).map f)[(((keepL p xs j).length : Int)).toNat]? = some (f ((delR p xs j).getD (keepL p xs j).length default)) := by
  have h1 := keepL_len (p := p) (xs := xs) (j := j)
  have h3 : (((keepL p xs j).length : Int)).toNat = (keepL p xs j).length := rfl
  have h2 : (keepL p xs j).length < (delR p xs j).length := by rw [delR_len]; omega
  rw [h3, List.getElem?_map, List.getD_eq_getElem?_getD, List.getElem?_eq_getElem h2]
  rfl
theorem delR_set (h : j < xs.length) (hp : p (xs.getD j default) = false) : ((delR p xs j).map f).set (((keepL p xs j).length : Int)).toNat (f (xs.getD j default)) = (delR p xs (j + 1)).map f := by
  have h1 := keepL_len (p := p) (xs := xs) (j := j)
  have h3 : (((keepL p xs j).length : Int)).toNat = (keepL p xs j).length := rfl
  have h4 : xs.drop (keepL p xs j).length = xs.getD (keepL p xs j).length default :: xs.drop ((keepL p xs j).length + 1) := by
    have : (keepL p xs j).length < xs.length := by omega
    rw [List.drop_eq_getElem_cons this]; simp [this]
  rw [h3, ← List.map_set, delR, List.set_append_right _ _ (Nat.le_refl _), h4, Nat.sub_self, List.set_cons_zero, delR, keep_f h hp]
  simp
theorem delR_start (h : j < xs.length) (h1 : ∀ k, k < j → p (xs.getD k default) = false) (hp : p (xs.getD j default) = true) : keepL p xs (j + 1) = xs.take j := by
  have h2 : ∀ i, i ≤ j → keepL p xs i = xs.take i := by
    intro i
    induction i with
    | zero => intro _; simp [keepL]
    | succ i ih =>
      intro hi
      rw [keep_f (by omega) (h1 i (by omega)), ih (by omega), take_succ (by omega)]
  rw [keep_t h hp, h2 j (Nat.le_refl _)]
theorem delR_start_len (h : j < xs.length) (h1 : ∀ k, k < j → p (xs.getD k default) = false) (hp : p (xs.getD j default) = true) : (j : Int) = ((keepL p xs (j + 1)).length : Int) := by
  rw [delR_start h h1 hp, List.length_take]; omega
theorem delR_start_row (h : j < xs.length) (h1 : ∀ k, k < j → p (xs.getD k default) = false) (hp : p (xs.getD j default) = true) : xs = delR p xs (j + 1) := by
  rw [delR, delR_start h h1 hp, List.length_take, Nat.min_eq_left (by omega), List.take_append_drop]
theorem keep_all (h : xs.length ≤ j) : keepL p xs j = xs.filter (fun x => !p x) := by rw [keepL, List.take_of_length_le h]
theorem keep_none (h : ∀ k, k < xs.length → p (xs.getD k default) = false) : xs.filter (fun x => !p x) = xs := by
  rw [List.filter_eq_self]
  intro x hx
  obtain ⟨i, hi, rfl⟩ := List.getElem_of_mem hx
  have := h i hi
  simpa [hi] using this
/-- what is left of the row once its end is cleared and cut off -/
theorem delR_end {n : Nat} {z : List (List Value)} (h : xs.length ≤ j) (hn : n = (keepL p xs j).length) : (((delR p xs j).map f).take n ++ z).take n = (xs.filter (fun x => !p x)).map f := by
  have h1 : ((delR p xs j).map f).take n = (keepL p xs j).map f := by
    rw [← List.map_take, delR, hn, List.take_left']
    rfl
  rw [h1, List.take_left' (by simp [hn]), keep_all h]
end
def woT (xs : List Sample) (q : Int) : List Sample := if someS xs && inside q 0 7 then xs.filter (fun x => !(x.q == q)) else []
theorem woT_len {xs : List Sample} {q : Int} : (woT xs q).length ≤ xs.length := by
  have h := List.length_filter_le (fun x : Sample => !(x.q == q)) xs
  unfold woT; split
  · exact h
  · exact Nat.zero_le _
end Go.Rf
namespace Go.Rf
open Go
/-! settings without one -/
def hasG (xs : List Setting) (g : Int) : Bool := anyN xs.length (fun i => (xs.getD i default).g == g)
def dsOK (xs : List Setting) (g : Int) : Bool := goodT xs && hasG xs g
def wsT (xs : List Setting) (g : Int) : List Setting := xs.filter (fun x => !(x.g == g))
def dsT (xs : List Setting) (g : Int) : List Setting := if dsOK xs g then wsT xs g else []
theorem wsT_len {xs : List Setting} {g : Int} : (wsT xs g).length ≤ xs.length := List.length_filter_le _ _
theorem dsT_len {xs : List Setting} {g : Int} : (dsT xs g).length ≤ xs.length := by
  unfold dsT; split
  · exact wsT_len
  · exact Nat.zero_le _
theorem goodT_asc {xs : List Setting} (h : goodT xs = true) : ∀ i j, j < i → i < xs.length → (xs.getD j default).g < (xs.getD i default).g
  | 0, j, hj, _ => by omega
  | i + 1, j, hj, hi => by
    have h0 := h
    simp only [goodT, Bool.and_eq_true] at h0
    have h1 := allN_iff.mp h0.1 (i + 1) hi
    simp only [oneT, Bool.and_eq_true, Bool.or_eq_true, decide_eq_true_eq] at h1
    have h2 : (xs.getD i default).g < (xs.getD (i + 1) default).g := by
      rcases h1.1.2 with h3 | h3
      · omega
      · simpa using h3
    rcases Nat.lt_or_ge j i with h4 | h4
    · exact Int.lt_trans (goodT_asc h i j h4 (by omega)) h2
    · have : j = i := by omega
      exact this ▸ h2
theorem filter_out {α : Type} [Inhabited α] {p : α → Bool} {xs : List α} {i : Nat} (hi : i < xs.length) (h1 : p (xs.getD i default) = false) (h2 : ∀ j, j < xs.length → j ≠ i → p (xs.getD j default) = true) : xs.filter p = xs.take i ++ xs.drop (i + 1) := by
  have e : xs = xs.take i ++ (xs.getD i default :: xs.drop (i + 1)) := by
    rw [← List.take_append_drop i xs, List.drop_eq_getElem_cons hi]
    simp [hi]
  have ht : (xs.take i).filter p = xs.take i := by
    rw [List.filter_eq_self]
    intro x hx
    obtain ⟨j, hj, rfl⟩ := List.getElem_of_mem hx
    rw [List.length_take] at hj
    have := h2 j (by omega) (by omega)
    simpa [show j < xs.length by omega] using this
  have hd : (xs.drop (i + 1)).filter p = xs.drop (i + 1) := by
    rw [List.filter_eq_self]
    intro x hx
    obtain ⟨j, hj, rfl⟩ := List.getElem_of_mem hx
    rw [List.length_drop] at hj
    have := h2 (i + 1 + j) (by omega) (by omega)
    simpa [show i + 1 + j < xs.length by omega] using this
  calc xs.filter p = (xs.take i ++ (xs.getD i default :: xs.drop (i + 1))).filter p := by rw [← e]
    _ = _ := by rw [List.filter_append, ht, List.filter_cons, h1, hd]; simp
theorem ws_at {xs : List Setting} {g : Int} {i : Nat} (h : goodT xs = true) (hi : i < xs.length) (hg : (xs.getD i default).g = g) : wsT xs g = xs.take i ++ xs.drop (i + 1) :=
  filter_out hi (by simp only [hg, beq_self_eq_true, Bool.not_true]) fun j hj hne => by
    have h3 : (xs.getD j default).g ≠ g := by
      rcases Nat.lt_or_ge j i with h4 | h4
      · have := goodT_asc h i j h4 hi; omega
      · have := goodT_asc h j i (by omega) hj; omega
    simp only [Bool.not_eq_true', beq_eq_false_iff_ne, ne_eq]
    exact h3
theorem ws_all {xs : List Setting} {g : Int} : decide ((wsT xs g).length = xs.length) = !(hasG xs g) := by
  cases hh : hasG xs g
  · have h : ∀ i, i < xs.length → ((xs.getD i default).g == g) = false := by
      intro i hi
      cases hq : (xs.getD i default).g == g with
      | false => rfl
      | true => rw [hasG, anyN_t (f := fun i => (xs.getD i default).g == g) hq hi] at hh; cases hh
    have : wsT xs g = xs := keep_none (p := fun x : Setting => x.g == g) h
    simp [this]
  · simp only [Bool.not_true, decide_eq_false_iff_not]
    intro he
    have h1 := List.length_filter_eq_length_iff.mp he
    have h2 : anyN xs.length (fun i => (xs.getD i default).g == g) = false := anyN_f (i := xs.length) (fun j hj => by
      have := h1 (xs.getD j default) (by rw [List.getD_eq_getElem?_getD, List.getElem?_eq_getElem hj]; exact List.getElem_mem hj)
      simpa using this) (Nat.le_refl _)
    rw [hasG, h2] at hh
    cases hh
end Go.Rf
