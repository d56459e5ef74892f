/- Putting, dropping, counting: the plain law of lists of settings. -/
import Derived.Test.YtehijimgenicfaaRfXG
set_option linter.unusedVariables false
namespace Go.Rf
open Go Go.RowKit
def sumL : List Setting → Int
  | [] => 0
  | x :: r => x.f + sumL r
theorem sumL_append : ∀ {a b : List Setting}, sumL (a ++ b) = sumL a + sumL b
  | [], b => by simp [sumL]
  | x :: r, b => by
    have := sumL_append (a := r) (b := b)
    simp only [List.cons_append, sumL, this]
    omega
theorem sumF_take {xs : List Setting} : ∀ i, i ≤ xs.length → sumF xs i = sumL (xs.take i)
  | 0, _ => by simp [sumL]; rfl
  | i + 1, hi => by
    rw [sumF_succ, sumF_take i (by omega), List.take_succ_eq_append_getElem (by omega), sumL_append]
    have h1 : i < xs.length := by omega
    simp [sumL, List.getD_eq_getElem?_getD, h1]
theorem sumF_all {xs : List Setting} : sumF xs xs.length = sumL xs := by rw [sumF_take _ (Nat.le_refl _), List.take_length]
theorem sumL_filter {p : Setting → Bool} : ∀ {xs : List Setting}, (∀ x ∈ xs, 0 ≤ x.f) → 0 ≤ sumL xs ∧ 0 ≤ sumL (xs.filter p) ∧ sumL (xs.filter p) ≤ sumL xs
  | [], _ => by simp [sumL]
  | x :: r, h => by
    have h1 := sumL_filter (p := p) (xs := r) (fun y hy => h y (List.mem_cons_of_mem _ hy))
    have h2 := h x List.mem_cons_self
    rw [List.filter_cons]
    split <;> simp only [sumL] <;> omega
theorem good_iff {xs : List Setting} : goodT xs = true ↔ (∀ x ∈ xs, isSet x = true) ∧ xs.Pairwise (fun x y => x.g < y.g ∧ x.n.toList ≠ y.n.toList) ∧ sumL xs ≤ 16 := by
  constructor
  · intro h
    have h0 := h
    simp only [goodT, Bool.and_eq_true, decide_eq_true_eq] at h0
    have h1 : ∀ i, i < xs.length → oneT xs i = true := fun i hi => allN_iff.mp h0.1 i hi
    refine ⟨fun x hx => ?_, ?_, by rw [← sumF_all]; exact h0.2⟩
    · obtain ⟨i, hi, rfl⟩ := List.getElem_of_mem hx
      have := h1 i hi
      simp only [oneT, Bool.and_eq_true] at this
      simpa [List.getD_eq_getElem?_getD, hi] using this.1.1
    · rw [List.pairwise_iff_getElem]
      intro i j hi hj hij
      have h2 := goodT_asc h j i hij hj
      have h3 := h1 j hj
      simp only [oneT, Bool.and_eq_true, Bool.not_eq_true'] at h3
      have h4 := h3.2
      refine ⟨by simpa [List.getD_eq_getElem?_getD, hi, hj] using h2, fun he => ?_⟩
      rw [anyN_t (f := sameN xs j) (i := i) (by simp [sameN, List.getD_eq_getElem?_getD, hi, hj, he]) hij] at h4
      cases h4
  · rintro ⟨h1, h2, h3⟩
    rw [List.pairwise_iff_getElem] at h2
    simp only [goodT, Bool.and_eq_true, decide_eq_true_eq]
    refine ⟨allN_iff.mpr (fun i hi => ?_), by rw [sumF_all]; exact h3⟩
    have hd : ∀ k, (hk : k < xs.length) → xs.getD k default = xs[k] := fun k hk => by simp [List.getD_eq_getElem?_getD, hk]
    simp only [oneT, Bool.and_eq_true, Bool.or_eq_true, decide_eq_true_eq, Bool.not_eq_true']
    refine ⟨⟨by rw [hd i hi]; exact h1 _ (List.getElem_mem hi), ?_⟩, anyN_f (i := i) (fun k hk => ?_) (Nat.le_refl _)⟩
    · rcases Nat.eq_zero_or_pos i with h0 | h0
      · exact .inl h0
      · refine .inr ?_
        rw [hd i hi, hd (i - 1) (by omega)]
        exact (h2 (i - 1) i (by omega) hi (by omega)).1
    · simp only [sameN, hd k (by omega), hd i hi, beq_eq_false_iff_ne, ne_eq]
      exact (h2 k i (by omega) hi hk).2
theorem isSet_f {x : Setting} (h : isSet x = true) : 1 ≤ x.f ∧ x.f ≤ 16 := by
  simp only [isSet, inside, Bool.and_eq_true, decide_eq_true_eq] at h
  omega
theorem good_filter {xs : List Setting} {p : Setting → Bool} (h : goodT xs = true) : goodT (xs.filter p) = true := by
  rw [good_iff] at *
  obtain ⟨h1, h2, h3⟩ := h
  have := sumL_filter (p := p) (xs := xs) (fun x hx => by have := isSet_f (h1 x hx); omega)
  exact ⟨fun x hx => h1 x (List.mem_filter.1 hx).1, h2.sublist List.filter_sublist, by omega⟩
theorem good_sum {xs : List Setting} (h : goodT xs = true) : 0 ≤ sumF xs xs.length ∧ sumF xs xs.length ≤ 16 := by
  rw [sumF_all]
  obtain ⟨h1, h2, h3⟩ := good_iff.mp h
  have := sumL_filter (p := fun _ => true) (xs := xs) (fun x hx => by have := isSet_f (h1 x hx); omega)
  exact ⟨this.1, h3⟩
theorem dsT_names {xs : List Setting} {g : Int} (h : namesOK xs) : namesOK (dsT xs g) := by
  rw [names_iff] at *
  intro x hx
  unfold dsT at hx
  split at hx
  · exact h x (List.mem_filter.1 hx).1
  · cases hx
theorem ptT_names {xs : List Setting} {s : Setting} (h : namesOK xs) (hs : s.n.size ≤ 9) : namesOK (ptT xs s) := by
  unfold ptT
  split
  · exact put_names h hs
  · exact fun i hi => absurd hi (Nat.not_lt_zero i)
def Lt (xs : List Setting) (s : Setting) : List Setting := xs.filter (fun x => decide (x.g < s.g))
def Gt (xs : List Setting) (s : Setting) : List Setting := xs.filter (fun x => decide (s.g < x.g))
theorem lt_mem {xs : List Setting} {s x : Setting} (h : x ∈ Lt xs s) : x.g < s.g := by simpa using (List.mem_filter.1 h).2
theorem gt_mem {xs : List Setting} {s x : Setting} (h : x ∈ Gt xs s) : s.g < x.g := by simpa using (List.mem_filter.1 h).2
theorem ws_putL {xs : List Setting} {s : Setting} : wsT (putL xs s) s.g = Lt xs s ++ Gt xs s := by
  show List.filter _ (Lt xs s ++ [s] ++ Gt xs s) = _
  have e1 : (Lt xs s).filter (fun x => !(x.g == s.g)) = Lt xs s := List.filter_eq_self.mpr (fun x hx => by have := lt_mem hx; simp; omega)
  have e2 : (Gt xs s).filter (fun x => !(x.g == s.g)) = Gt xs s := List.filter_eq_self.mpr (fun x hx => by have := gt_mem hx; simp; omega)
  rw [List.filter_append, List.filter_append, e1, e2]
  simp
theorem put_back {xs : List Setting} {s : Setting} : putL (Lt xs s ++ Gt xs s) s = putL xs s := by
  show List.filter _ _ ++ [s] ++ List.filter _ _ = Lt xs s ++ [s] ++ Gt xs s
  rw [List.filter_append, List.filter_append, List.filter_eq_self.mpr (fun x hx => by have := lt_mem hx; simpa using this), List.filter_eq_nil_iff.mpr (fun x hx => by have := gt_mem hx; simp; omega),
    List.filter_eq_nil_iff.mpr (fun x hx => by have := lt_mem hx; simp; omega), List.filter_eq_self.mpr (fun x hx => by have := gt_mem hx; simpa using this)]
  simp
structure PutFacts (xs : List Setting) (s : Setting) : Prop where
  good : goodT (ptT xs s) = true
  drop : dsOK (ptT xs s) s.g = true
  less : goodT (dsT (ptT xs s) s.g) = true
  sum : sumF (ptT xs s) (ptT xs s).length - sumF (dsT (ptT xs s) s.g) (dsT (ptT xs s) s.g).length = s.f
  again : ptT (dsT (ptT xs s) s.g) s = ptT xs s
  four : ptOK (dsT (ptT xs s) s.g) s = true
theorem put_facts {xs : List Setting} {s : Setting} (h : ptOK xs s = true) : PutFacts xs s := by
  have hp : ptT xs s = putL xs s := by rw [ptT, if_pos h]
  have hg : goodT (putL xs s) = true := by simp only [ptOK, Bool.and_eq_true] at h; exact h.2
  have hh : hasG (putL xs s) s.g = true := by
    have h1 := ws_all (xs := putL xs s) (g := s.g)
    rw [ws_putL] at h1
    have h2 : (Lt xs s ++ Gt xs s).length ≠ (putL xs s).length := by
      show _ ≠ (Lt xs s ++ [s] ++ Gt xs s).length
      simp

    rw [decide_eq_false h2] at h1
    simpa using h1.symm
  have hd : dsOK (putL xs s) s.g = true := by simp [dsOK, hg, hh]
  have hl : dsT (putL xs s) s.g = Lt xs s ++ Gt xs s := by rw [dsT, if_pos hd, ws_putL]
  have hgl : goodT (Lt xs s ++ Gt xs s) = true := by rw [← ws_putL]; exact good_filter hg
  have hok : ptOK (Lt xs s ++ Gt xs s) s = true := by simp [ptOK, hgl, put_back, hg]
  have hs : sumL (putL xs s) = sumL (Lt xs s) + s.f + sumL (Gt xs s) := by
    show sumL (Lt xs s ++ [s] ++ Gt xs s) = _
    rw [sumL_append, sumL_append]
    simp [sumL]
  refine ⟨?_, ?_, ?_, ?_, ?_, ?_⟩ <;> rw [hp]
  · exact hg
  · exact hd
  · rw [hl]; exact hgl
  · rw [hl, sumF_all, sumF_all, hs, sumL_append]; omega
  · rw [hl, ptT, if_pos hok, put_back]
  · rw [hl]; exact hok
theorem drop_eq {e : Nat} {xs : List Setting} {s : Setting} (h : ptOK xs s = true) : Res.many [.fr e 6 ((dsT (ptT xs s) s.g).map encTc), .v (.bool (dsOK (ptT xs s) s.g))] = Res.many [.fr e 6 ((dsT (ptT xs s) s.g).map encTc), .v (.bool true)] := by rw [(put_facts h).drop]
theorem free_eq {xs : List Setting} (h : goodT xs = true) : Res.many [.v (.int .i64 (if goodT xs then 16 - sumF xs xs.length else 0)), .v (.bool (goodT xs))] = Res.many [.v (.int .i64 (16 - sumF xs xs.length)), .v (.bool true)] := by rw [h]; rfl
theorem are_eq {xs : List Setting} (h : goodT xs = true) : Res.one (.v (.bool (goodT xs))) = Res.one (.v (.bool true)) := by rw [h]
theorem again_eq {e : Nat} {xs : List Setting} {s : Setting} (h : ptOK xs s = true) : Res.many [.fr e 6 ((ptT (dsT (ptT xs s) s.g) s).map encTc), .v (.bool (ptOK (dsT (ptT xs s) s.g) s))] = Res.many [.fr e 6 ((ptT xs s).map encTc), .v (.bool true)] := by rw [(put_facts h).four, (put_facts h).again]
end Go.Rf
