/- Plain law of samples: shares, who waits, spans. -/
import Derived.Test.YtbepplocdmnchaaM
set_option linter.unusedVariables false
set_option linter.unusedSimpArgs false
namespace Go.Proofs.Ytbepplocdmnchaa
open Go Go.Rf
theorem is_sum {xs : List Sample} (h : ∀ i, i < xs.length → okS (xs.getD i default)) : ∀ i, i ≤ xs.length → isG xs i 0 + isG xs i 1 + isG xs i 2 + isG xs i 3 + isG xs i 4 + isG xs i 5 + isG xs i 6 + isG xs i 7 = i
  | 0, _ => rfl
  | i + 1, hi => by
    have ih := is_sum h i (by omega)
    have hc := (h i (by omega)).1
    have step : ∀ k : Nat, isG xs (i + 1) k = isG xs i k + if (xs.getD i default).q = (k : Int) then 1 else 0 := fun k => by
      split
      · next h => exact isG_same h
      · next h => rw [Int.add_zero]; exact isG_other h
    rw [step 0, step 1, step 2, step 3, step 4, step 5, step 6, step 7]
    generalize (xs.getD i default).q = c at *
    (repeat' split) <;> omega
theorem shares_sum {xs : List Sample} : 0 ≤ sumI (shT xs) (shT xs).length ∧ sumI (shT xs) (shT xs).length ≤ 100 := by
  cases h : someS xs with
  | false =>
    have e : shT xs = [] := by rw [shT, h]; rfl
    rw [e]
    exact ⟨Int.le_refl _, by show (0 : Int) ≤ 100; omega⟩
  | true =>
    have e : shT xs = pre (shG xs) 8 := by rw [shT, if_pos h]
    have hpos := someS_pos h
    have hs := is_sum (goodS_ok (someS_good h)).2 xs.length (Nat.le_refl _)
    have hn : (0 : Int) < xs.length := by omega
    have hq : ∀ k, 0 ≤ shG xs k ∧ shG xs k * xs.length ≤ 100 * isG xs xs.length k := fun k => by
      have h1 := isG_le (xs := xs) (i := xs.length) (q := k)
      exact ⟨Int.ediv_nonneg (by omega) (by omega), Int.ediv_mul_le _ (by omega)⟩
    have q0 := hq 0
    have q1 := hq 1
    have q2 := hq 2
    have q3 := hq 3
    have q4 := hq 4
    have q5 := hq 5
    have q6 := hq 6
    have q7 := hq 7
    rw [e, pre_len, sum_pre]
    generalize shG xs 0 = a0 at *
    generalize shG xs 1 = a1 at *
    generalize shG xs 2 = a2 at *
    generalize shG xs 3 = a3 at *
    generalize shG xs 4 = a4 at *
    generalize shG xs 5 = a5 at *
    generalize shG xs 6 = a6 at *
    generalize shG xs 7 = a7 at *
    refine ⟨by omega, ?_⟩
    have hm : (a0 + a1 + a2 + a3 + a4 + a5 + a6 + a7) * (xs.length : Int) ≤ 100 * xs.length := by
      simp only [Int.add_mul]
      omega
    exact Int.le_of_mul_le_mul_right hm hn
theorem shT_in {xs : List Sample} (h : xs.length ≤ 60) : ∀ j, 0 ≤ (shT xs).getD j default ∧ (shT xs).getD j default ≤ 1000 := fun j => by
  unfold shT
  split
  · next hs =>
    have hpos := someS_pos hs
    rcases Nat.lt_or_ge j 8 with hj | hj
    · rw [pre_getD hj]
      have h1 := isG_le (xs := xs) (i := xs.length) (q := j)
      refine ⟨Int.ediv_nonneg (by omega) (by omega), ?_⟩
      have : shG xs j ≤ 100 := Int.ediv_le_of_le_mul (by omega) (by omega)
      omega
    · rw [List.getD_eq_getElem?_getD, List.getElem?_eq_none (by rw [pre_len]; exact hj)]
      show (0 : Int) ≤ 0 ∧ (0 : Int) ≤ 1000
      omega
  · show (0 : Int) ≤ 0 ∧ (0 : Int) ≤ 1000
    omega
/-! who waits -/
def mF (xs : List Sample) (i : Nat) : Int × Int := foldN (fun i p => mStep (mwN xs i) (xs.getD i default).a p) (0, 0) i
theorem mF_is {xs : List Sample} : ∀ i, mF xs i = (0, 0) ∨ ∃ j, j < i ∧ mF xs i = (mwN xs j, (xs.getD j default).a)
  | 0 => .inl rfl
  | i + 1 => by
    have e : mF xs (i + 1) = mStep (mwN xs i) (xs.getD i default).a (mF xs i) := rfl
    rw [e, mStep]
    split
    · exact .inr ⟨i, by omega, rfl⟩
    · rcases mF_is i with g | ⟨j, g1, g2⟩
      · exact .inl g
      · exact .inr ⟨j, by omega, g2⟩
def wtN (xs : List Sample) (t : Int) (i : Nat) : Int := cntN (fun k => decide ((xs.getD k default).a ≤ t) && decide (t < (xs.getD k default).g)) i
theorem waits_is {xs : List Sample} (h : someS xs = true) (h2 : 0 < (mwT xs).1) : wtN xs (mwT xs).2 xs.length = (mwT xs).1 := by
  have e : mwT xs = mF xs xs.length := by rw [mwT, if_pos h]; rfl
  rcases mF_is (xs := xs) xs.length with g | ⟨j, g1, g2⟩
  · rw [e, g] at h2
    exact absurd h2 (by decide)
  · rw [e, g2]; rfl
/-! spans -/
def bF (xs : List Sample) (s : Int) (i : Nat) : Int × Int := foldN (fun i p => bStep (xs.getD i default).g (bsN xs s i) p) (0, 0) i
theorem bF_is {xs : List Sample} {s : Int} : ∀ i, (bF xs s i = (0, 0) ∧ ∀ j, j < i → bsN xs s j ≤ 0) ∨ ∃ k, k < i ∧ bF xs s i = ((xs.getD k default).g, bsN xs s k) ∧ (∀ j, j < i → bsN xs s j ≤ bsN xs s k) ∧ ∀ j, j < k → bsN xs s j < bsN xs s k
  | 0 => .inl ⟨rfl, fun j hj => by omega⟩
  | i + 1 => by
    have e : bF xs s (i + 1) = bStep (xs.getD i default).g (bsN xs s i) (bF xs s i) := rfl
    rw [e, bStep]
    rcases bF_is i with ⟨g1, g2⟩ | ⟨k, g0, g1, g2, g3⟩
    · rw [g1]
      split
      · next hc =>
        refine .inr ⟨i, by omega, rfl, fun j hj => ?_, fun j hj => ?_⟩
        · rcases Nat.lt_or_ge j i with hj2 | hj2
          · have := g2 j hj2; omega
          · have : j = i := by omega
            subst this; omega
        · have := g2 j hj; omega
      · next hc =>
        refine .inl ⟨rfl, fun j hj => ?_⟩
        rcases Nat.lt_or_ge j i with hj2 | hj2
        · exact g2 j hj2
        · have : j = i := by omega
          subst this; omega
    · rw [g1]
      split
      · next hc =>
        have hc : bsN xs s k < bsN xs s i := hc
        refine .inr ⟨i, by omega, rfl, fun j hj => ?_, fun j hj => ?_⟩
        · rcases Nat.lt_or_ge j i with hj2 | hj2
          · have := g2 j hj2; omega
          · have : j = i := by omega
            subst this; omega
        · have := g2 j hj; omega
      · next hc =>
        have hc : ¬ bsN xs s k < bsN xs s i := hc
        refine .inr ⟨k, by omega, rfl, fun j hj => ?_, g3⟩
        rcases Nat.lt_or_ge j i with hj2 | hj2
        · exact g2 j hj2
        · have : j = i := by omega
          subst this; omega
theorem sorted {xs : List Sample} (h : goodS xs = true) : ∀ i j, i ≤ j → j < xs.length → (xs.getD i default).g ≤ (xs.getD j default).g := fun i j hij hj => by
  obtain ⟨d, rfl⟩ : ∃ d, j = i + d := ⟨j - i, by omega⟩
  clear hij
  induction d with
  | zero => exact Int.le_refl _
  | succ d ih =>
    have h1 := ih (by omega)
    simp only [goodS, Bool.and_eq_true] at h
    have h2 := allN_iff.mp h.1 (i + (d + 1)) hj
    simp only [oneS, Bool.and_eq_true, Bool.or_eq_true, decide_eq_true_eq] at h2
    rcases h2.2 with h3 | h3
    · omega
    · rw [show i + (d + 1) - 1 = i + d by omega] at h3
      omega
def spN (xs : List Sample) (t s : Int) (i : Nat) : Int := cntN (fun k => decide (t ≤ (xs.getD k default).g) && decide ((xs.getD k default).g < t + s)) i
theorem sp_is {xs : List Sample} {s : Int} {i : Nat} : spN xs (xs.getD i default).g s xs.length = bsN xs s i :=
  cntN_congr fun k _ => by
    unfold inside
    congr 1
    rw [Bool.eq_iff_iff, decide_eq_true_eq, decide_eq_true_eq]
    omega
theorem span_ok {xs : List Sample} {s : Int} {i : Nat} (h : (bsT xs s).2.2 = true) (hi : i < xs.length) : okS (xs.getD i default) ∧ (1 ≤ s ∧ s ≤ 1000) ∧ bsN xs s i ≤ (bsT xs s).2.1 ∧ ¬ ((xs.getD i default).g < (bsT xs s).1 ∧ bsN xs s i = (bsT xs s).2.1) := by
  unfold bsT at h ⊢
  split at h
  · next hk =>
    rw [if_pos hk]
    simp only [Bool.and_eq_true] at hk
    have hg := someS_good hk.1
    have ho := (goodS_ok hg).2 i hi
    have hs := inside_t.mp hk.2
    refine ⟨ho, hs, ?_⟩
    show bsN xs s i ≤ (bF xs s xs.length).2 ∧ ¬ ((xs.getD i default).g < (bF xs s xs.length).1 ∧ bsN xs s i = (bF xs s xs.length).2)
    unfold okS at ho
    rcases bF_is (xs := xs) (s := s) xs.length with ⟨g1, g2⟩ | ⟨k, g0, g1, g2, g3⟩
    · rw [g1]
      have := g2 i hi
      refine ⟨this, fun hc => ?_⟩
      have := hc.1
      dsimp only at this
      omega
    · rw [g1]
      refine ⟨g2 i hi, fun hc => ?_⟩
      obtain ⟨c1, c2⟩ := hc
      dsimp only at c1 c2
      rcases Nat.lt_or_ge i k with hik | hik
      · have := g3 i hik
        omega
      · have := sorted hg k i hik hi
        omega
  · cases h
end Go.Proofs.Ytbepplocdmnchaa
namespace Go.Proofs.Ytbepplocdmnchaa
open Go Go.Rf
theorem all_eq {xs : List Sample} (h : someS xs = true) : Res.many [.v (.int .i64 (dlT xs 100).1), .v (.bool (dlT xs 100).2)] = .many [.v (.int .i64 (worst xs).2), .v (.bool true)] := by rw [delay_all h]
theorem none_eq {xs : List Sample} (h : someS xs = true) : Res.many [.v (.int .i64 (dlT xs 0).1), .v (.bool (dlT xs 0).2)] = .many [.v (.int .i64 (dlT xs 0).1), .v (.bool true)] := by rw [(delay_none h).1]
theorem mean_facts {xs : List Sample} (h : someS xs = true) : ((mdT xs).1 ≤ (worst xs).2 * (mdT xs).2 ∧ (dlT xs 0).1 * (mdT xs).2 ≤ (mdT xs).1) ∧ (0 ≤ (mdT xs).1 ∧ (mdT xs).1 ≤ 4000000) ∧ (worst xs).2 * (mdT xs).2 ≤ 4000000 ∧ 0 ≤ (dlT xs 0).1 * (mdT xs).2 := by
  have h1 := mean_le h (worst_is h).1
  have h2 := mean_ge h (delay_none h).2.2
  have h3 := mean_in h
  obtain ⟨j, k1, k2⟩ := (worst_is h).2
  have h4 := dl_ok h j k1
  refine ⟨⟨h1, h2⟩, ⟨h3.1, h3.2.1⟩, ?_, Int.mul_nonneg (delay_none h).2.1 h3.2.2.1⟩
  have := Int.mul_le_mul (by omega : (worst xs).2 ≤ 100000) h3.2.2.2 h3.2.2.1 (by omega)
  omega
end Go.Proofs.Ytbepplocdmnchaa
namespace Go.Proofs.Ytbepplocdmnchaa
open Go Go.Rf
theorem wtN_t {xs : List Sample} {t : Int} {i : Nat} (h : (xs.getD i default).a ≤ t) (h2 : t < (xs.getD i default).g) : wtN xs t (i + 1) = wtN xs t i + 1 := cntN_t (by rw [decide_eq_true h, decide_eq_true h2]; rfl)
theorem wtN_f {xs : List Sample} {t : Int} {i : Nat} (h : ¬ ((xs.getD i default).a ≤ t ∧ t < (xs.getD i default).g)) : wtN xs t (i + 1) = wtN xs t i := cntN_f (by
  rw [Bool.and_eq_false_iff, decide_eq_false_iff_not, decide_eq_false_iff_not]
  omega)
theorem spN_t {xs : List Sample} {t s : Int} {i : Nat} (h : t ≤ (xs.getD i default).g) (h2 : (xs.getD i default).g < t + s) : spN xs t s (i + 1) = spN xs t s i + 1 := cntN_t (by rw [decide_eq_true h, decide_eq_true h2]; rfl)
theorem spN_f {xs : List Sample} {t s : Int} {i : Nat} (h : ¬ (t ≤ (xs.getD i default).g ∧ (xs.getD i default).g < t + s)) : spN xs t s (i + 1) = spN xs t s i := cntN_f (by
  rw [Bool.and_eq_false_iff, decide_eq_false_iff_not, decide_eq_false_iff_not]
  omega)
end Go.Proofs.Ytbepplocdmnchaa
