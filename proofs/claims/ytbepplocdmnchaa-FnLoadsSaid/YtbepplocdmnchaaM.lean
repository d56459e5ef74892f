/- Plain law of samples: delays, classes, shares, spans. -/
import Derived.Test.YtbepplocdmnchaaRfQ
import Derived.Test.YtbepplocdmnchaaRfZ
set_option linter.unusedVariables false
set_option linter.unusedSimpArgs false
namespace Go.Proofs.Ytbepplocdmnchaa
open Go Go.Rf
def dl (xs : List Sample) (i : Nat) : Int := (xs.getD i default).g - (xs.getD i default).a
theorem dl_ok {xs : List Sample} (h : someS xs = true) : ∀ i, i < xs.length → 0 ≤ dl xs i ∧ dl xs i ≤ 100000 := fun i hi => by
  have := (goodS_ok (someS_good h)).2 i hi
  unfold okS at this
  unfold dl
  omega
/-! the worst delay -/
def wF (xs : List Sample) (i : Nat) : Int × Int := foldN (fun i p => wStep (xs.getD i default) p) (0, -1) i
theorem wF_max {xs : List Sample} (h : ∀ i, i < xs.length → 0 ≤ dl xs i) : ∀ i, i ≤ xs.length → (∀ j, j < i → dl xs j ≤ (wF xs i).2) ∧ (0 < i → ∃ j, j < i ∧ dl xs j = (wF xs i).2) ∧ (i = 0 → (wF xs i).2 = -1)
  | 0, _ => ⟨fun j hj => by omega, fun h0 => by omega, fun _ => rfl⟩
  | i + 1, hi => by
    obtain ⟨h1, h2, h3⟩ := wF_max h i (by omega)
    have e : wF xs (i + 1) = wStep (xs.getD i default) (wF xs i) := rfl
    have hd := h i (by omega)
    unfold wStep at e
    by_cases hc : (wF xs i).2 < (xs.getD i default).g - (xs.getD i default).a ∨ ((xs.getD i default).g - (xs.getD i default).a = (wF xs i).2 ∧ (xs.getD i default).q < (wF xs i).1)
    · rw [if_pos hc] at e
      have e2 : (wF xs (i + 1)).2 = dl xs i := by rw [e]; rfl
      rw [e2]
      refine ⟨fun j hj => ?_, fun _ => ⟨i, by omega, rfl⟩, fun h0 => by omega⟩
      rcases Nat.lt_or_ge j i with hj2 | hj2
      · have := h1 j hj2
        unfold dl at *
        omega
      · have : j = i := by omega
        subst this; omega
    · rw [if_neg hc] at e
      rw [e]
      have hle : dl xs i ≤ (wF xs i).2 := by unfold dl; omega
      refine ⟨fun j hj => ?_, fun _ => ?_, fun h0 => by omega⟩
      · rcases Nat.lt_or_ge j i with hj2 | hj2
        · exact h1 j hj2
        · have : j = i := by omega
          subst this; exact hle
      · rcases Nat.eq_zero_or_pos i with h0 | h0
        · exfalso
          have := h3 h0
          omega
        · obtain ⟨j, g1, g2⟩ := h2 h0
          exact ⟨j, by omega, g2⟩
theorem worst_is {xs : List Sample} (h : someS xs = true) : (∀ j, j < xs.length → dl xs j ≤ (worst xs).2) ∧ ∃ j, j < xs.length ∧ dl xs j = (worst xs).2 := by
  obtain ⟨h1, h2, _⟩ := wF_max (fun i hi => (dl_ok h i hi).1) xs.length (Nat.le_refl _)
  have e : worst xs = wF xs xs.length := by rw [worst, if_pos h]; rfl
  rw [e]
  exact ⟨h1, h2 (someS_pos h)⟩
theorem cntN_all {p : Nat → Bool} : ∀ {n : Nat}, (∀ i, i < n → p i = true) → cntN p n = n
  | 0, _ => rfl
  | n + 1, h => by rw [cntN_t (h n (by omega)), cntN_all (fun i hi => h i (by omega))]; rfl
theorem cntN_full {p : Nat → Bool} : ∀ {n : Nat}, (n : Int) ≤ cntN p n → ∀ i, i < n → p i = true
  | 0, _, i, hi => by omega
  | n + 1, h, i, hi => by
    have hl := cntN_le p n
    cases hp : p n with
    | true =>
      rw [cntN_t hp] at h
      rcases Nat.lt_or_ge i n with h2 | h2
      · exact cntN_full (by omega) i h2
      · have : i = n := by omega
        subst this; exact hp
    | false => rw [cntN_f hp] at h; omega
/-! the delay for all, and for none -/
def dF (xs : List Sample) (s : Int) (i : Nat) : Int := foldN (fun i p => dStep (s * xs.length) (upN xs ((xs.getD i default).g - (xs.getD i default).a)) ((xs.getD i default).g - (xs.getD i default).a) p) (-1) i
theorem dF_succ {xs : List Sample} {s : Int} {i : Nat} : dF xs s (i + 1) = dStep (s * xs.length) (upN xs (dl xs i)) (dl xs i) (dF xs s i) := rfl
theorem up_full {xs : List Sample} {d : Int} : 100 * (xs.length : Int) ≤ 100 * upN xs d ↔ ∀ j, j < xs.length → dl xs j ≤ d := by
  constructor
  · intro h j hj
    have := cntN_full (p := fun k => decide ((xs.getD k default).g - (xs.getD k default).a ≤ d)) (n := xs.length) (by unfold upN at h; omega) j hj
    exact of_decide_eq_true this
  · intro h
    have := cntN_all (p := fun k => decide ((xs.getD k default).g - (xs.getD k default).a ≤ d)) (n := xs.length) (fun j hj => decide_eq_true (h j hj))
    unfold upN
    omega
theorem dF_all {xs : List Sample} {M : Int} (h0 : ∀ i, i < xs.length → 0 ≤ dl xs i) (h : ∀ j, j < xs.length → dl xs j ≤ M) (hM : ∃ j, j < xs.length ∧ dl xs j = M) : ∀ i, i ≤ xs.length → (dF xs 100 i = -1 ∧ ∀ j, j < i → dl xs j ≠ M) ∨ (dF xs 100 i = M ∧ ∃ j, j < i ∧ dl xs j = M)
  | 0, _ => .inl ⟨rfl, fun j hj => by omega⟩
  | i + 1, hi => by
    have ih := dF_all h0 h hM i (by omega)
    have hd := h0 i (by omega)
    have hm := h i (by omega)
    have hq : (100 * (xs.length : Int) ≤ 100 * upN xs (dl xs i)) ↔ dl xs i = M := by
      rw [up_full]
      constructor
      · intro g
        obtain ⟨j, k1, k2⟩ := hM
        have := g j k1
        omega
      · intro g; rw [g]; exact h
    rw [dF_succ, dStep]
    by_cases he : dl xs i = M
    · have hq2 := hq.mpr he
      right
      refine ⟨?_, i, by omega, he⟩
      rcases ih with ⟨g1, _⟩ | ⟨g1, _⟩
      · rw [if_pos ⟨hq2, .inl (by omega)⟩]; exact he
      · split
        · exact he
        · exact g1
    · rw [if_neg (fun hc => he (hq.mp hc.1))]
      rcases ih with ⟨g1, g2⟩ | ⟨g1, j, g2, g3⟩
      · exact .inl ⟨g1, fun j hj => by
          rcases Nat.lt_or_ge j i with hj2 | hj2
          · exact g2 j hj2
          · have : j = i := by omega
            subst this; exact he⟩
      · exact .inr ⟨g1, j, by omega, g3⟩
theorem dF_none {xs : List Sample} (h0 : ∀ i, i < xs.length → 0 ≤ dl xs i) : ∀ i, i ≤ xs.length → (i = 0 → dF xs 0 i = -1) ∧ (0 < i → 0 ≤ dF xs 0 i ∧ ∀ j, j < i → dF xs 0 i ≤ dl xs j)
  | 0, _ => ⟨fun _ => rfl, fun h => by omega⟩
  | i + 1, hi => by
    obtain ⟨ih1, ih2⟩ := dF_none h0 i (by omega)
    have hd := h0 i (by omega)
    have hc := cntN_le (fun k => decide ((xs.getD k default).g - (xs.getD k default).a ≤ dl xs i)) xs.length
    refine ⟨fun h => by omega, fun _ => ?_⟩
    rw [dF_succ, dStep]
    have hz : 0 * (xs.length : Int) ≤ 100 * upN xs (dl xs i) := by unfold upN; omega
    rcases Nat.eq_zero_or_pos i with hi0 | hi0
    · have e := ih1 hi0
      rw [if_pos ⟨hz, .inl (by omega)⟩]
      refine ⟨hd, fun j hj => ?_⟩
      have : j = i := by omega
      subst this; omega
    · obtain ⟨g1, g2⟩ := ih2 hi0
      by_cases hlt : dl xs i < dF xs 0 i
      · rw [if_pos ⟨hz, .inr hlt⟩]
        refine ⟨hd, fun j hj => ?_⟩
        rcases Nat.lt_or_ge j i with hj2 | hj2
        · have := g2 j hj2; omega
        · have : j = i := by omega
          subst this; omega
      · rw [if_neg (fun hc => by rcases hc.2 with h | h <;> omega)]
        refine ⟨g1, fun j hj => ?_⟩
        rcases Nat.lt_or_ge j i with hj2 | hj2
        · exact g2 j hj2
        · have : j = i := by omega
          subst this; omega
theorem delay_all {xs : List Sample} (h : someS xs = true) : dlT xs 100 = ((worst xs).2, true) := by
  obtain ⟨h1, h2⟩ := worst_is h
  have hpos := someS_pos h
  have e : dlT xs 100 = (dF xs 100 xs.length, true) := by rw [dlT, h]; rfl
  rcases dF_all (fun i hi => (dl_ok h i hi).1) h1 h2 xs.length (Nat.le_refl _) with ⟨_, g⟩ | ⟨g, _⟩
  · obtain ⟨j, k1, k2⟩ := h2
    exact absurd k2 (g j k1)
  · rw [e, g]
theorem delay_none {xs : List Sample} (h : someS xs = true) : (dlT xs 0).2 = true ∧ 0 ≤ (dlT xs 0).1 ∧ ∀ j, j < xs.length → (dlT xs 0).1 ≤ dl xs j := by
  have e : dlT xs 0 = (dF xs 0 xs.length, true) := by rw [dlT, h]; rfl
  obtain ⟨_, g⟩ := dF_none (fun i hi => (dl_ok h i hi).1) xs.length (Nat.le_refl _)
  obtain ⟨g1, g2⟩ := g (someS_pos h)
  rw [e]
  exact ⟨rfl, g1, g2⟩
/-! the mean -/
theorem sumD_up {xs : List Sample} {M : Int} (h : ∀ j, j < xs.length → dl xs j ≤ M) : ∀ i, i ≤ xs.length → sumD xs i ≤ M * i
  | 0, _ => by simp [sumD, foldN]
  | i + 1, hi => by
    have h1 := sumD_up h i (by omega)
    have h2 := h i (by omega)
    have e : M * ((i + 1 : Nat) : Int) = M * i + M := by rw [Int.natCast_succ, Int.mul_add, Int.mul_one]
    rw [sumD_succ, e]
    unfold dl at h2
    omega
theorem sumD_down {xs : List Sample} {M : Int} (h : ∀ j, j < xs.length → M ≤ dl xs j) : ∀ i, i ≤ xs.length → M * i ≤ sumD xs i
  | 0, _ => by simp [sumD, foldN]
  | i + 1, hi => by
    have h1 := sumD_down h i (by omega)
    have h2 := h i (by omega)
    have e : M * ((i + 1 : Nat) : Int) = M * i + M := by rw [Int.natCast_succ, Int.mul_add, Int.mul_one]
    rw [sumD_succ, e]
    unfold dl at h2
    omega
theorem gcd_dvd {a b : Int} (ha : 0 ≤ a) (hb : 0 ≤ b) : a / gcdI a b * gcdI a b = a ∧ b / gcdI a b * gcdI a b = b := by
  have h1 : gcdI a b ∣ a := by
    have := Int.natCast_dvd_natCast.mpr (Nat.gcd_dvd_left a.toNat b.toNat)
    rwa [Int.toNat_of_nonneg ha] at this
  have h2 : gcdI a b ∣ b := by
    have := Int.natCast_dvd_natCast.mpr (Nat.gcd_dvd_right a.toNat b.toNat)
    rwa [Int.toNat_of_nonneg hb] at this
  exact ⟨Int.ediv_mul_cancel h1, Int.ediv_mul_cancel h2⟩
theorem mean_le {xs : List Sample} {M : Int} (h : someS xs = true) (hM : ∀ j, j < xs.length → dl xs j ≤ M) : (mdT xs).1 ≤ M * (mdT xs).2 := by
  have hpos := someS_pos h
  have hs := sumD_le (goodS_ok (someS_good h)).2 xs.length (Nat.le_refl _)
  have hu := sumD_up hM xs.length (Nat.le_refl _)
  have hg := gcdI_pos (a := sumD xs xs.length) (b := xs.length) (by omega)
  obtain ⟨e1, e2⟩ := gcd_dvd hs.1 (Int.natCast_nonneg xs.length)
  rw [mdT, if_pos h]
  dsimp only
  generalize gcdI (sumD xs xs.length) xs.length = g at *
  generalize sumD xs xs.length / g = p at *
  generalize (xs.length : Int) / g = q at *
  have h1 : p * g ≤ M * q * g := by rw [Int.mul_assoc, e1, e2]; exact hu
  exact Int.le_of_mul_le_mul_right h1 hg
theorem mean_ge {xs : List Sample} {M : Int} (h : someS xs = true) (hM : ∀ j, j < xs.length → M ≤ dl xs j) : M * (mdT xs).2 ≤ (mdT xs).1 := by
  have hpos := someS_pos h
  have hs := sumD_le (goodS_ok (someS_good h)).2 xs.length (Nat.le_refl _)
  have hu := sumD_down hM xs.length (Nat.le_refl _)
  have hg := gcdI_pos (a := sumD xs xs.length) (b := xs.length) (by omega)
  obtain ⟨e1, e2⟩ := gcd_dvd hs.1 (Int.natCast_nonneg xs.length)
  rw [mdT, if_pos h]
  dsimp only
  generalize gcdI (sumD xs xs.length) xs.length = g at *
  generalize sumD xs xs.length / g = p at *
  generalize (xs.length : Int) / g = q at *
  have h1 : M * q * g ≤ p * g := by rw [Int.mul_assoc, e1, e2]; exact hu
  exact Int.le_of_mul_le_mul_right h1 hg
theorem mean_in {xs : List Sample} (h : someS xs = true) : 0 ≤ (mdT xs).1 ∧ (mdT xs).1 ≤ 4000000 ∧ 0 ≤ (mdT xs).2 ∧ (mdT xs).2 ≤ 40 := by
  have hpos := someS_pos h
  have hl := (goodS_ok (someS_good h)).1
  have hs := sumD_le (goodS_ok (someS_good h)).2 xs.length (Nat.le_refl _)
  have hg := gcdI_pos (a := sumD xs xs.length) (b := xs.length) (by omega)
  rw [mdT, if_pos h]
  dsimp only
  have h1 := Int.ediv_le_self (gcdI (sumD xs xs.length) xs.length) hs.1
  have h2 := Int.ediv_le_self (gcdI (sumD xs xs.length) xs.length) (Int.natCast_nonneg xs.length)
  have h3 := Int.ediv_nonneg hs.1 (Int.le_of_lt hg)
  have h4 := Int.ediv_nonneg (Int.natCast_nonneg xs.length) (Int.le_of_lt hg)
  omega
/-! sums -/
def sumI (l : List Int) (i : Nat) : Int := foldN (fun i s => s + l.getD i default) 0 i
theorem sumI_succ {l : List Int} {i : Nat} : sumI l (i + 1) = sumI l i + l.getD i default := rfl
theorem sumI_in {l : List Int} (h : ∀ j, 0 ≤ l.getD j default ∧ l.getD j default ≤ 1000) : ∀ i, 0 ≤ sumI l i ∧ sumI l i ≤ 1000 * i
  | 0 => by simp [sumI, foldN]
  | i + 1 => by
    have := sumI_in h i
    have := h i
    rw [sumI_succ]
    omega
theorem sum_pre {g : Nat → Int} : sumI (pre g 8) 8 = g 0 + g 1 + g 2 + g 3 + g 4 + g 5 + g 6 + g 7 := by
  have e : ∀ k, k < 8 → (pre g 8).getD k default = g k := fun k hk => pre_getD hk
  simp only [sumI_succ, e 0 (by decide), e 1 (by decide), e 2 (by decide), e 3 (by decide), e 4 (by decide), e 5 (by decide), e 6 (by decide), e 7 (by decide)]
  show 0 + g 0 + g 1 + g 2 + g 3 + g 4 + g 5 + g 6 + g 7 = _
  omega
theorem dc_sum {xs : List Sample} : ∀ i, dcG xs i 0 + dcG xs i 1 + dcG xs i 2 + dcG xs i 3 + dcG xs i 4 + dcG xs i 5 + dcG xs i 6 + dcG xs i 7 = i
  | 0 => rfl
  | i + 1 => by
    have ih := dc_sum (xs := xs) i
    have hc := cls_le (d := (xs.getD i default).g - (xs.getD i default).a)
    have step : ∀ k, dcG xs (i + 1) k = dcG xs i k + if cls ((xs.getD i default).g - (xs.getD i default).a) = k then 1 else 0 := fun k => by
      split
      · next h => exact cntN_t (by simpa using h)
      · next h => rw [Int.add_zero]; exact cntN_f (by simpa using h)
    rw [step 0, step 1, step 2, step 3, step 4, step 5, step 6, step 7]
    generalize cls ((xs.getD i default).g - (xs.getD i default).a) = c at *
    (repeat' split) <;> omega
theorem dcT_sum {xs : List Sample} (h : goodS xs = true) : sumI (dcT xs) (dcT xs).length = xs.length := by
  have e : dcT xs = pre (dcG xs xs.length) 8 := by rw [dcT, if_pos h]
  rw [e, pre_len, sum_pre]
  exact dc_sum xs.length
theorem dcT_in {xs : List Sample} (h : xs.length ≤ 60) : ∀ j, 0 ≤ (dcT xs).getD j default ∧ (dcT xs).getD j default ≤ 1000 := fun j => by
  unfold dcT
  split
  · rcases Nat.lt_or_ge j 8 with hj | hj
    · rw [pre_getD hj]
      have := dcG_le (xs := xs) (i := xs.length) (k := j)
      omega
    · rw [List.getD_eq_getElem?_getD, List.getElem?_eq_none (by rw [pre_len]; exact hj)]
      show (0 : Int) ≤ 0 ∧ (0 : Int) ≤ 1000
      omega
  · show (0 : Int) ≤ 0 ∧ (0 : Int) ≤ 1000
    omega
end Go.Proofs.Ytbepplocdmnchaa
