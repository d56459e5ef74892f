/- Plain law of lists of buckets: who waits, what is scaled. -/
import Derived.Test.YteplehpcplbioaaM3
import Derived.Test.YteplehpcplbioaaRfU
import Derived.Test.YteplehpcplbioaaRfY
set_option linter.unusedVariables false
set_option linter.unusedSimpArgs false
namespace Go.Proofs.Yteplehpcplbioaa
open Go Go.Rf
theorem wgN_mem {xs : List Bucket} {t c g : Int} {n : Nat} : g ∈ wgN xs t c n ↔ ∃ j, j < n ∧ (useB (xs.getD j default) t c).2 = false ∧ (xs.getD j default).g = g := by
  induction n with
  | zero => simp [wgN]
  | succ n ih =>
    cases h : (useB (xs.getD n default) t c).2 with
    | true =>
      rw [wgN_t h, ih]
      constructor
      · rintro ⟨j, h1, h2, h3⟩; exact ⟨j, by omega, h2, h3⟩
      · rintro ⟨j, h1, h2, h3⟩
        have : j ≠ n := fun e => by rw [e, h] at h2; cases h2
        exact ⟨j, by omega, h2, h3⟩
    | false =>
      rw [wgN_f h, List.mem_append, ih, List.mem_singleton]
      constructor
      · rintro (⟨j, h1, h2, h3⟩ | rfl)
        · exact ⟨j, by omega, h2, h3⟩
        · exact ⟨n, by omega, h, rfl⟩
      · rintro ⟨j, h1, h2, h3⟩
        by_cases e : j = n
        · subst e; exact .inr h3.symm
        · exact .inl ⟨j, by omega, h2, h3⟩
theorem any_mem {l : List Int} {x : Int} : anyN l.length (fun j => l.getD j default == x) = true ↔ x ∈ l := by
  constructor
  · intro h
    rw [anyN, Bool.not_eq_true'] at h
    by_cases hx : x ∈ l
    · exact hx
    · exfalso
      have : allN l.length (fun i => !(l.getD i default == x)) = true := allN_iff.mpr fun i hi => by
        rw [Bool.not_eq_true', beq_eq_false_iff_ne]
        intro e
        exact hx (e ▸ getD_mem hi)
      rw [this] at h
      cases h
  · intro h
    obtain ⟨i, hi, he⟩ := List.mem_iff_getElem.mp h
    exact anyN_t (i := i) (by rw [beq_iff_eq, List.getD_eq_getElem?_getD, List.getElem?_eq_getElem hi]; exact he) hi
theorem wg_at {xs : List Bucket} {t c : Int} (h : wgOK xs t c = true) : goodL xs = true ∧ inside c 1 1000 = true ∧ ∀ i, i < xs.length → okAt (xs.getD i default) t = true := by
  simp only [wgOK, Bool.and_eq_true] at h
  exact ⟨h.1.1.1, h.1.1.2, fun i hi => allN_iff.mp h.2 i hi⟩
theorem wg_has {xs : List Bucket} {t c : Int} {i : Nat} (h : wgOK xs t c = true) (hi : i < xs.length) : anyN (wgT xs t c).length (fun j => (wgT xs t c).getD j default == (xs.getD i default).g) = !(useB (xs.getD i default) t c).2 := by
  obtain ⟨h1, _, _⟩ := wg_at h
  rw [Bool.eq_iff_iff, any_mem, wgT, if_pos h, wgN_mem, Bool.not_eq_true']
  constructor
  · rintro ⟨j, h2, h3, h4⟩
    have e1 := uoK_of h1 h2 h4
    have e2 := uoK_of h1 hi rfl
    have e : j = i := by omega
    rw [← e]; exact h3
  · intro h2
    exact ⟨i, hi, h2, rfl⟩
theorem has_eq {xs : List Bucket} {t c : Int} {i : Nat} (h : wgOK xs t c = true) (hi : i < xs.length) : Res.one (.v (.bool (anyN (wgT xs t c).length (fun j => (wgT xs t c).getD j default == (xs.getD i default).g)))) = .one (.v (.bool (!(useB (xs.getD i default) t c).2))) := by rw [wg_has h hi]
theorem uo_eq {xs : List Bucket} {t c : Int} {i e : Nat} (h : wgOK xs t c = true) (hi : i < xs.length) : Res.many [.fr e 5 ((uoT xs (xs.getD i default).g t c).map encBc), .v (.bool (uoM xs (xs.getD i default).g t c)), .v (.bool (uoOK xs (xs.getD i default).g t c))] = .many [.fr e 5 ((uoT xs (xs.getD i default).g t c).map encBc), .v (.bool (useB (xs.getD i default) t c).2), .v (.bool true)] := by
  obtain ⟨h1, h2, h3⟩ := wg_at h
  have e2 := uoK_of h1 hi rfl
  have hk : uoOK xs (xs.getD i default).g t c = true := by
    rw [uoOK, e2, h1, h2, Int.toNat_natCast, h3 i hi, decide_eq_true (Int.natCast_nonneg i)]
    rfl
  rw [uoM, hk, e2, Int.toNat_natCast, Bool.true_and]
theorem sc_good {xs : List Bucket} {n d : Int} (h : scOK xs n d = true) : goodL (scT xs n d) = true := by
  rw [scT, if_pos h]
  simp only [scOK, Bool.and_eq_true] at h
  exact h.2
theorem sc_at {xs : List Bucket} {n d : Int} {i : Nat} (hi : i < (scT xs n d).length) : i < xs.length ∧ ((0 ≤ ((scT xs n d).getD i default).r * d ∧ ((scT xs n d).getD i default).r * d ≤ (xs.getD i default).r * n) ∧ (xs.getD i default).r * n ≤ 10000) := by
  have hl := scT_len (xs := xs) (n := n) (d := d)
  cases h : scOK xs n d with
  | false => rw [scT, h] at hi; simp at hi
  | true =>
    have e : (scT xs n d).getD i default = scG xs n d i := by rw [scT, if_pos h]; exact pre_getD (by omega)
    rw [e]
    simp only [scOK, Bool.and_eq_true] at h
    obtain ⟨⟨⟨h1, h2⟩, h3⟩, _⟩ := h
    have hn := inside_t.mp h2
    have hd := inside_t.mp h3
    have hb := goodL_one h1 i (by omega)
    have hm := sc_mul hb hn
    refine ⟨by omega, ⟨?_, ?_⟩, hm.2⟩
    · show 0 ≤ (xs.getD i default).r * n / d * d
      exact Int.mul_nonneg (Int.ediv_nonneg hm.1 (by omega)) (by omega)
    · show (xs.getD i default).r * n / d * d ≤ _
      exact Int.ediv_mul_le _ (by omega)
end Go.Proofs.Yteplehpcplbioaa
