/- Plain law of buckets: what is used, brought up and next allowed. -/
import Derived.Test.YteplehpcplbioaaM2
import Derived.Test.YteplehpcplbioaaRfXC
set_option linter.unusedVariables false
set_option linter.unusedSimpArgs false
namespace Go.Proofs.Yteplehpcplbioaa
open Go Go.Rf
theorem bringB_ok {x : Bucket} {t : Int} (h : okAt x t = true) : isBucket (bringB x t) = true := by
  have hg := gain_le h
  have ho := okAt_iff.mp h
  have e1 := bringB_h x t
  rw [isB_iff, bringB_g, bringB_r, bringB_b, bringB_t]
  omega
theorem useTo_bucket {x : Bucket} {t c : Int} (h : (useTo x t c).2.2 = true) : isBucket (useTo x t c).1 = true := by
  unfold useTo at h ⊢
  split at h
  · next hk =>
    rw [if_pos hk]
    simp only [Bool.and_eq_true] at hk
    have hb := isB_iff.mp (bringB_ok hk.1)
    have hc := inside_t.mp hk.2
    have e1 := bringB_g x t
    have e2 := bringB_r x t
    have e3 := bringB_b x t
    have e4 := bringB_t x t
    show isBucket (useB x t c).1 = true
    unfold useB
    split
    · exact bringB_ok hk.1
    · rw [isB_iff]
      dsimp only
      omega
  · cases h
theorem bring_ok {x : Bucket} {t : Int} (h : (bringTo x t).2 = true) : okAt x t = true := by
  unfold bringTo at h
  split at h
  · assumption
  · cases h
theorem bring_at {x : Bucket} {t : Int} (h : okAt x t = true) : bringTo x t = (bringB x t, true) := by rw [bringTo, if_pos h]
theorem half_ok {x : Bucket} {t : Int} (h : okAt x t = true) : okAt x ((x.t + t) / 2) = true := by
  rw [okAt_iff] at h ⊢
  omega
theorem min_min {b h p q : Int} (hp : 0 ≤ p) (hq : 0 ≤ q) (hb : h ≤ b) : min b (min b (h + p) + q) = min b (h + (p + q)) := by omega
theorem half_twice {x : Bucket} {t : Int} (h : okAt x t = true) : bringTo (bringB x ((x.t + t) / 2)) t = (bringB x t, true) := by
  have h1 := half_ok h
  have hb := bringB_ok h1
  have ho := okAt_iff.mp h
  have e4 := bringB_t x ((x.t + t) / 2)
  have hk : okAt (bringB x ((x.t + t) / 2)) t = true := by
    rw [okAt, hb, Bool.true_and]
    exact inside_t.mpr (by omega)
  rw [bring_at hk]
  have e1 : bringB (bringB x ((x.t + t) / 2)) t = bringB x t := by
    have eg := bringB_g (bringB x ((x.t + t) / 2)) t
    have er := bringB_r (bringB x ((x.t + t) / 2)) t
    have eb := bringB_b (bringB x ((x.t + t) / 2)) t
    have eh := bringB_h (bringB x ((x.t + t) / 2)) t
    have et := bringB_t (bringB x ((x.t + t) / 2)) t
    have fg := bringB_g x ((x.t + t) / 2)
    have fr := bringB_r x ((x.t + t) / 2)
    have fb := bringB_b x ((x.t + t) / 2)
    have fh := bringB_h x ((x.t + t) / 2)
    have gg := bringB_g x t
    have gr := bringB_r x t
    have gb := bringB_b x t
    have gh := bringB_h x t
    have gt := bringB_t x t
    have p1 := Int.mul_nonneg ho.2.1.1 (by omega : 0 ≤ (x.t + t) / 2 - x.t)
    have p2 := Int.mul_nonneg ho.2.1.1 (by omega : 0 ≤ t - (x.t + t) / 2)
    have p3 : x.r * (t - x.t) = x.r * ((x.t + t) / 2 - x.t) + x.r * (t - (x.t + t) / 2) := by
      rw [← Int.mul_add]; congr 1; omega
    have hh : (bringB (bringB x ((x.t + t) / 2)) t).h = (bringB x t).h := by
      rw [eh, fb, fh, fr, e4, gh, p3]
      exact min_min p1 p2 (by omega)
    generalize bringB (bringB x ((x.t + t) / 2)) t = A at *
    generalize bringB x t = B at *
    cases A
    cases B
    simp only at *
    subst eg er eb et gg gr gb gt hh
    simp only [fg, fr, fb]
  rw [e1]
theorem tokens_at {x : Bucket} {t : Int} (h : okAt x t = true) : tokens x t = ((bringB x t).h - x.h, true) := by rw [tokens, if_pos h, bringB_h]
theorem next_ok {x : Bucket} {c : Int} (h : (nextA x c).2 = true) : isBucket x = true ∧ inside c 1 1000 = true ∧ c ≤ x.b ∧ okAt x (nextA x c).1 = true ∧ c ≤ min x.b (x.h + x.r * ((nextA x c).1 - x.t)) ∧ ((nextA x c).1 = x.t ∨ (x.t < (nextA x c).1 ∧ x.h + x.r * ((nextA x c).1 - 1 - x.t) < c)) := by
  unfold nextA at h ⊢
  split at h
  · next hk =>
    rw [if_pos hk]
    simp only [Bool.and_eq_true, decide_eq_true_eq] at hk
    obtain ⟨⟨h1, h2⟩, h3⟩ := hk
    have hb := isB_iff.mp h1
    have hc := inside_t.mp h2
    refine ⟨h1, h2, h3, ?_⟩
    split at h
    · next h4 =>
      rw [if_pos h4]
      refine ⟨okAt_iff.mpr (by show _ ∧ _; omega), ?_, Or.inl rfl⟩
      show c ≤ min x.b (x.h + x.r * (x.t - x.t))
      rw [Int.sub_self, Int.mul_zero]
      omega
    · next h4 =>
      rw [if_neg h4]
      split at h
      · cases h
      · next h5 =>
        rw [if_neg h5]
        split at h
        · cases h
        · next h6 =>
          rw [if_neg h6]
          have hd := div_le h1 h2 (by omega) h5
          have m1 := Int.emod_add_mul_ediv (c - x.h + x.r - 1) x.r
          have m2 := Int.emod_nonneg (c - x.h + x.r - 1) h5
          have m3 := Int.emod_lt_of_pos (c - x.h + x.r - 1) (by omega : 0 < x.r)
          have hq : 0 < (c - x.h + x.r - 1) / x.r := by
            rcases Int.lt_or_le 0 ((c - x.h + x.r - 1) / x.r) with hq | hq
            · exact hq
            · have e : (c - x.h + x.r - 1) / x.r = 0 := by omega
              rw [e, Int.mul_zero] at m1
              omega
          generalize (c - x.h + x.r - 1) / x.r = q at *
          have e1 : x.t + q - x.t = q := by omega
          have e2 : x.t + q - 1 - x.t = q - 1 := by omega
          have e3 : x.r * (q - 1) = x.r * q - x.r := by rw [Int.mul_sub, Int.mul_one]
          refine ⟨okAt_iff.mpr (by show _ ∧ _; omega), ?_, Or.inr ⟨by show x.t < x.t + q; omega, ?_⟩⟩
          · show c ≤ min x.b (x.h + x.r * (x.t + q - x.t))
            rw [e1]
            omega
          · show x.h + x.r * (x.t + q - 1 - x.t) < c
            rw [e2, e3]
            omega
  · cases h
theorem next_use {x : Bucket} {c : Int} (h : (nextA x c).2 = true) : (useTo x (nextA x c).1 c).2.1 = true ∧ (useTo x (nextA x c).1 c).2.2 = true := by
  obtain ⟨h1, h2, h3, h4, h5, _⟩ := next_ok h
  have hk : (okAt x (nextA x c).1 && inside c 1 1000) = true := by rw [h4, h2]; rfl
  have e := bringB_h x (nextA x c).1
  rw [useTo, if_pos hk]
  refine ⟨?_, rfl⟩
  show (useB x (nextA x c).1 c).2 = true
  rw [useB, if_neg (by omega)]
theorem next_early {x : Bucket} {c : Int} (h : (nextA x c).2 = true) (h2 : (useTo x ((nextA x c).1 - 1) c).2.2 = true) : (useTo x ((nextA x c).1 - 1) c).2.1 = false := by
  obtain ⟨g1, g2, g3, g4, g5, g6⟩ := next_ok h
  unfold useTo at h2 ⊢
  split at h2
  · next hk =>
    rw [if_pos hk]
    simp only [Bool.and_eq_true] at hk
    have ho := okAt_iff.mp hk.1
    have e := bringB_h x ((nextA x c).1 - 1)
    show (useB x ((nextA x c).1 - 1) c).2 = false
    rcases g6 with g6 | ⟨g6, g7⟩
    · omega
    · rw [useB, if_pos (by omega)]
  · cases h2
end Go.Proofs.Yteplehpcplbioaa
namespace Go.Proofs.Yteplehpcplbioaa
open Go Go.Rf
theorem half_eq {x : Bucket} {t : Int} (h : okAt x t = true) : (Res.many [.v (encB (bringTo x ((x.t + t) / 2)).1), .v (.bool (bringTo x ((x.t + t) / 2)).2)]) = .many [.v (encB (bringB x ((x.t + t) / 2))), .v (.bool true)] := by rw [bring_at (half_ok h)]
theorem whole_eq {x : Bucket} {t : Int} (h : okAt x t = true) : (Res.many [.v (encB (bringTo (bringB x ((x.t + t) / 2)) t).1), .v (.bool (bringTo (bringB x ((x.t + t) / 2)) t).2)]) = .many [.v (encB (bringTo x t).1), .v (.bool true)] := by rw [half_twice h, bring_at h]
theorem tok_eq {x : Bucket} {t : Int} (h : okAt x t = true) : (Res.many [.v (.int .i64 (tokens x t).1), .v (.bool (tokens x t).2)]) = .many [.v (.int .i64 ((bringTo x t).1.h - x.h)), .v (.bool true)] := by rw [tokens_at h, bring_at h]
theorem use_eq {x : Bucket} {c : Int} (h : (nextA x c).2 = true) : (Res.many [.v (encB (useTo x (nextA x c).1 c).1), .v (.bool (useTo x (nextA x c).1 c).2.1), .v (.bool (useTo x (nextA x c).1 c).2.2)]) = .many [.v (encB (useTo x (nextA x c).1 c).1), .v (.bool true), .v (.bool true)] := by rw [(next_use h).1, (next_use h).2]
theorem bring_bk {x : Bucket} {t : Int} (h : okAt x t = true) : isBucket (bringTo x t).1 = true := by rw [bring_at h]; exact bringB_ok h
end Go.Proofs.Yteplehpcplbioaa
