/- What the bucket functions compute, in plain Lean. -/
import Derived.Test.YteplehpcplbioaaRfO
namespace Go.Proofs.Yteplehpcplbioaa
open Go Go.Rf
def okAt (x : Bucket) (t : Int) : Bool := isBucket x && inside t x.t 100000
def bringB (x : Bucket) (t : Int) : Bucket := ⟨x.g, x.r, x.b, min x.b (x.h + x.r * (t - x.t)), t⟩
def bringTo (x : Bucket) (t : Int) : Bucket × Bool := if okAt x t then (bringB x t, true) else (zeroB, false)
def tokens (x : Bucket) (t : Int) : Int × Bool := if okAt x t then (min x.b (x.h + x.r * (t - x.t)) - x.h, true) else (0, false)
def useB (x : Bucket) (t c : Int) : Bucket × Bool := if (bringB x t).h < c then (bringB x t, false) else (⟨x.g, x.r, x.b, (bringB x t).h - c, t⟩, true)
def useTo (x : Bucket) (t c : Int) : Bucket × Bool × Bool := if okAt x t && inside c 1 1000 then ((useB x t c).1, (useB x t c).2, true) else (zeroB, false, false)
def nextA (x : Bucket) (c : Int) : Int × Bool :=
  if isBucket x && inside c 1 1000 && decide (c ≤ x.b) then
    if c ≤ x.h then (x.t, true) else if x.r = 0 then (0, false) else
      if x.t + (c - x.h + x.r - 1) / x.r > 100000 then (0, false) else (x.t + (c - x.h + x.r - 1) / x.r, true)
  else (0, false)
theorem isB_iff {x : Bucket} : isBucket x = true ↔ (1 ≤ x.g ∧ x.g ≤ 4) ∧ (0 ≤ x.r ∧ x.r ≤ 100) ∧ (1 ≤ x.b ∧ x.b ≤ 1000) ∧ (0 ≤ x.h ∧ x.h ≤ x.b) ∧ (0 ≤ x.t ∧ x.t ≤ 100000) := by
  simp [isBucket, inside, and_assoc]
theorem okAt_iff {x : Bucket} {t : Int} : okAt x t = true ↔ (1 ≤ x.g ∧ x.g ≤ 4) ∧ (0 ≤ x.r ∧ x.r ≤ 100) ∧ (1 ≤ x.b ∧ x.b ≤ 1000) ∧ (0 ≤ x.h ∧ x.h ≤ x.b) ∧ (0 ≤ x.t ∧ x.t ≤ 100000) ∧ x.t ≤ t ∧ t ≤ 100000 := by
  simp [okAt, isBucket, inside, and_assoc]
theorem gain_le {x : Bucket} {t : Int} (h : okAt x t = true) : 0 ≤ x.r * (t - x.t) ∧ x.r * (t - x.t) ≤ 10000000 := by
  rw [okAt_iff] at h
  have h1 := Int.mul_nonneg h.2.1.1 (by omega : 0 ≤ t - x.t)
  have h2 := Int.mul_le_mul h.2.1.2 (by omega : t - x.t ≤ 100000) (by omega) (by omega)
  omega
theorem div_le {x : Bucket} {c : Int} (hx : isBucket x = true) (hc : inside c 1 1000 = true) (h : x.h ≤ c) (hr : x.r ≠ 0) : 0 ≤ (c - x.h + x.r - 1) / x.r ∧ (c - x.h + x.r - 1) / x.r ≤ 2000 := by
  simp [isBucket, inside] at hx hc
  have h1 : 0 ≤ c - x.h + x.r - 1 := by omega
  have := Int.ediv_le_self x.r h1
  have := Int.ediv_nonneg h1 (by omega : 0 ≤ x.r)
  omega
theorem bringB_h (x : Bucket) (t : Int) : (bringB x t).h = min x.b (x.h + x.r * (t - x.t)) := rfl
theorem bringB_g (x : Bucket) (t : Int) : (bringB x t).g = x.g := rfl
theorem bringB_r (x : Bucket) (t : Int) : (bringB x t).r = x.r := rfl
theorem bringB_b (x : Bucket) (t : Int) : (bringB x t).b = x.b := rfl
theorem bringB_t (x : Bucket) (t : Int) : (bringB x t).t = t := rfl
def oneL (xs : List Bucket) (i : Nat) : Bool := isBucket (xs.getD i default) && (decide (i = 0) || decide ((xs.getD (i - 1) default).g < (xs.getD i default).g))
def goodL (xs : List Bucket) : Bool := allN xs.length (oneL xs)
attribute [irreducible] bringB
end Go.Proofs.Yteplehpcplbioaa
