/- What the functions on lists of buckets compute. -/
import Derived.Test.YteplehpcplbioaaM
import Derived.Test.YteplehpcplbioaaRfX
namespace Go.Proofs.Yteplehpcplbioaa
open Go Go.Rf
def scaleB (n d : Int) (x : Bucket) : Bucket := ⟨x.g, x.r * n / d, x.b, x.h, x.t⟩
def scG (xs : List Bucket) (n d : Int) (j : Nat) : Bucket := scaleB n d (xs.getD j default)
def scOK (xs : List Bucket) (n d : Int) : Bool := goodL xs && inside n 0 100 && inside d 1 100 && goodL (pre (scG xs n d) xs.length)
def scT (xs : List Bucket) (n d : Int) : List Bucket := if scOK xs n d then pre (scG xs n d) xs.length else []
theorem scT_len {xs : List Bucket} {n d : Int} : (scT xs n d).length ≤ xs.length := by
  unfold scT; split <;> simp [pre_len]
theorem goodL_one {xs : List Bucket} (h : goodL xs = true) : ∀ i, i < xs.length → isBucket (xs.getD i default) = true := fun i hi => by
  have := allN_iff.mp h i hi
  simp only [oneL, Bool.and_eq_true] at this
  exact this.1
theorem sc_mul {x : Bucket} {n : Int} (h : isBucket x = true) (hn : 0 ≤ n ∧ n ≤ 100) : 0 ≤ x.r * n ∧ x.r * n ≤ 10000 := by
  rw [isB_iff] at h
  have h1 := Int.mul_nonneg h.2.1.1 hn.1
  have h2 := Int.mul_le_mul h.2.1.2 hn.2 hn.1 (by omega)
  omega
def wgN (xs : List Bucket) (t c : Int) : Nat → List Int
  | 0 => []
  | i + 1 => if (useB (xs.getD i default) t c).2 then wgN xs t c i else wgN xs t c i ++ [(xs.getD i default).g]
theorem wgN_len (xs : List Bucket) (t c : Int) : ∀ i, (wgN xs t c i).length ≤ i
  | 0 => by simp [wgN]
  | i + 1 => by
    have := wgN_len xs t c i
    simp only [wgN]
    split
    · omega
    · simp; omega
theorem wgN_t {xs : List Bucket} {t c : Int} {i : Nat} (h : (useB (xs.getD i default) t c).2 = true) : wgN xs t c (i + 1) = wgN xs t c i := by simp only [wgN, h, if_true]
theorem wgN_f {xs : List Bucket} {t c : Int} {i : Nat} (h : (useB (xs.getD i default) t c).2 = false) : wgN xs t c (i + 1) = wgN xs t c i ++ [(xs.getD i default).g] := by simp only [wgN, h, Bool.false_eq_true, if_false]
def wgA (xs : List Bucket) (t : Int) (i : Nat) : Bool := okAt (xs.getD i default) t
def wgOK (xs : List Bucket) (t c : Int) : Bool := goodL xs && inside c 1 1000 && inside t 0 100000 && allN xs.length (wgA xs t)
def wgT (xs : List Bucket) (t c : Int) : List Int := if wgOK xs t c then wgN xs t c xs.length else []
theorem wgT_len {xs : List Bucket} {t c : Int} : (wgT xs t c).length ≤ xs.length := by
  unfold wgT
  split
  · exact wgN_len _ _ _ _
  · simp
theorem wgOK_f {xs : List Bucket} {t c : Int} {i : Nat} (h : okAt (xs.getD i default) t = false) (hi : i < xs.length) : wgOK xs t c = false := by
  have : allN xs.length (wgA xs t) = false := allN_f (i := i) h hi
  simp [wgOK, this]
theorem useTo_ok {x : Bucket} {t c : Int} : (useTo x t c).2.2 = (okAt x t && inside c 1 1000) := by
  unfold useTo
  split
  · rename_i h; simp [h]
  · rename_i h; simpa using h
theorem useTo_al {x : Bucket} {t c : Int} (h : (useTo x t c).2.2 = true) : (useTo x t c).2.1 = (useB x t c).2 := by
  rw [useTo_ok] at h
  unfold useTo
  rw [if_pos h]
end Go.Proofs.Yteplehpcplbioaa
