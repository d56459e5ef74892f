/- What the functions on lists of buckets compute. -/
import Derived.Test.YteplehpcplbioaaM
import Derived.Test.YteplehpcplbioaaRfX
namespace Go.Proofs.Yteplehpcplbioaa
open Go Go.Rf
def scaleB (n d : Int) (x : Bucket) : Bucket := ⟨x.g, x.r * n / d, x.b, x.h, x.t⟩
def scG (xs : List Bucket) (n d : Int) (j : Nat) : Bucket := scaleB n d (xs.getD j default)
def scOK (xs : List Bucket) (n d : Int) : Bool := goodL xs && inside n 0 100 && inside d 1 100 && goodL (pre (scG xs n d) xs.length)
def scT (xs : List Bucket) (n d : Int) : List Bucket := if scOK xs n d then pre (scG xs n d) xs.length else []
theorem scT_len {xs : List Bucket} {n d : Int} : (scT xs n d).length ≤ xs.length := by
  unfold scT; split <;> simp [pre_len]
theorem goodL_one {xs : List Bucket} (h : goodL xs = true) : ∀ i, i < xs.length → isBucket (xs.getD i default) = true := fun i hi => by
  have := allN_iff.mp h i hi
  simp only [oneL, Bool.and_eq_true] at this
  exact this.1
theorem sc_mul {x : Bucket} {n : Int} (h : isBucket x = true) (hn : 0 ≤ n ∧ n ≤ 100) : 0 ≤ x.r * n ∧ x.r * n ≤ 10000 := by
  rw [isB_iff] at h
  have h1 := Int.mul_nonneg h.2.1.1 hn.1
  have h2 := Int.mul_le_mul h.2.1.2 hn.2 hn.1 (by omega)
  omega
end Go.Proofs.Yteplehpcplbioaa
