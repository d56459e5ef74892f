/- What the functions on lists of buckets compute. -/
import Derived.Test.YteplehpcplbioaaM
import Derived.Test.YteplehpcplbioaaRfX
namespace Go.Proofs.Yteplehpcplbioaa
open Go Go.Rf
def scaleB (n d : Int) (x : Bucket) : Bucket := ⟨x.g, x.r * n / d, x.b, x.h, x.t⟩
def scG (xs : List Bucket) (n d : Int) (j : Nat) : Bucket := scaleB n d (xs.getD j default)
def scOK (xs : List Bucket) (n d : Int) : Bool := goodL xs && inside n 0 100 && inside d 1 100 && goodL (pre (scG xs n d) xs.length)
def scT (xs : List Bucket) (n d : Int) : List Bucket := if scOK xs n d then pre (scG xs n d) xs.length else []
theorem scT_len {xs : List Bucket} {n d : Int} : (scT xs n d).length ≤ xs.length := by
  unfold scT; split <;> simp [pre_len]
theorem goodL_one {xs : List Bucket} (h : goodL xs = true) : ∀ i, i < xs.length → isBucket (xs.getD i default) = true := fun i hi => by
  have := allN_iff.mp h i hi
  simp only [oneL, Bool.and_eq_true] at this
  exact this.1
theorem sc_mul {x : Bucket} {n : Int} (h : isBucket x = true) (hn : 0 ≤ n ∧ n ≤ 100) : 0 ≤ x.r * n ∧ x.r * n ≤ 10000 := by
  rw [isB_iff] at h
  have h1 := Int.mul_nonneg h.2.1.1 hn.1
  have h2 := Int.mul_le_mul h.2.1.2 hn.2 hn.1 (by omega)
  omega
def wgN (xs : List Bucket) (t c : Int) : Nat → List Int
  | 0 => []
  | i + 1 => if (useB (xs.getD i default) t c).2 then wgN xs t c i else wgN xs t c i ++ [(xs.getD i default).g]
theorem wgN_len (xs : List Bucket) (t c : Int) : ∀ i, (wgN xs t c i).length ≤ i
  | 0 => by simp [wgN]
  | i + 1 => by
    have := wgN_len xs t c i
    simp only [wgN]
    split
    · omega
    · simp; omega
theorem wgN_t {xs : List Bucket} {t c : Int} {i : Nat} (h : (useB (xs.getD i default) t c).2 = true) : wgN xs t c (i + 1) = wgN xs t c i := by simp only [wgN, h, if_true]
theorem wgN_f {xs : List Bucket} {t c : Int} {i : Nat} (h : (useB (xs.getD i default) t c).2 = false) : wgN xs t c (i + 1) = wgN xs t c i ++ [(xs.getD i default).g] := by simp only [wgN, h, Bool.false_eq_true, if_false]
def wgA (xs : List Bucket) (t : Int) (i : Nat) : Bool := okAt (xs.getD i default) t
def wgOK (xs : List Bucket) (t c : Int) : Bool := goodL xs && inside c 1 1000 && inside t 0 100000 && allN xs.length (wgA xs t)
def wgT (xs : List Bucket) (t c : Int) : List Int := if wgOK xs t c then wgN xs t c xs.length else []
theorem wgT_len {xs : List Bucket} {t c : Int} : (wgT xs t c).length ≤ xs.length := by
  unfold wgT
  split
  · exact wgN_len _ _ _ _
  · simp
theorem wgOK_f {xs : List Bucket} {t c : Int} {i : Nat} (h : okAt (xs.getD i default) t = false) (hi : i < xs.length) : wgOK xs t c = false := by
  have : allN xs.length (wgA xs t) = false := allN_f (i := i) h hi
  simp [wgOK, this]
theorem useTo_ok {x : Bucket} {t c : Int} : (useTo x t c).2.2 = (okAt x t && inside c 1 1000) := by
  unfold useTo
  split
  · rename_i h; simp [h]
  · rename_i h; simpa using h
theorem useTo_al {x : Bucket} {t c : Int} (h : (useTo x t c).2.2 = true) : (useTo x t c).2.1 = (useB x t c).2 := by
  rw [useTo_ok] at h
  unfold useTo
  rw [if_pos h]
def ruB (x : Bucket) (ts : List Int) (c : Int) : Nat → Bucket
  | 0 => x
  | i + 1 => (useB (ruB x ts c i) (ts.getD i default) c).1
def ruO (x : Bucket) (ts : List Int) (c : Int) (i : Nat) : Bool := (useB (ruB x ts c i) (ts.getD i default) c).2
def ruA (x : Bucket) (ts : List Int) (c : Int) (i : Nat) : Bool := okAt (ruB x ts c i) (ts.getD i default)
def ruOK (x : Bucket) (ts : List Int) (c : Int) : Bool := isBucket x && inside c 1 1000 && decide (ts.length ≤ 50) && allN ts.length (ruA x ts c)
def ruT (x : Bucket) (ts : List Int) (c : Int) : List Bool := if ruOK x ts c then pre (ruO x ts c) ts.length else []
def ruE (x : Bucket) (ts : List Int) (c : Int) : Bucket := if ruOK x ts c then ruB x ts c ts.length else zeroB
theorem ruT_len {x : Bucket} {ts : List Int} {c : Int} : (ruT x ts c).length ≤ ts.length := by
  unfold ruT; split <;> simp [pre_len]
theorem useB_ok {x : Bucket} {t c : Int} (h : okAt x t = true) (hc : inside c 1 1000 = true) : isBucket (useB x t c).1 = true := by
  have hg := gain_le h
  rw [okAt_iff] at h
  have hc := inside_t.mp hc
  have he := bringB_h x t
  unfold useB
  split
  · show isBucket (bringB x t) = true
    rw [isB_iff, bringB_g, bringB_r, bringB_b, bringB_t]
    omega
  · rw [isB_iff]
    simp only
    omega
theorem ruOK_f {x : Bucket} {ts : List Int} {c : Int} {i : Nat} (h : okAt (ruB x ts c i) (ts.getD i default) = false) (hi : i < ts.length) : ruOK x ts c = false := by
  have : allN ts.length (ruA x ts c) = false := allN_f (i := i) h hi
  simp [ruOK, this]
def uoK (xs : List Bucket) (g : Int) : Int := idxN (fun i => (xs.getD i default).g == g) xs.length
def uoOK (xs : List Bucket) (g t c : Int) : Bool := goodL xs && decide (0 ≤ uoK xs g) && okAt (xs.getD (uoK xs g).toNat default) t && inside c 1 1000
def uoT (xs : List Bucket) (g t c : Int) : List Bucket := if uoOK xs g t c then xs.set (uoK xs g).toNat (useB (xs.getD (uoK xs g).toNat default) t c).1 else []
def uoM (xs : List Bucket) (g t c : Int) : Bool := uoOK xs g t c && (useB (xs.getD (uoK xs g).toNat default) t c).2
theorem uoT_len {xs : List Bucket} {g t c : Int} : (uoT xs g t c).length ≤ xs.length := by
  unfold uoT; split <;> simp
theorem uoK_lt {xs : List Bucket} {g : Int} : -1 ≤ uoK xs g ∧ uoK xs g < xs.length := by
  unfold uoK idxN
  split
  · rename_i i h
    have := List.mem_range.mp (List.mem_of_find?_eq_some h)
    omega
  · omega
theorem goodL_asc {xs : List Bucket} (h : goodL xs = true) : ∀ i j, j < i → i < xs.length → (xs.getD j default).g < (xs.getD i default).g
  | 0, j, hj, _ => by omega
  | i + 1, j, hj, hi => by
    have h1 := allN_iff.mp h (i + 1) hi
    simp only [oneL, Bool.and_eq_true, Bool.or_eq_true, decide_eq_true_eq] at h1
    have h2 : (xs.getD i default).g < (xs.getD (i + 1) default).g := by
      rcases h1.2 with h3 | h3
      · omega
      · simpa using h3
    rcases Nat.lt_or_ge j i with h4 | h4
    · exact Int.lt_trans (goodL_asc h i j h4 (by omega)) h2
    · have : j = i := by omega
      exact this ▸ h2
theorem uoK_of {xs : List Bucket} {g : Int} {i : Nat} (h : goodL xs = true) (hi : i < xs.length) (hg : (xs.getD i default).g = g) : uoK xs g = i :=
  idx_some (fun j hj => by
    have := goodL_asc h i j hj hi
    simp only [beq_eq_false_iff_ne, ne_eq]
    omega) hi (beq_iff_eq.mpr hg)
theorem uoOK_none {xs : List Bucket} {g t c : Int} (h : ∀ j, j < xs.length → ((xs.getD j default).g == g && okAt (xs.getD j default) t) = false) : uoOK xs g t c = false := by
  cases he : uoOK xs g t c with
  | false => rfl
  | true =>
    simp only [uoOK, Bool.and_eq_true, decide_eq_true_eq] at he
    obtain ⟨⟨⟨h1, h2⟩, h3⟩, h4⟩ := he
    unfold uoK idxN at h2 h3
    split at h2
    · rename_i i hf
      have g1 := List.find?_some hf
      have g2 := List.mem_range.mp (List.mem_of_find?_eq_some hf)
      have := h i g2
      simp only [hf, Int.toNat_natCast] at h3
      rw [h3, Bool.and_true] at this
      rw [g1] at this
      cases this
    · omega
end Go.Proofs.Yteplehpcplbioaa
