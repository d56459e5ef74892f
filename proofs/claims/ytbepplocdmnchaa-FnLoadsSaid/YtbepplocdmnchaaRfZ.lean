/- A shift; classes of delays. -/
import Derived.Test.YtbepplocdmnchaaRfY
set_option linter.unusedVariables false
set_option linter.unusedSimpArgs false
set_option linter.unusedSectionVars false
namespace Go.Rf
open Go
def pw : Nat → Int
  | 0 => 1
  | n + 1 => 2 * pw n
theorem pw_eq : ∀ n : Nat, (1 : Int) * 2 ^ n = pw n
  | 0 => rfl
  | n + 1 => by rw [pw, ← pw_eq n, Int.pow_succ]; omega
theorem pw_pos : ∀ n, 0 < pw n
  | 0 => by simp [pw]
  | n + 1 => by have := pw_pos n; simp only [pw]; omega
theorem pw_le {n : Nat} (h : n ≤ 7) : 1 ≤ pw n ∧ pw n ≤ 128 := by
  rcases n with _ | _ | _ | _ | _ | _ | _ | _ | n <;> first | (simp [pw]; done) | omega
section
variable {P : Program} [Env P] {T : List (Nat × AV)} {m : List (Nat × Option Row)} {nx nt : Nat} {o : Oper}
theorem q_shl1 {x y : Operand} {t t' : TypeId} {n : Nat} (ho : o.op = .binOp .shl t x y t') (hx : ev T x = some (.v (.int .i64 1))) (hy : ev T y = some (.v (.int .i64 (n : Int)))) (h1 : n ≤ 7) :
    QStep P o T m nx nt (.v (.int .i64 (pw n))) :=
  QStep.val fun w0 ρ ac hT w' => by
    have g1 := hT.ev hx
    have g2 := hT.ev hy
    simp only [RelV] at g1 g2
    have hp := pw_le h1
    have hw : IntKind.i64.wrap ((1 : Int) * 2 ^ ((n : Int)).toNat) = pw n := by
      have e : ((n : Int)).toNat = n := rfl
      rw [e, pw_eq]
      exact wrap_in (by omega) (by omega)
    have hs := shift_shl_i64 (x := 1) (yk := .i64) (y := (n : Int)) (by omega) (by omega)
    rw [hw] at hs
    have hw2 : IntKind.i64.wrap ((2 : Int) ^ n) = pw n := by rw [← hw, Int.one_mul]; rfl
    simp [execOp, ho, g1, g2, eqGuard, binOp_shl, hw2]
end
def cls (d : Int) : Nat := if d < 1 then 0 else if d < 2 then 1 else if d < 4 then 2 else if d < 8 then 3 else if d < 16 then 4 else if d < 32 then 5 else if d < 64 then 6 else 7
theorem cls_le {d : Int} : cls d ≤ 7 := by unfold cls; (repeat' split) <;> omega
theorem cls_of {d : Int} {n : Nat} (hn : n ≤ 7) (h : ∀ j, j < n → pw j ≤ d) (he : n = 7 ∨ d < pw n) : cls d = n := by
  have h0 := fun hj => h 0 hj
  have h1 := fun hj => h 1 hj
  have h2 := fun hj => h 2 hj
  have h3 := fun hj => h 3 hj
  have h4 := fun hj => h 4 hj
  have h5 := fun hj => h 5 hj
  have h6 := fun hj => h 6 hj
  clear h
  rcases n with _ | _ | _ | _ | _ | _ | _ | _ | n <;> first | omega | (simp [pw] at *; unfold cls; repeat' split) <;> omega
theorem div_pw {d : Int} {n : Nat} : d / pw n / 2 = d / pw (n + 1) := by
  have := pw_pos n
  rw [Int.ediv_ediv_of_nonneg (by omega), pw, Int.mul_comm]
theorem div_pos {d : Int} {n : Nat} : 0 < d / pw n ↔ pw n ≤ d := by
  have := pw_pos n
  constructor
  · intro h
    have := Int.ediv_mul_le d (by omega : pw n ≠ 0)
    have h3 : 1 * pw n ≤ d / pw n * pw n := Int.mul_le_mul_of_nonneg_right (by omega) (by omega)
    omega
  · intro h
    have : 1 ≤ d / pw n := (Int.le_ediv_iff_mul_le this).mpr (by omega)
    omega
def dcG (xs : List Sample) (i k : Nat) : Int := cntN (fun j => decide (cls ((xs.getD j default).g - (xs.getD j default).a) = k)) i
theorem dcG_le {xs : List Sample} {i k : Nat} : 0 ≤ dcG xs i k ∧ dcG xs i k ≤ i := cntN_le _ _
theorem dcG_set {xs : List Sample} {i k : Nat} (h : cls ((xs.getD i default).g - (xs.getD i default).a) = k) :
    ((pre (dcG xs i) 8).map encI).set ((k : Int)).toNat (encI (dcG xs i ((k : Int)).toNat + 1)) = (pre (dcG xs (i + 1)) 8).map encI := by
  have hk : k ≤ 7 := h ▸ cls_le
  have e0 : ((k : Int)).toNat = k := rfl
  have e : dcG xs i k + 1 = dcG xs (i + 1) k := (cntN_t (by simpa using h)).symm
  rw [e0, e]
  exact pre_set (by omega) fun j hj hne => cntN_f (by simp only [decide_eq_false_iff_not]; omega)
def dcT (xs : List Sample) : List Int := if goodS xs then pre (dcG xs xs.length) 8 else []
theorem dcT_len {xs : List Sample} : (dcT xs).length ≤ 8 := by unfold dcT; split <;> simp [pre_len]
end Go.Rf
