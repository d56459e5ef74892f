/- What stands in a valid log; what the log's functions give. -/
import Derived.Test.YthpllgbaeokeiaaDoorRf4
import Derived.Test.YthpllgbaeokeiaaDoorRfY
set_option linter.unusedVariables false
set_option linter.unusedSimpArgs false
set_option linter.unusedSectionVars false
namespace Go.Rf
open Go Go.RowKit
theorem logN_le {s : ByteArray} : logN s ≤ 60 ∧ posN s (logN s) ≤ s.size ∧ posN s (logN s) ≤ 25380 := by
  have h := pos_le (logN_ok (s := s)).1
  have h2 := posN_big (logN_ok (s := s)).1
  omega
theorem ends_at {s : ByteArray} : (pre (posI s) (logN s + 1)).getD (((pre (recN s) (logN s)).length : Int)).toNat default = posI s (logN s) := by
  rw [pre_len]
  exact pre_getD (Nat.lt_succ_self _)
theorem recs_len {s : ByteArray} : ((pre (recN s) (logN s)).length : Int) = logN s := by rw [pre_len]
/-! RecoverLog -/
def zeroL : Lg := ⟨⟨#[]⟩, ⟨#[]⟩, 0⟩
def rcOK (s : ByteArray) : Bool := decide (s.size ≤ 30000)
def rcE (s : ByteArray) : Lg := if rcOK s then ⟨s.extract 0 (posI s (logN s)).toNat, ⟨#[]⟩, logN s⟩ else zeroL
def rcN (s : ByteArray) : Int := if rcOK s then posI s (logN s) else 0
theorem rc_f {s : ByteArray} (h : 30000 < s.size) : rcE s = zeroL ∧ rcN s = 0 ∧ rcOK s = false := by
  have e : rcOK s = false := decide_eq_false (by omega)
  rw [rcE, rcN, e]; exact ⟨rfl, rfl, rfl⟩
theorem rc_t {s : ByteArray} (h : s.size ≤ 30000) : rcE s = ⟨s.extract 0 (posI s (logN s)).toNat, ⟨#[]⟩, logN s⟩ ∧ rcN s = posI s (logN s) ∧ rcOK s = true := by
  have e : rcOK s = true := decide_eq_true h
  rw [rcE, rcN, e]; exact ⟨rfl, rfl, rfl⟩
/-! equality, sizes -/
def eqL (x y : Lg) : Bool := x.d.toList == y.d.toList && x.p.toList == y.p.toList && x.n == y.n
def szL (x : Lg) (l : Int) : Int := if l - x.d.size < 0 then -1 else if l - x.d.size - x.p.size < 0 then -1 else l - x.d.size - x.p.size
theorem eqL_self {x : Lg} : eqL x x = true := by simp [eqL]
/-! valid logs -/
theorem okLg_f1 {x : Lg} (h : 30000 < x.d.size + x.p.size) : okLg x = false := by
  rw [okLg, decide_eq_false (by omega)]; rfl
theorem okLg_f2 {x : Lg} (h : ¬ posN (x.d ++ x.p) (logN (x.d ++ x.p)) = x.d.size + x.p.size) : okLg x = false := by
  rw [okLg, decide_eq_false h, Bool.and_false]; rfl
theorem okLg_f3 {x : Lg} (h : ¬ posN x.d (logN x.d) = x.d.size) : okLg x = false := by
  rw [okLg, decide_eq_false h, Bool.and_false]; rfl
theorem okLg_f4 {x : Lg} (h : ¬ (logN (x.d ++ x.p) : Int) = x.n) : okLg x = false := by
  rw [okLg, decide_eq_false h, Bool.and_false]
theorem okLg_t {x : Lg} (h0 : x.d.size + x.p.size ≤ 30000) (h1 : posN (x.d ++ x.p) (logN (x.d ++ x.p)) = x.d.size + x.p.size) (h2 : posN x.d (logN x.d) = x.d.size) (h3 : (logN (x.d ++ x.p) : Int) = x.n) : okLg x = true := by
  rw [okLg, decide_eq_true h0, decide_eq_true h1, decide_eq_true h2, decide_eq_true h3]; rfl
theorem okLg_v {x : Lg} (h0 : x.d.size + x.p.size ≤ 30000) (h1 : posN (x.d ++ x.p) (logN (x.d ++ x.p)) = x.d.size + x.p.size) (h2 : posN x.d (logN x.d) = x.d.size) : okLg x = decide ((logN (x.d ++ x.p) : Int) = x.n) := by
  rw [okLg, decide_eq_true h0, decide_eq_true h1, decide_eq_true h2]; rfl
theorem okLg_ok {x : Lg} (h : okLg x = true) : x.d.size + x.p.size ≤ 30000 ∧ posN x.d (logN x.d) = x.d.size ∧ 0 ≤ x.n ∧ x.n ≤ 60 := by
  simp only [okLg, Bool.and_eq_true, decide_eq_true_eq] at h
  have := logN_le (s := x.d ++ x.p)
  omega
theorem okLg_some {x : Lg} {j : Nat} (h1 : posN (x.d ++ x.p) (logN (x.d ++ x.p)) = x.d.size + x.p.size) (h2 : (logN (x.d ++ x.p) : Int) = x.n) (hj : j ≤ logN (x.d ++ x.p)) (hp : posN (x.d ++ x.p) j = x.d.size) : okLg x = true := by
  have hl := logN_le (s := x.d ++ x.p)
  obtain ⟨h3, h4⟩ := log_down (D := x.d) (P := x.p) (n := j) (fun i hi => logN_ok.1 i (by omega)) (by omega)
  have h5 : logN x.d = j := logN_eq h3 (okN_f1 (by omega))
  exact okLg_t (by omega) h1 (by rw [h5]; omega) h2
theorem okLg_none {x : Lg} (h : ∀ j, j < logN (x.d ++ x.p) + 1 → ¬ posN (x.d ++ x.p) j = x.d.size) : okLg x = false := by
  cases he : okLg x with
  | false => rfl
  | true =>
    exfalso
    have h2 := (okLg_ok he).2.1
    obtain ⟨h3, h4⟩ := log_up (D := x.d) (P := x.p) (n := logN x.d) logN_ok.1
    refine h (logN x.d) ?_ (by omega)
    rcases Nat.lt_or_ge (logN x.d) (logN (x.d ++ x.p) + 1) with h5 | h5
    · exact h5
    · have h6 := h3 (logN (x.d ++ x.p)) (by omega)
      rw [logN_ok.2] at h6
      cases h6
/-! SyncLog, AppendRecord -/
def syE (x : Lg) : Lg := if okLg x then ⟨x.d ++ x.p, ⟨#[]⟩, x.n⟩ else zeroL
theorem sy_f {x : Lg} (h : okLg x = false) : syE x = zeroL ∧ okLg x = false := by rw [syE, h]; exact ⟨rfl, rfl⟩
theorem sy_t {x : Lg} (h : okLg x = true) : syE x = ⟨x.d ++ x.p, ⟨#[]⟩, x.n⟩ ∧ okLg x = true := by rw [syE, h]; exact ⟨rfl, rfl⟩
def apG (x : Lg) (r : Rec) : Bool := okLg x && recOK r
def apE (x : Lg) (r : Rec) : Lg := if apG x r && decide (x.n ≠ 60) then ⟨x.d, x.p ++ lineT x.n r, x.n + 1⟩ else x
def apN (x : Lg) (r : Rec) : Int := if apG x r then (if x.n = 60 then 2 else 0) else 1
theorem ap_f {x : Lg} {r : Rec} (h : apG x r = false) : apE x r = x ∧ apN x r = 1 := by rw [apE, apN, h]; exact ⟨rfl, rfl⟩
theorem ap_f1 {x : Lg} {r : Rec} (h : okLg x = false) : apG x r = false := by rw [apG, h]; rfl
theorem ap_f2 {x : Lg} {r : Rec} (h : recOK r = false) : apG x r = false := by rw [apG, h, Bool.and_false]
theorem ap_n {x : Lg} {r : Rec} (h : okLg x = true) (h2 : recOK r = true) (h3 : x.n = 60) : apE x r = x ∧ apN x r = 2 := by
  rw [apE, apN, apG, h, h2, if_pos h3]
  simp [h3]
theorem ap_t {x : Lg} {r : Rec} (h : okLg x = true) (h2 : recOK r = true) (h3 : ¬ x.n = 60) : apE x r = ⟨x.d, x.p ++ lineT x.n r, x.n + 1⟩ ∧ apN x r = 0 := by
  rw [apE, apN, apG, h, h2, if_neg h3]
  simp [h3]
end Go.Rf
