/- Pieces of a text, cuts of a text, the records at the start of a log. -/
import Derived.Test.YtehijimgenicfaaRf3
import Derived.Lib.IndexMore
set_option linter.unusedVariables false
set_option linter.unusedSimpArgs false
set_option linter.unusedSectionVars false
namespace Go.Rf
open Go Go.RowKit
/-! cuts -/
theorem cut_fst {s : ByteArray} {c : UInt8} : (⟨(Lib.cut s.data.toList (⟨#[c]⟩ : ByteArray).data.toList).1.toArray⟩ : ByteArray) = firstB s c.toNat ∧ (⟨(Lib.cut s.data.toList (⟨#[c]⟩ : ByteArray).data.toList).2.1.toArray⟩ : ByteArray) = afterB s c.toNat ∧ (Lib.cut s.data.toList (⟨#[c]⟩ : ByteArray).data.toList).2.2 = standsB s c.toNat := by
  have h1 : (⟨#[c]⟩ : ByteArray).data.toList = [c] := rfl
  rw [h1, Lib.cut, Lib.index_one]
  have hst := stands_index (s := s) (c := c)
  have hge := Lib.indexByte_ge s.data.toList c
  cases h : standsB s c.toNat
  · rw [h] at hst
    have hn : ¬ 0 ≤ Lib.indexByte s.data.toList c := by simpa using hst
    rw [if_neg hn]
    refine ⟨?_, ?_, rfl⟩
    · apply ba_ext
      rw [firstB, fIdx_none h, ext_list, List.drop_zero, Nat.sub_zero, List.take_of_length_le (by rw [size_list]; exact Nat.le_refl _)]
    · rw [afterB, h]; rfl
  · rw [h] at hst
    have hn : 0 ≤ Lib.indexByte s.data.toList c := by simpa using hst
    obtain ⟨o, ho⟩ : ∃ o : Nat, Lib.indexByte s.data.toList c = o := ⟨(Lib.indexByte s.data.toList c).toNat, by omega⟩
    obtain ⟨g1, g2⟩ := Lib.indexByte_some ho
    have hlt : o < s.data.toList.length := by
      rcases Nat.lt_or_ge o s.data.toList.length with h' | h'
      · exact h'
      · rw [List.getElem?_eq_none h'] at g1; cases g1
    have hi : fIdx s c.toNat = o := by
      refine fIdx_some (fun j hj => ?_) (by rw [← size_list]; exact hlt) ?_
      · have g3 := g2 j hj
        have hjl : j < s.data.toList.length := by omega
        rw [List.getElem?_eq_getElem hjl] at g3
        rw [byteN_list, List.getD_eq_getElem?_getD, List.getElem?_eq_getElem hjl]
        simp only [Option.getD_some, beq_eq_false_iff_ne, ne_eq]
        intro e
        exact g3 (congrArg some (Lib.byte_eq_of_toNat e))
      · rw [byteN_list, List.getD_eq_getElem?_getD, g1]; rfl
    rw [if_pos hn, ho]
    refine ⟨?_, ?_, rfl⟩
    · apply ba_ext
      rw [firstB, hi, ext_list]
      simp
    · apply ba_ext
      rw [afterB, h, if_pos rfl, hi, ext_list, List.take_of_length_le (l := s.data.toList.drop (o + 1)) (i := s.size - (o + 1)) (by rw [List.length_drop, size_list]; exact Nat.le_refl _)]
      simp
/-! pieces -/
def encW (s : ByteArray) : List Value := [.string s]
def spO (s : ByteArray) (b : Int) : Nat → List ByteArray × Nat
  | 0 => ([], 0)
  | i + 1 => if byteN s i == b then ((spO s b i).1 ++ [s.extract (spO s b i).2 i], i + 1) else spO s b i
theorem spO_le {s : ByteArray} {b : Int} {i : Nat} : (spO s b i).2 ≤ i ∧ (spO s b i).1.length ≤ i := by
  induction i with
  | zero => exact ⟨Nat.le_refl _, Nat.le_refl _⟩
  | succ i ih =>
    unfold spO
    split
    · simp; omega
    · omega
theorem spO_t {s : ByteArray} {b : Int} {i : Nat} (h : byteN s i = b) : spO s b (i + 1) = ((spO s b i).1 ++ [s.extract (spO s b i).2 i], i + 1) := by
  show (if byteN s i == b then _ else _) = _
  rw [if_pos (by simpa using h)]
theorem spO_f {s : ByteArray} {b : Int} {i : Nat} (h : ¬ byteN s i = b) : spO s b (i + 1) = spO s b i := by
  show (if byteN s i == b then _ else _) = _
  rw [if_neg (by simpa using h)]
theorem spO_pre {s : ByteArray} {b : Int} {i : Nat} (h : ∀ j, j < i → (byteN s j == b) = false) : spO s b i = ([], 0) := by
  induction i with
  | zero => rfl
  | succ i ih => rw [spO_f (by simpa using h i (Nat.lt_succ_self i)), ih (fun j hj => h j (by omega))]
def splitL (s : ByteArray) (b : Int) : List ByteArray := (spO s b s.size).1 ++ [s.extract (spO s b s.size).2 s.size]
theorem splitL_len {s : ByteArray} {b : Int} : 1 ≤ (splitL s b).length ∧ (splitL s b).length ≤ s.size + 1 := by
  have := spO_le (s := s) (b := b) (i := s.size)
  simp only [splitL, List.length_append, List.length_cons, List.length_nil]
  omega
theorem spO_after {s : ByteArray} {b : Int} (h : standsB s b = true) {i : Nat} (hi : fIdx s b < i) : ∃ t, (spO s b i).1 = firstB s b :: t := by
  obtain ⟨h1, h2, h3⟩ := fIdx_stands h
  induction i with
  | zero => omega
  | succ i ih =>
    by_cases hb : byteN s i = b
    · rw [spO_t hb]
      by_cases he : i = fIdx s b
      · subst he
        rw [spO_pre h3]
        exact ⟨[], rfl⟩
      · obtain ⟨t, ht⟩ := ih (by omega)
        exact ⟨t ++ [s.extract (spO s b i).2 i], by rw [ht]; rfl⟩
    · rw [spO_f hb]
      refine ih ?_
      rcases Nat.lt_or_ge (fIdx s b) i with h' | h'
      · exact h'
      · have : i = fIdx s b := by omega
        rw [this] at hb; exact absurd h2 hb
theorem splitL_first {s : ByteArray} {b : Int} : (splitL s b).getD 0 default = firstB s b ∧ decide ((splitL s b).length < 2) = !standsB s b := by
  cases h : standsB s b
  · have hp : spO s b s.size = ([], 0) := spO_pre (fun j hj => by
      cases hq : (byteN s j == b) with
      | false => rfl
      | true => rw [standsB, anyN_t (f := fun i => byteN s i == b) hq hj] at h; cases h)
    rw [splitL, hp]
    refine ⟨?_, rfl⟩
    rw [firstB, fIdx_none h]
    rfl
  · obtain ⟨t, ht⟩ := spO_after h (fIdx_stands h).1
    rw [splitL, ht]
    refine ⟨rfl, ?_⟩
    simp
/-! the records at the start of a log -/
def okL (s : ByteArray) (k : Int) : Bool := standsB s 10 && decide (k < 60) && rdK (firstB s 10) k
theorem afterB_size {s : ByteArray} {c : Int} : (afterB s c).size ≤ s.size := by
  unfold afterB
  split
  · rw [size_ext (Nat.le_refl _)]; omega
  · exact Nat.zero_le _
theorem firstB_le {s : ByteArray} {c : Int} : (firstB s c).size ≤ s.size := by
  rw [firstB_size]; exact fIdx_le
theorem riE_size {s : ByteArray} : (riE s).c.size ≤ s.size ∧ (riE s).r.size ≤ s.size := by
  have a2 := firstB_le (s := s) (c := 35)
  have a3 := afterB_size (s := firstB s 35) (c := 32)
  have a4 := firstB_le (s := afterB (firstB s 35) 32) (c := 64)
  have a5 := afterB_size (s := afterB (firstB s 35) 32) (c := 64)
  dsimp only [riE]
  exact ⟨by omega, by omega⟩
theorem riE_c {s : ByteArray} : (riE s).c = firstB (afterB (firstB s 35) 32) 64 := by dsimp only [riE]
theorem riE_r {s : ByteArray} : (riE s).r = afterB (afterB (firstB s 35) 32) 64 := by dsimp only [riE]
theorem okL_i {s : ByteArray} {k : Int} (hk : 0 ≤ k) : okL s k = (standsB s 10 && decide (k < 60) && riK (firstB s 10) k) := by
  rw [okL, (ri_rd hk).1]
def rrE (s : ByteArray) (k : Int) : Rec := if okL s k then rdE (firstB s 10) k else zeroR
def rrN (s : ByteArray) (k : Int) : Int := if okL s k then (firstB s 10).size + 1 else 0
theorem okL_f {s : ByteArray} {k : Int} (h : okL s k = false) : rrE s k = zeroR ∧ rrN s k = 0 ∧ okL s k = false := by
  rw [rrE, rrN, h]; exact ⟨rfl, rfl, rfl⟩
theorem okL_t {s : ByteArray} {k : Int} (hk : 0 ≤ k) (h : okL s k = true) : rrE s k = riE (firstB s 10) ∧ rrN s k = (firstB s 10).size + 1 ∧ okL s k = true := by
  have h2 : rdK (firstB s 10) k = true := by
    simp only [okL, Bool.and_eq_true] at h
    exact h.2
  rw [rrE, rrN, h, (ri_rd hk).2 h2]; exact ⟨rfl, rfl, rfl⟩
def posN (s : ByteArray) : Nat → Nat
  | 0 => 0
  | n + 1 => posN s n + (firstB (s.extract (posN s n) s.size) 10).size + 1
def restN (s : ByteArray) (n : Nat) : ByteArray := s.extract (posN s n) s.size
def lineN (s : ByteArray) (n : Nat) : ByteArray := firstB (restN s n) 10
def okN (s : ByteArray) (n : Nat) : Bool := okL (restN s n) n
def recN (s : ByteArray) (n : Nat) : Rec := rdE (lineN s n) n
def posI (s : ByteArray) (n : Nat) : Int := posN s n
theorem posN_succ {s : ByteArray} {n : Nat} : posN s (n + 1) = posN s n + (lineN s n).size + 1 := rfl
theorem okN_60 {s : ByteArray} {n : Nat} (h : okN s n = true) : n < 60 := by
  simp only [okN, okL, Bool.and_eq_true, decide_eq_true_eq] at h
  omega
theorem restN_size {s : ByteArray} {n : Nat} : (restN s n).size = s.size - posN s n := by
  rw [restN, size_ext (Nat.le_refl _)]
theorem okN_stands {s : ByteArray} {n : Nat} (h : okN s n = true) : standsB (restN s n) 10 = true := by
  simp only [okN, okL, Bool.and_eq_true] at h
  exact h.1.1
theorem okN_pos {s : ByteArray} {n : Nat} (h : okN s n = true) : posN s n < s.size ∧ posN s (n + 1) ≤ s.size := by
  have h1 := (fIdx_stands (okN_stands h)).1
  have h2 := restN_size (s := s) (n := n)
  rw [posN_succ, lineN, firstB_size]
  omega
theorem pos_le {s : ByteArray} {n : Nat} (h : ∀ j, j < n → okN s j = true) : n ≤ posN s n ∧ posN s n ≤ s.size ∧ n ≤ 60 := by
  induction n with
  | zero => exact ⟨Nat.le_refl _, Nat.zero_le _, Nat.zero_le _⟩
  | succ n ih =>
    have h1 := ih (fun j hj => h j (by omega))
    have h2 := okN_pos (h n (Nat.lt_succ_self n))
    have h3 := okN_60 (h n (Nat.lt_succ_self n))
    have h4 : posN s (n + 1) = posN s n + (lineN s n).size + 1 := rfl
    omega
def logN (s : ByteArray) : Nat := ((List.range 60).find? (fun n => !okN s n)).getD 60
theorem logN_eq {s : ByteArray} {n : Nat} (h : ∀ j, j < n → okN s j = true) (hn : okN s n = false) : logN s = n := by
  have h60 : n ≤ 60 := (pos_le h).2.2
  rcases Nat.lt_or_ge n 60 with h1 | h1
  · have : (List.range 60).find? (fun n => !okN s n) = some n := by
      rw [List.find?_range_eq_some]
      exact ⟨by simp [hn], List.mem_range.mpr h1, fun j hj => by simp [h j hj]⟩
    rw [logN, this]; rfl
  · have he : n = 60 := by omega
    subst he
    have : (List.range 60).find? (fun n => !okN s n) = none := by
      rw [List.find?_eq_none]
      intro j hj
      simp [h j (List.mem_range.mp hj)]
    rw [logN, this]; rfl
theorem logN_ok {s : ByteArray} : (∀ j, j < logN s → okN s j = true) ∧ okN s (logN s) = false := by
  have key : ∀ n, (∀ j, j < n → okN s j = true) ∨ ∃ m, m < n ∧ (∀ j, j < m → okN s j = true) ∧ okN s m = false := fun n => by
    induction n with
    | zero => exact .inl (fun j hj => by omega)
    | succ n ih =>
      rcases ih with h | ⟨m, h1, h2⟩
      · cases hn : okN s n
        · exact .inr ⟨n, Nat.lt_succ_self n, h, hn⟩
        · exact .inl (fun j hj => by
            rcases Nat.lt_or_ge j n with h' | h'
            · exact h j h'
            · have : j = n := by omega
              rw [this]; exact hn)
      · exact .inr ⟨m, by omega, h2⟩
  rcases key 61 with h | ⟨m, h1, h2, h3⟩
  · exact absurd (okN_60 (h 60 (by omega))) (by omega)
  · rw [logN_eq h2 h3]; exact ⟨h2, h3⟩
theorem okN_f1 {s : ByteArray} {n : Nat} (h : s.size ≤ posN s n) : okN s n = false := by
  cases he : okN s n with
  | false => rfl
  | true => exact absurd (okN_pos he).1 (by omega)
theorem okN_f2 {s : ByteArray} {n : Nat} (h : 60 ≤ n) : okN s n = false := by
  cases he : okN s n with
  | false => rfl
  | true => exact absurd (okN_60 he) (by omega)
theorem okN_f3 {s : ByteArray} {n : Nat} (h : (splitL (restN s n) 10).length < 2) : okN s n = false := by
  have h2 := (splitL_first (s := restN s n) (b := 10)).2
  rw [decide_eq_true h] at h2
  cases h3 : standsB (restN s n) 10
  · rw [okN, okL, h3]; rfl
  · rw [h3] at h2; cases h2
theorem okN_f4 {s : ByteArray} {n : Nat} (h : rdK (lineN s n) n = false) : okN s n = false := by
  rw [lineN] at h
  rw [okN, okL, h, Bool.and_false]
theorem okN_t {s : ByteArray} {n : Nat} (h : n < 60) (h2 : ¬ (splitL (restN s n) 10).length < 2) (h3 : rdK (lineN s n) n = true) : okN s n = true := by
  have h4 := (splitL_first (s := restN s n) (b := 10)).2
  rw [decide_eq_false h2] at h4
  rw [lineN] at h3
  have h5 : standsB (restN s n) 10 = true := by simpa using h4
  rw [okN, okL, h3, h5, decide_eq_true (by omega)]; rfl
theorem ext_le {s : ByteArray} {a b : Nat} : (s.extract a b).size ≤ s.size := by
  rw [ByteArray.size_extract]; omega
theorem restN_eq {s : ByteArray} {n : Nat} : s.extract (posI s n).toNat ((s.size : Int)).toNat = restN s n := by
  simp [restN, posI]
theorem posI_succ {s : ByteArray} {n : Nat} : posI s n + ((lineN s n).size : Int) + 1 = posI s (n + 1) := by
  simp [posI, posN_succ]
theorem posI_succ2 {s : ByteArray} {n : Nat} : posI s n + (((lineN s n).size : Int) + 1) = posI s (n + 1) := by
  simp [posI, posN_succ]
  omega
theorem okN_rr {s : ByteArray} {n : Nat} (h : okN s n = true) : rrE (restN s n) n = recN s n ∧ rrN (restN s n) n = (lineN s n).size + 1 := by
  rw [okN] at h
  rw [rrE, rrN, h]
  exact ⟨rfl, rfl⟩
theorem rdK_len {s : ByteArray} {k : Int} (h0 : 0 ≤ k) (h1 : k ≤ 60) (h : rdK s k = true) : s.size ≤ 422 := by
  obtain ⟨h2, h3⟩ := rdK_ok h
  have hb := body_size h0 (by omega) h2
  have hs := seal_size (s := bodyT k (rdE s k))
  have he := congrArg ByteArray.size h3
  rw [lineT, ByteArray.size_append, ByteArray.size_append] at he
  have e1 : (⟨#[10]⟩ : ByteArray).size = 1 := rfl
  omega
/-! a log whose synced part ends at the end of a record -/
theorem ext_app_rest {D P : ByteArray} {p : Nat} (h : p ≤ D.size) : (D ++ P).extract p (D ++ P).size = D.extract p D.size ++ P := by
  apply ba_ext
  rw [ext_list, app_list, app_list, ext_list, List.drop_append_of_le_length (by rw [size_list]; exact h), List.take_of_length_le, List.take_of_length_le]
  · rw [List.length_drop, size_list]; exact Nat.le_refl _
  · rw [List.length_append, List.length_drop, size_list, size_list, ByteArray.size_append]; omega
theorem ext_app_left {a z : ByteArray} {i : Nat} (h : i ≤ a.size) : (a ++ z).extract 0 i = a.extract 0 i := by
  apply ba_ext
  rw [ext_list, ext_list, app_list, List.drop_zero, List.drop_zero, Nat.sub_zero, List.take_append_of_le_length (by rw [size_list]; exact h)]
theorem first_app {a z : ByteArray} {b : Int} (h : standsB a b = true) : fIdx (a ++ z) b = fIdx a b ∧ standsB (a ++ z) b = true ∧ firstB (a ++ z) b = firstB a b := by
  obtain ⟨h1, h2, h3⟩ := fIdx_stands h
  have hs : fIdx a b < (a ++ z).size := by rw [ByteArray.size_append]; omega
  have hb : byteN (a ++ z) (fIdx a b) = b := by rw [byteN_app_l h1]; exact h2
  have hi : fIdx (a ++ z) b = fIdx a b := fIdx_some (fun j hj => by rw [byteN_app_l (by omega)]; exact h3 j hj) hs hb
  refine ⟨hi, anyN_t (i := fIdx a b) (by simpa using hb) hs, ?_⟩
  rw [firstB, firstB, hi, ext_app_left (Nat.le_of_lt h1)]
theorem first_back {a z : ByteArray} {b : Int} (h : standsB (a ++ z) b = true) (hi : fIdx (a ++ z) b < a.size) : standsB a b = true := by
  have h2 := (fIdx_stands h).2.1
  rw [byteN_app_l hi] at h2
  exact anyN_t (i := fIdx (a ++ z) b) (by simpa using h2) hi
theorem okN_app {D P : ByteArray} {n : Nat} (hp : posN (D ++ P) n = posN D n) (hs : standsB (restN D n) 10 = true) (hl : posN D n ≤ D.size) : okN (D ++ P) n = okN D n ∧ lineN (D ++ P) n = lineN D n := by
  have hr : restN (D ++ P) n = restN D n ++ P := by rw [restN, hp, ext_app_rest hl]; rfl
  obtain ⟨h1, h2, h3⟩ := first_app (z := P) hs
  refine ⟨?_, ?_⟩
  · rw [okN, okN, okL, okL, hr, h2, h3, hs]
  · rw [lineN, lineN, hr, h3]
theorem log_up {D P : ByteArray} {n : Nat} (h : ∀ j, j < n → okN D j = true) : (∀ j, j < n → okN (D ++ P) j = true) ∧ posN (D ++ P) n = posN D n := by
  induction n with
  | zero => exact ⟨fun j hj => by omega, rfl⟩
  | succ n ih =>
    obtain ⟨h1, h2⟩ := ih (fun j hj => h j (by omega))
    have h3 := h n (Nat.lt_succ_self n)
    obtain ⟨h4, h5⟩ := okN_app h2 (okN_stands h3) (Nat.le_of_lt (okN_pos h3).1)
    refine ⟨upto_succ h1 (by rw [h4]; exact h3), ?_⟩
    rw [posN_succ, posN_succ, h2, h5]
theorem posN_mono {s : ByteArray} {m n : Nat} (h : m ≤ n) : posN s m ≤ posN s n := by
  induction n with
  | zero => have : m = 0 := by omega
            subst this; exact Nat.le_refl _
  | succ n ih =>
    rcases Nat.lt_or_ge m (n + 1) with h1 | h1
    · have := ih (by omega)
      have h2 : posN s (n + 1) = posN s n + (lineN s n).size + 1 := rfl
      omega
    · have : m = n + 1 := by omega
      subst this; exact Nat.le_refl _
theorem log_down {D P : ByteArray} {n : Nat} (h : ∀ j, j < n → okN (D ++ P) j = true) (hp : posN (D ++ P) n ≤ D.size) : (∀ j, j < n → okN D j = true) ∧ posN (D ++ P) n = posN D n := by
  induction n with
  | zero => exact ⟨fun j hj => by omega, rfl⟩
  | succ n ih =>
    have e : posN (D ++ P) (n + 1) = posN (D ++ P) n + (lineN (D ++ P) n).size + 1 := rfl
    obtain ⟨h1, h2⟩ := ih (fun j hj => h j (by omega)) (by omega)
    have h3 := h n (Nat.lt_succ_self n)
    have hr : restN (D ++ P) n = restN D n ++ P := by rw [restN, ext_app_rest (by omega), h2]; rfl
    have h4 := okN_stands h3
    have h5 : (lineN (D ++ P) n).size = fIdx (restN (D ++ P) n) 10 := firstB_size
    have h6 := restN_size (s := D) (n := n)
    rw [hr] at h4 h5
    have h7 := first_back h4 (by omega)
    obtain ⟨h8, h9⟩ := okN_app h2 h7 (by omega)
    refine ⟨upto_succ h1 (by rw [← h8]; exact h3), ?_⟩
    rw [e, posN_succ, h2, h9]
theorem posN_big {s : ByteArray} {n : Nat} (h : ∀ j, j < n → okN s j = true) : posN s n ≤ 423 * n := by
  induction n with
  | zero => exact Nat.le_refl _
  | succ n ih =>
    have h1 := ih (fun j hj => h j (by omega))
    have h2 := h n (Nat.lt_succ_self n)
    have h3 := okN_60 h2
    simp only [okN, okL, Bool.and_eq_true] at h2
    have h4 := rdK_len (k := (n : Int)) (by omega) (by omega) h2.2
    have e : posN s (n + 1) = posN s n + (lineN s n).size + 1 := rfl
    have e2 : lineN s n = firstB (restN s n) 10 := rfl
    rw [e2] at e
    omega
structure Lg where
  d : ByteArray
  p : ByteArray
  n : Int
instance : Inhabited Lg := ⟨⟨⟨#[]⟩, ⟨#[]⟩, 0⟩⟩
def encLc (x : Lg) : List Value := [.string x.d, .string x.p, .int .i64 x.n]
def encL (x : Lg) : Value := .agg ⟨encLc x⟩
def okLg (x : Lg) : Bool := decide (x.d.size + x.p.size ≤ 30000) && decide (posN (x.d ++ x.p) (logN (x.d ++ x.p)) = x.d.size + x.p.size) && decide (posN x.d (logN x.d) = x.d.size) && decide ((logN (x.d ++ x.p) : Int) = x.n)
end Go.Rf
