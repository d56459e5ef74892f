/- Lines of a log: what both readers accept. -/
import Derived.Test.YtehijimgenicfaaRf2
import Derived.Lib.IndexBytes
set_option linter.unusedVariables false
set_option linter.unusedSimpArgs false
set_option linter.unusedSectionVars false
namespace Go.Rf
open Go Go.RowKit
theorem ba_ext {a b : ByteArray} (h : a.data.toList = b.data.toList) : a = b := ByteArray.ext (Array.ext' h)
theorem ext_list (s : ByteArray) (a b : Nat) : (s.extract a b).data.toList = (s.data.toList.drop a).take (b - a) := by
  rw [ByteArray.data_extract, Array.toList_extract]
theorem app_list (a b : ByteArray) : (a ++ b).data.toList = a.data.toList ++ b.data.toList := by rw [ByteArray.data_append, Array.toList_append]
theorem byteN_list (s : ByteArray) (i : Nat) : byteN s i = ((s.data.toList.getD i 0).toNat : Int) := rfl
theorem byteN_app_l {a b : ByteArray} {i : Nat} (h : i < a.size) : byteN (a ++ b) i = byteN a i := by
  rw [byteN_list, byteN_list, app_list, List.getD_eq_getElem?_getD, List.getD_eq_getElem?_getD, List.getElem?_append_left (by rw [size_list]; exact h)]
theorem byteN_app_r {a b : ByteArray} {i : Nat} : byteN (a ++ b) (a.size + i) = byteN b i := by
  rw [byteN_list, byteN_list, app_list, List.getD_eq_getElem?_getD, List.getD_eq_getElem?_getD, List.getElem?_append_right (by rw [size_list]; omega), size_list]
  congr 4
  omega
theorem byteN_ext {s : ByteArray} {a b i : Nat} (h : i < b - a) : byteN (s.extract a b) i = byteN s (a + i) := by
  rw [byteN_list, byteN_list, ext_list, List.getD_eq_getElem?_getD, List.getD_eq_getElem?_getD, List.getElem?_take, if_pos h, List.getElem?_drop]
theorem size_ext {s : ByteArray} {a b : Nat} (h : b ≤ s.size) : (s.extract a b).size = b - a := by
  rw [ByteArray.size_extract]; omega
/-- the first place of a byte, or the length -/
def fIdx (s : ByteArray) (c : Int) : Nat := ((List.range s.size).find? (fun i => byteN s i == c)).getD s.size
theorem fIdx_some {s : ByteArray} {c : Int} {i : Nat} (h : ∀ j, j < i → (byteN s j == c) = false) (hi : i < s.size) (ht : byteN s i = c) : fIdx s c = i := by
  have : (List.range s.size).find? (fun i => byteN s i == c) = some i := by
    rw [List.find?_range_eq_some]
    exact ⟨by simpa using ht, List.mem_range.mpr hi, fun j hj => by simp [h j hj]⟩
  rw [fIdx, this]; rfl
theorem fIdx_none {s : ByteArray} {c : Int} (h : standsB s c = false) : fIdx s c = s.size := by
  have : (List.range s.size).find? (fun i => byteN s i == c) = none := by
    rw [List.find?_eq_none]
    intro j hj hb
    rw [standsB, anyN_t (f := fun i => byteN s i == c) hb (List.mem_range.mp hj)] at h
    cases h
  rw [fIdx, this]; rfl
theorem fIdx_stands {s : ByteArray} {c : Int} (h : standsB s c = true) : fIdx s c < s.size ∧ byteN s (fIdx s c) = c ∧ ∀ j, j < fIdx s c → (byteN s j == c) = false := by
  cases hf : (List.range s.size).find? (fun i => byteN s i == c) with
  | none =>
    rw [List.find?_eq_none] at hf
    have : standsB s c = false := anyN_f (i := s.size) (fun j hj => by simpa using hf j (List.mem_range.mpr hj)) (Nat.le_refl _)
    rw [this] at h; cases h
  | some i =>
    have e : fIdx s c = i := by rw [fIdx, hf]; rfl
    rw [List.find?_range_eq_some] at hf
    rw [e]
    exact ⟨List.mem_range.mp hf.2.1, by simpa using hf.1, fun j hj => by simpa using hf.2.2 j hj⟩
theorem fIdx_le {s : ByteArray} {c : Int} : fIdx s c ≤ s.size := by
  cases h : standsB s c
  · rw [fIdx_none h]; exact Nat.le_refl _
  · exact Nat.le_of_lt (fIdx_stands h).1
def firstB (s : ByteArray) (c : Int) : ByteArray := s.extract 0 (fIdx s c)
def afterB (s : ByteArray) (c : Int) : ByteArray := if standsB s c then s.extract (fIdx s c + 1) s.size else ⟨#[]⟩
theorem firstB_size {s : ByteArray} {c : Int} : (firstB s c).size = fIdx s c := by
  rw [firstB, size_ext fIdx_le]; rfl
theorem app_fIdx {a z : ByteArray} {u : UInt8} (h : standsB a u.toNat = false) : fIdx (a ++ ⟨#[u]⟩ ++ z) u.toNat = a.size ∧ standsB (a ++ ⟨#[u]⟩ ++ z) u.toNat = true := by
  have hsz : a.size < (a ++ (⟨#[u]⟩ : ByteArray) ++ z).size := by simp only [ByteArray.size_append, size_lit, List.size_toArray, List.length_cons, List.length_nil]; omega
  have hb : byteN (a ++ (⟨#[u]⟩ : ByteArray) ++ z) a.size = u.toNat := by
    rw [ByteArray.append_assoc]
    have := byteN_app_r (a := a) (b := (⟨#[u]⟩ : ByteArray) ++ z) (i := 0)
    rw [Nat.add_zero] at this
    rw [this, byteN_app_l (show 0 < (⟨#[u]⟩ : ByteArray).size from Nat.one_pos)]
    rfl
  refine ⟨fIdx_some (fun j hj => ?_) hsz hb, anyN_t (i := a.size) (by simpa using hb) hsz⟩
  rw [ByteArray.append_assoc, byteN_app_l hj]
  cases hq : (byteN a j == (u.toNat : Int)) with
  | false => rfl
  | true =>
    rw [standsB, anyN_t (f := fun i => byteN a i == (u.toNat : Int)) hq hj] at h
    cases h
theorem app_first {a z : ByteArray} {u : UInt8} (h : standsB a u.toNat = false) : firstB (a ++ ⟨#[u]⟩ ++ z) u.toNat = a := by
  rw [firstB, (app_fIdx h).1]
  apply ba_ext
  rw [ext_list, app_list, app_list, List.drop_zero, Nat.sub_zero, List.append_assoc, List.take_append_of_le_length (by rw [size_list]; exact Nat.le_refl _), List.take_of_length_le (by rw [size_list]; exact Nat.le_refl _)]
theorem app_after {a z : ByteArray} {u : UInt8} (h : standsB a u.toNat = false) : afterB (a ++ ⟨#[u]⟩ ++ z) u.toNat = z := by
  obtain ⟨h1, h2⟩ := app_fIdx (z := z) h
  rw [afterB, h2, if_pos rfl, h1]
  apply ba_ext
  have e : (a ++ (⟨#[u]⟩ : ByteArray)).data.toList.length = a.size + 1 := by rw [size_list, ByteArray.size_append]; rfl
  rw [ext_list, app_list, List.drop_append_of_le_length (by rw [e]; exact Nat.le_refl _), List.drop_of_length_le (by rw [e]; exact Nat.le_refl _), List.nil_append, List.take_of_length_le]
  rw [size_list]
  simp only [ByteArray.size_append, size_lit, List.size_toArray, List.length_cons, List.length_nil]
  omega
theorem app_cancel {a b c : ByteArray} (h : a ++ c = b ++ c) : a = b := by
  have h1 := congrArg (fun s => s.data.toList) h
  simp only [app_list] at h1
  exact ba_ext (List.append_cancel_right h1)
/-! the reference's reader of a line -/
def aheadT (k : Int) : ByteArray := numT k ++ (⟨#[32]⟩ : ByteArray)
def restT (s : ByteArray) (k : Int) : ByteArray := (firstB s 35).extract (aheadT k).size (firstB s 35).size
def zeroR : Rec := ⟨⟨#[]⟩, ⟨#[]⟩⟩
def rdA (s : ByteArray) (k : Int) : Bool := decide ((aheadT k).size ≤ (firstB s 35).size) && ((firstB s 35).extract 0 (aheadT k).size).toList == (aheadT k).toList
def rdB (s : ByteArray) (k : Int) : Bool := rdA s k && !decide ((firstB (restT s k) 64).size = (restT s k).size)
def rdX (s : ByteArray) (k : Int) : Rec := ⟨firstB (restT s k) 64, (restT s k).extract ((firstB (restT s k) 64).size + 1) (restT s k).size⟩
def rdE (s : ByteArray) (k : Int) : Rec := if rdB s k then rdX s k else zeroR
def rdK (s : ByteArray) (k : Int) : Bool := rdB s k && recOK (rdE s k) && (lineT k (rdE s k)).toList == (s ++ (⟨#[10]⟩ : ByteArray)).toList
theorem toList_iff {a b : ByteArray} : (a.toList == b.toList) = true ↔ a = b := by
  constructor
  · intro h
    exact toList_inj' (by simpa using h)
  · rintro rfl; exact beq_self_eq_true _
theorem body_parts {k : Int} {x : Rec} : bodyT k x = aheadT k ++ (x.c ++ (⟨#[64]⟩ : ByteArray) ++ x.r) := by
  unfold bodyT aheadT
  simp only [ByteArray.append_assoc]
theorem ext_app_l {a b : ByteArray} : (a ++ b).extract 0 a.size = a := by
  apply ba_ext
  rw [ext_list, app_list, List.drop_zero, Nat.sub_zero, List.take_append_of_le_length (by rw [size_list]; exact Nat.le_refl _), List.take_of_length_le (by rw [size_list]; exact Nat.le_refl _)]
theorem ext_app_r {a b : ByteArray} : (a ++ b).extract a.size (a ++ b).size = b := by
  apply ba_ext
  rw [ext_list, app_list, List.drop_append_of_le_length (by rw [size_list]; exact Nat.le_refl _), List.drop_of_length_le (by rw [size_list]; exact Nat.le_refl _), List.nil_append, List.take_of_length_le]
  rw [size_list, ByteArray.size_append]
  omega
theorem first_seal {k : Int} {x : Rec} (hk : 0 ≤ k) (h : recOK x = true) : firstB (sealT (bodyT k x)) 35 = bodyT k x := app_first (u := 35) (body_stands hk h)
theorem rd_good {k : Int} {x : Rec} (hk : 0 ≤ k) (h : recOK x = true) : rdB (sealT (bodyT k x)) k = true ∧ rdE (sealT (bodyT k x)) k = x := by
  obtain ⟨_, _, _, _, h5⟩ := recOK_ok h
  have hf := first_seal hk h
  have hr : restT (sealT (bodyT k x)) k = x.c ++ (⟨#[64]⟩ : ByteArray) ++ x.r := by
    rw [restT, hf, body_parts, ext_app_r]
  have h64 : firstB (x.c ++ (⟨#[64]⟩ : ByteArray) ++ x.r) 64 = x.c := app_first (u := 64) h5
  have ha : rdA (sealT (bodyT k x)) k = true := by
    rw [rdA, hf, body_parts, ext_app_l, toList_iff.mpr rfl, ByteArray.size_append]
    simp
  have hb : rdB (sealT (bodyT k x)) k = true := by
    rw [rdB, ha, hr, h64]
    simp only [Bool.true_and, Bool.not_eq_true', decide_eq_false_iff_not, ByteArray.size_append, size_lit, List.size_toArray, List.length_cons, List.length_nil]
    omega
  refine ⟨hb, ?_⟩
  rw [rdE, if_pos hb, rdX, hr, h64]
  have h6 : (x.c ++ (⟨#[64]⟩ : ByteArray) ++ x.r).extract (x.c.size + 1) (x.c ++ (⟨#[64]⟩ : ByteArray) ++ x.r).size = x.r := by
    have := ext_app_r (a := x.c ++ (⟨#[64]⟩ : ByteArray)) (b := x.r)
    have e : (x.c ++ (⟨#[64]⟩ : ByteArray)).size = x.c.size + 1 := by rw [ByteArray.size_append]; rfl
    rwa [e] at this
  rw [h6]
theorem rdK_of {s : ByteArray} {k : Int} {x : Rec} (hk : 0 ≤ k) (h : recOK x = true) (hl : lineT k x = s ++ (⟨#[10]⟩ : ByteArray)) : rdK s k = true ∧ rdE s k = x := by
  have hs : s = sealT (bodyT k x) := (app_cancel hl).symm
  obtain ⟨h1, h2⟩ := rd_good hk h
  rw [hs]
  refine ⟨?_, h2⟩
  have h3 : ((lineT k x).toList == (sealT (bodyT k x) ++ (⟨#[10]⟩ : ByteArray)).toList) = true := toList_iff.mpr rfl
  rw [rdK, h1, h2, h, h3]
  rfl
theorem rdK_ok {s : ByteArray} {k : Int} (h : rdK s k = true) : recOK (rdE s k) = true ∧ lineT k (rdE s k) = s ++ (⟨#[10]⟩ : ByteArray) := by
  simp only [rdK, Bool.and_eq_true] at h
  exact ⟨h.1.2, toList_iff.mp h.2⟩
theorem rd_f {s : ByteArray} {k : Int} (h : rdB s k = false) : rdE s k = zeroR ∧ rdK s k = false := by
  refine ⟨?_, ?_⟩
  · rw [rdE, h]; rfl
  · rw [rdK, h]; rfl
theorem rdB_f1 {s : ByteArray} {k : Int} (h : (firstB s 35).size < (aheadT k).size) : rdB s k = false := by
  rw [rdB, rdA, decide_eq_false (by omega)]; rfl
theorem rdB_f2 {s : ByteArray} {k : Int} (h : ¬ ((firstB s 35).extract 0 (aheadT k).size).toList = (aheadT k).toList) : rdB s k = false := by
  rw [rdB, rdA, beq_eq_false_iff_ne.mpr h, Bool.and_false]; rfl
theorem rdA_t {s : ByteArray} {k : Int} (h : (aheadT k).size ≤ (firstB s 35).size) (h2 : ((firstB s 35).extract 0 (aheadT k).size).toList = (aheadT k).toList) : rdA s k = true := by
  rw [rdA, h2, decide_eq_true h, beq_self_eq_true]; rfl
theorem rdB_f3 {s : ByteArray} {k : Int} (h : (firstB (restT s k) 64).size = (restT s k).size) : rdB s k = false := by
  rw [rdB, decide_eq_true h, Bool.not_true, Bool.and_false]
theorem rdB_t {s : ByteArray} {k : Int} (ha : rdA s k = true) (h : ¬ (firstB (restT s k) 64).size = (restT s k).size) : rdB s k = true ∧ rdE s k = rdX s k := by
  have hb : rdB s k = true := by rw [rdB, decide_eq_false h, ha]; rfl
  exact ⟨hb, by rw [rdE, if_pos hb]⟩
theorem rdX_size {s : ByteArray} {k : Int} : (rdX s k).c.size ≤ (restT s k).size ∧ (rdX s k).r.size ≤ (restT s k).size := by
  have h1 := firstB_size (s := restT s k) (c := 64)
  have h2 := fIdx_le (s := restT s k) (c := 64)
  refine ⟨?_, ?_⟩
  · show (firstB (restT s k) 64).size ≤ _
    omega
  · show ((restT s k).extract ((firstB (restT s k) 64).size + 1) (restT s k).size).size ≤ _
    rw [size_ext (Nat.le_refl _)]
    omega
theorem rdK_t {s : ByteArray} {k : Int} (h : rdB s k = true ∧ rdE s k = rdX s k) : rdK s k = (recOK (rdX s k) && (lineT k (rdX s k)).toList == (s ++ (⟨#[10]⟩ : ByteArray)).toList) := by
  rw [rdK, h.1, h.2, Bool.true_and]
/-! the program's reader of a line -/
def riE (s : ByteArray) : Rec := ⟨firstB (afterB (firstB s 35) 32) 64, afterB (afterB (firstB s 35) 32) 64⟩
def riK (s : ByteArray) (k : Int) : Bool := recOK (riE s) && (lineT k (riE s)).toList == (s ++ (⟨#[10]⟩ : ByteArray)).toList
theorem ri_good {k : Int} {x : Rec} (hk : 0 ≤ k) (h : recOK x = true) : riE (sealT (bodyT k x)) = x := by
  obtain ⟨_, _, _, _, h5⟩ := recOK_ok h
  have hf := first_seal hk h
  have hb : bodyT k x = numT k ++ (⟨#[32]⟩ : ByteArray) ++ (x.c ++ (⟨#[64]⟩ : ByteArray) ++ x.r) := by rw [body_parts]; rfl
  have h1 : afterB (bodyT k x) 32 = x.c ++ (⟨#[64]⟩ : ByteArray) ++ x.r := by
    rw [hb]
    exact app_after (u := 32) (num_stands (b := 32) hk (by omega))
  have h2 : firstB (x.c ++ (⟨#[64]⟩ : ByteArray) ++ x.r) 64 = x.c := app_first (u := 64) h5
  have h3 : afterB (x.c ++ (⟨#[64]⟩ : ByteArray) ++ x.r) 64 = x.r := app_after (u := 64) h5
  rw [riE, hf, h1, h2, h3]
theorem ri_rd {s : ByteArray} {k : Int} (hk : 0 ≤ k) : riK s k = rdK s k ∧ (rdK s k = true → riE s = rdE s k) := by
  have key : ∀ x, recOK x = true → lineT k x = s ++ (⟨#[10]⟩ : ByteArray) → riE s = x := fun x hx hl => by
    have hs : s = sealT (bodyT k x) := (app_cancel hl).symm
    rw [hs]
    exact ri_good hk hx
  have h2 : rdK s k = true → riE s = rdE s k := fun h => key _ (rdK_ok h).1 (rdK_ok h).2
  refine ⟨?_, h2⟩
  cases h : rdK s k
  · cases h3 : riK s k with
    | false => rfl
    | true =>
      simp only [riK, Bool.and_eq_true] at h3
      rw [(rdK_of hk h3.1 (toList_iff.mp h3.2)).1] at h
      cases h
  · obtain ⟨h3, h4⟩ := rdK_ok h
    rw [riK, h2 h, h3, toList_iff.mpr h4]
    rfl
end Go.Rf
