/- Sealed texts. -/
import Derived.Test.YtehijimgenicfaaRf1
set_option linter.unusedVariables false
set_option linter.unusedSimpArgs false
set_option linter.unusedSectionVars false
namespace Go.Rf
open Go Go.RowKit
theorem size_lit (a : Array UInt8) : (⟨a⟩ : ByteArray).size = a.size := rfl
def sumS (s : ByteArray) (i : Nat) : Int := foldN (fun i n => (41 * n + byteN s i + 1) % 999979) 7 i
theorem sumS_succ {s : ByteArray} {i : Nat} : sumS s (i + 1) = (41 * sumS s i + byteN s i + 1) % 999979 := rfl
theorem sumS_le (s : ByteArray) : ∀ i, 0 ≤ sumS s i ∧ sumS s i ≤ 999978
  | 0 => by simp [sumS, foldN]
  | i + 1 => by rw [sumS_succ]; omega
def sealT (s : ByteArray) : ByteArray := s ++ (⟨#[35]⟩ : ByteArray) ++ numT (sumS s s.size)
theorem stands_mem {s : ByteArray} {b : Int} : standsB s b = true ↔ ∃ x ∈ s.data.toList, (x.toNat : Int) = b := by
  constructor
  · intro h
    simp only [standsB, anyN, Bool.not_eq_true', allN, List.all_eq_false, List.mem_range] at h
    obtain ⟨i, hi, h2⟩ := h
    have hil : i < s.data.toList.length := by rw [size_list]; exact hi
    refine ⟨s.data.toList[i], List.getElem_mem hil, ?_⟩
    simpa [byteN, List.getD_eq_getElem?_getD, List.getElem?_eq_getElem hil] using h2
  · rintro ⟨x, hx, h⟩
    obtain ⟨i, hil, rfl⟩ := List.getElem_of_mem hx
    exact anyN_t (i := i) (by simp only [byteN, List.getD_eq_getElem?_getD, List.getElem?_eq_getElem hil, Option.getD_some, h, beq_self_eq_true]) (by rw [← size_list]; exact hil)
theorem stands_app {s t : ByteArray} {b : Int} (h1 : standsB s b = false) (h2 : standsB t b = false) : standsB (s ++ t) b = false := by
  cases h : standsB (s ++ t) b with
  | false => rfl
  | true =>
    obtain ⟨x, hx, he⟩ := stands_mem.mp h
    rw [ByteArray.data_append, Array.toList_append, List.mem_append] at hx
    rcases hx with hx | hx
    · have := stands_mem.mpr ⟨x, hx, he⟩
      rw [h1] at this; cases this
    · have := stands_mem.mpr ⟨x, hx, he⟩
      rw [h2] at this; cases this
theorem stands_no {s : ByteArray} {b : Int} (h : ∀ x ∈ s.data.toList, (x.toNat : Int) ≠ b) : standsB s b = false := by
  cases h1 : standsB s b with
  | false => rfl
  | true =>
    obtain ⟨x, hx, he⟩ := stands_mem.mp h1
    exact absurd he (h x hx)
theorem plain_stands {s : ByteArray} (h : plainB s = true) : standsB s 35 = false :=
  anyN_f (i := s.size) (fun j hj => by
    have := allN_iff.mp h j hj
    simp only [plainC, Bool.and_eq_true, Bool.not_eq_true'] at this
    exact this.2) (Nat.le_refl _)
theorem digit_range : ∀ (u : Nat), ∀ x ∈ Lib.decDigits u, 48 ≤ x.toNat ∧ x.toNat ≤ 57 := by
  intro u
  induction u using Nat.strongRecOn with
  | ind u ih =>
    intro x hx
    rw [Lib.decDigits] at hx
    by_cases h : u < 10
    · rw [dif_pos h] at hx
      have hx := List.mem_singleton.mp hx
      subst hx
      rw [UInt8.toNat_ofNat']
      omega
    · rw [dif_neg h] at hx
      rcases List.mem_append.1 hx with hx | hx
      · exact ih (u / 10) (by omega) x hx
      · have hx := List.mem_singleton.mp hx
        subst hx
        rw [UInt8.toNat_ofNat']
        omega
theorem num_bytes {n : Int} (h : 0 ≤ n) : ∀ x ∈ (numT n).data.toList, 48 ≤ x.toNat ∧ x.toNat ≤ 57 := by
  intro x hx
  have e : (numT n).data.toList = Lib.decDigits n.toNat := by
    rw [numT, Lib.itoa, if_neg (by omega)]
  rw [e] at hx
  exact digit_range _ x hx
theorem num_stands {n : Int} (h : 0 ≤ n) {b : Int} (hb : b < 48 ∨ 57 < b) : standsB (numT n) b = false :=
  stands_no fun x hx => by have := num_bytes h x hx; omega
def bodyT (k : Int) (x : Rec) : ByteArray := numT k ++ (⟨#[32]⟩ : ByteArray) ++ x.c ++ (⟨#[64]⟩ : ByteArray) ++ x.r
def lineT (k : Int) (x : Rec) : ByteArray := sealT (bodyT k x) ++ (⟨#[10]⟩ : ByteArray)
theorem recOK_ok {x : Rec} (h : recOK x = true) : (1 ≤ x.c.size ∧ x.c.size ≤ 160) ∧ x.r.size ≤ 200 ∧ plainB x.c = true ∧ plainB x.r = true ∧ standsB x.c 64 = false := by
  simp only [recOK, inside, Bool.and_eq_true, decide_eq_true_eq, Bool.not_eq_true'] at h
  refine ⟨by omega, by omega, h.1.1.2, h.1.2, h.2⟩
theorem body_stands {k : Int} {x : Rec} (hk : 0 ≤ k) (h : recOK x = true) : standsB (bodyT k x) 35 = false := by
  obtain ⟨_, _, h1, h2, _⟩ := recOK_ok h
  unfold bodyT
  exact stands_app (stands_app (stands_app (stands_app (num_stands hk (by omega)) (stands_no (by decide))) (plain_stands h1)) (stands_no (by decide))) (plain_stands h2)
theorem body_size {k : Int} {x : Rec} (hk : 0 ≤ k) (hk2 : k ≤ 9223372036854775807) (h : recOK x = true) : (bodyT k x).size ≤ 400 := by
  obtain ⟨_, _, _, _, _⟩ := recOK_ok h
  have := numT_size (n := k) (by omega) (by omega)
  unfold bodyT
  simp only [ByteArray.size_append, size_lit, List.size_toArray, List.length_cons, List.length_nil]
  omega
theorem seal_size {s : ByteArray} : (sealT s).size ≤ s.size + 22 := by
  have h := sumS_le s s.size
  have := numT_size (n := sumS s s.size) (by omega) (by omega)
  unfold sealT
  simp only [ByteArray.size_append, size_lit, List.size_toArray, List.length_cons, List.length_nil]
  omega
end Go.Rf
