/- Records of a log: plain texts. -/
import Derived.Test.YtehijimgenicfaaRfV
import Derived.Lib.IndexLaws
set_option linter.unusedVariables false
set_option linter.unusedSimpArgs false
set_option linter.unusedSectionVars false
namespace Go.Rf
open Go Go.RowKit
section
variable {P : Program} [Env P] {tb : List (Nat × TyI)} {o : Oper} {T : List (Nat × AV)} {m : List (Nat × Option Row)} {nx nt : Nat}
theorem q_conv_in {src dst : TypeId} {x : Operand} {k' : IntKind} {n : Int} {z z' : Value} {fk : FK} (G : Good P tb) (ho : o.op = .convert src dst x) (hs : look src tb = some (.flat fk z')) (ht : look dst tb = some (.flat (.int .i64) z)) (hx : ev T x = some (.v (.int k' n)))
    (h0 : -9223372036854775808 ≤ n) (h1 : n ≤ 9223372036854775807) : QStep P o T m nx nt (.v (.int .i64 n)) := by
  have := q_conv (m := m) (nx := nx) (nt := nt) G ho hs ht hx
  rwa [wrap_in h0 h1] at this
end
theorem byteN_le (s : ByteArray) (i : Nat) : 0 ≤ byteN s i ∧ byteN s i ≤ 255 := by
  unfold byteN
  have := (s.data.toList.getD i 0).toNat_lt
  omega
structure Rec where
  c : ByteArray
  r : ByteArray
instance : Inhabited Rec := ⟨⟨⟨#[]⟩, ⟨#[]⟩⟩⟩
def encRc (x : Rec) : List Value := [.string x.c, .string x.r]
def encR (x : Rec) : Value := .agg ⟨encRc x⟩
def plainC (s : ByteArray) (i : Nat) : Bool := decide (32 ≤ byteN s i) && decide (byteN s i ≤ 126) && !(byteN s i == 35)
def plainB (s : ByteArray) : Bool := allN s.size (plainC s)
def standsB (s : ByteArray) (b : Int) : Bool := anyN s.size (fun i => byteN s i == b)
def recOK (x : Rec) : Bool := inside x.c.size 1 160 && decide ((x.r.size : Int) ≤ 200) && plainB x.c && plainB x.r && !(standsB x.c 64)
def eqR (x y : Rec) : Bool := x.c.toList == y.c.toList && x.r.toList == y.r.toList
def szR (x : Rec) (l : Int) : Int := if l - x.c.size < 0 then -1 else if l - x.c.size - x.r.size < 0 then -1 else l - x.c.size - x.r.size
theorem eqR_iff {x y : Rec} : eqR x y = true ↔ x = y := by
  constructor
  · intro h
    simp only [eqR, Bool.and_eq_true, beq_iff_eq] at h
    have h1 := toList_inj' h.1
    have h2 := toList_inj' h.2
    cases x; cases y; simp_all
  · rintro rfl; simp only [eqR, beq_self_eq_true, Bool.and_self]
theorem size_list (s : ByteArray) : s.data.toList.length = s.size := by rw [Array.length_toList]; rfl
theorem stands_index {s : ByteArray} {c : UInt8} : decide (0 ≤ Lib.indexByte s.data.toList c) = standsB s c.toNat := by
  have hge := Lib.indexByte_ge s.data.toList c
  by_cases h : Lib.indexByte s.data.toList c = -1
  · have h1 := Lib.indexByte_none h
    rw [h]
    symm
    rw [standsB]
    exact anyN_f (i := s.size) (fun j hj => by
      have h2 := h1 j
      have hjl : j < s.data.toList.length := by rw [size_list]; exact hj
      rw [List.getElem?_eq_getElem hjl] at h2
      simp only [beq_eq_false_iff_ne, ne_eq, byteN, List.getD_eq_getElem?_getD, List.getElem?_eq_getElem hjl, Option.getD_some]
      intro he
      apply h2
      congr 1
      exact UInt8.toNat_inj.mp (by exact_mod_cast he)) (Nat.le_refl _)
  · obtain ⟨o, ho⟩ : ∃ o : Nat, Lib.indexByte s.data.toList c = o := ⟨(Lib.indexByte s.data.toList c).toNat, by omega⟩
    obtain ⟨h1, _⟩ := Lib.indexByte_some ho
    have hol : o < s.data.toList.length := (List.getElem?_eq_some_iff.1 h1).1
    rw [ho, decide_eq_true (by omega)]
    symm
    rw [standsB]
    exact anyN_t (i := o) (by
      simp only [beq_iff_eq, byteN, List.getD_eq_getElem?_getD, h1, Option.getD_some]) (by rw [← size_list]; exact hol)
theorem empty_iff {s : ByteArray} : (s.toList == (⟨#[]⟩ : ByteArray).toList) = decide (s.size = 0) := by
  rw [ByteArray.toList_eq, ByteArray.toList_eq, ← size_list]
  cases s.data.toList <;> simp
theorem list_empty {s : ByteArray} : s.toList = (⟨#[]⟩ : ByteArray).toList ↔ s.size = 0 := by
  have := empty_iff (s := s)
  constructor
  · intro h
    rw [h] at this
    simpa using this
  · intro h
    rw [decide_eq_true h] at this
    simpa using this
end Go.Rf
