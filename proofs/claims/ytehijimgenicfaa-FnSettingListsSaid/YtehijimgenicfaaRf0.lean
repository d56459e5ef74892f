/- The cursor of the draws. -/
import Derived.Test.YtehijimgenicfaaRf9
import Derived.Test.YtehijimgenicfaaRfW
set_option linter.unusedVariables false
set_option linter.unusedSimpArgs false
set_option linter.unusedSectionVars false
namespace Go.Rf
open Go Go.RowKit
def encU (n : Int) : List Value := [.int .u8 n]
structure Cur where
  c : List Int
  a : Int
  s : Int
def bytesOK (l : List Int) : Prop := l.length ≤ 1048576 ∧ ∀ j, 0 ≤ l.getD j default ∧ l.getD j default ≤ 255
def boxC (x : Cur) : Row := .box [.lst 1 (x.c.map encU), .v (.int .i64 x.a), .v (.int .u64 x.s)]
def nxB (x : Cur) : Int := if x.a < x.c.length then x.c.getD x.a.toNat default else 0
def nxS (x : Cur) : Int := IntKind.u64.wrap (IntKind.u64.wrap (IntKind.u64.wrap (x.s * 6364136223846793005) + IntKind.u64.wrap (nxB x)) + 843843)
def nxT (x : Cur) : Int := andI .u64 ((nxS x).fdiv (2 ^ 40)) 255
def nxV (x : Cur) : Int := if x.a + 1 ≤ x.c.length then nxB x else nxT x
def nxC (x : Cur) : Cur := ⟨x.c, x.a + 1, nxS x⟩
theorem nxB_t {x : Cur} (h : x.a < x.c.length) : nxB x = x.c.getD x.a.toNat default := if_pos h
theorem nxB_f {x : Cur} (h : ¬ x.a < x.c.length) : nxB x = 0 := if_neg h
theorem nxV_t {x : Cur} (h : x.a + 1 ≤ x.c.length) : nxV x = nxB x := if_pos h
theorem nxV_f {x : Cur} (h : ¬ x.a + 1 ≤ x.c.length) : nxV x = nxT x := if_neg h
theorem and_255 {a : Int} : 0 ≤ andI .u64 a 255 ∧ andI .u64 a 255 ≤ 255 := by
  have h : (BitVec.ofInt IntKind.u64.bits a &&& BitVec.ofInt IntKind.u64.bits 255).toNat ≤ 255 := by
    rw [BitVec.toNat_and]
    exact Nat.le_trans Nat.and_le_right (by decide)
  have hw : andI .u64 a 255 = ((BitVec.ofInt IntKind.u64.bits a &&& BitVec.ofInt IntKind.u64.bits 255).toNat : Int) := by
    rw [andI, IntKind.wrap_u64]
    omega
  rw [hw]
  omega
theorem nxB_in {x : Cur} (h : bytesOK x.c) : 0 ≤ nxB x ∧ nxB x ≤ 255 := by
  unfold nxB
  split
  · exact h.2 _
  · omega
theorem nxV_in {x : Cur} (h : bytesOK x.c) : 0 ≤ nxV x ∧ nxV x ≤ 255 := by
  unfold nxV
  split
  · exact nxB_in h
  · exact and_255
end Go.Rf
namespace Go.Rf
open Go Go.RowKit
def pkV (x : Cur) (n : Int) : Int := if n ≤ 1 then 0 else if 200 < n then (nxV x * 256 + nxV (nxC x)) % n else nxV x % n
def pkC (x : Cur) (n : Int) : Cur := if n ≤ 1 then x else if 200 < n then nxC (nxC x) else nxC x
theorem pk_1 {x : Cur} {n : Int} (h : n ≤ 1) : pkV x n = 0 ∧ pkC x n = x := by rw [pkV, pkC, if_pos h, if_pos h]; exact ⟨rfl, rfl⟩
theorem pk_2 {x : Cur} {n : Int} (h : ¬ n ≤ 1) (h2 : ¬ 200 < n) : pkV x n = nxV x % n ∧ pkC x n = nxC x := by rw [pkV, pkC, if_neg h, if_neg h, if_neg h2, if_neg h2]; exact ⟨rfl, rfl⟩
theorem pk_3 {x : Cur} {n : Int} (h : ¬ n ≤ 1) (h2 : 200 < n) : pkV x n = (nxV x * 256 + nxV (nxC x)) % n ∧ pkC x n = nxC (nxC x) := by rw [pkV, pkC, if_neg h, if_neg h, if_pos h2, if_pos h2]; exact ⟨rfl, rfl⟩
theorem pk_in {x : Cur} {n : Int} (h : bytesOK x.c) : 0 ≤ pkV x n ∧ (pkV x n < n ∨ (n ≤ 1 ∧ pkV x n = 0)) := by
  by_cases h1 : n ≤ 1
  · rw [(pk_1 h1).1]; omega
  · have e1 := nxV_in h
    have e2 := nxV_in (x := nxC x) h
    by_cases h2 : 200 < n
    · rw [(pk_3 h1 h2).1]
      exact ⟨Int.emod_nonneg _ (by omega), Or.inl (Int.emod_lt_of_pos _ (by omega))⟩
    · rw [(pk_2 h1 h2).1]
      exact ⟨Int.emod_nonneg _ (by omega), Or.inl (Int.emod_lt_of_pos _ (by omega))⟩
theorem pk_c {x : Cur} {n : Int} : (pkC x n).c = x.c ∧ x.a ≤ (pkC x n).a ∧ (pkC x n).a ≤ x.a + 2 := by
  unfold pkC
  split
  · exact ⟨rfl, by omega, by omega⟩
  · split
    · exact ⟨rfl, by show x.a ≤ x.a + 1 + 1; omega, by show x.a + 1 + 1 ≤ x.a + 2; omega⟩
    · exact ⟨rfl, by show x.a ≤ x.a + 1; omega, by show x.a + 1 ≤ x.a + 2; omega⟩
end Go.Rf
