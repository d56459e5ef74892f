/- Settings and words. -/
import Derived.Test.YtehijimgenicfaaRfP
set_option linter.unusedVariables false
set_option linter.unusedSimpArgs false
set_option linter.unusedSectionVars false
namespace Go.Rf
open Go
def byteN (s : ByteArray) (i : Nat) : Int := (s.data.toList.getD i 0).toNat
def lowN (s : ByteArray) (i : Nat) : Bool := decide (97 ≤ byteN s i) && decide (byteN s i ≤ 122)
def wordB (s : ByteArray) : Bool := allN s.size (lowN s)
def kindB (s : ByteArray) : Bool := wordB s && inside s.size 1 8
structure Setting where
  g : Int
  n : ByteArray
  c : Int
  f : Int
  w : Int
  k : Bool
instance : Inhabited Setting := ⟨⟨0, ⟨#[]⟩, 0, 0, 0, false⟩⟩
def encTc (x : Setting) : List Value := [.int .i64 x.g, .string x.n, .int .i64 x.c, .int .i64 x.f, .int .i64 x.w, .bool x.k]
def encT (x : Setting) : Value := .agg ⟨encTc x⟩
def isSet (x : Setting) : Bool := inside x.g 1 4 && kindB x.n && inside x.c 1 4 && inside x.f 1 16 && inside x.w 1 100
theorem toList_inj' {a b : ByteArray} (h : a.toList = b.toList) : a = b := by
  rw [Go.ByteArray.toList_eq, Go.ByteArray.toList_eq] at h
  exact ByteArray.ext (Array.ext' h)
def eqT (x y : Setting) : Bool := x.g == y.g && x.n.toList == y.n.toList && x.c == y.c && x.f == y.f && x.w == y.w && x.k == y.k
theorem eqT_iff {x y : Setting} : eqT x y = true ↔ x = y := by
  constructor
  · intro h
    simp only [eqT, Bool.and_eq_true, beq_iff_eq] at h
    obtain ⟨⟨⟨⟨⟨h1, h2⟩, h3⟩, h4⟩, h5⟩, h6⟩ := h
    have := toList_inj' h2
    cases x; cases y; simp_all
  · rintro rfl
    simp [eqT]
end Go.Rf
