/- Plain data and plain functions: what the program's functions compute. No program in sight. -/
import Derived.Test.YtehijimgenicfaaRfH
set_option linter.unusedVariables false
set_option linter.unusedSectionVars false
set_option linter.unusedSimpArgs false
namespace Go.Rf
open Go

def inside (n l h : Int) : Bool := decide (n ≥ l) && decide (n ≤ h)
theorem inside_t {n l h : Int} : inside n l h = true ↔ l ≤ n ∧ n ≤ h := by simp [inside]
theorem inside_f {n l h : Int} : inside n l h = false ↔ n < l ∨ h < n := by
  unfold inside
  by_cases h1 : l ≤ n <;> by_cases h2 : n ≤ h <;> simp [h1, h2] <;> omega

structure Bucket where
  g : Int
  r : Int
  b : Int
  h : Int
  t : Int
  deriving Inhabited, DecidableEq
def encBc (x : Bucket) : List Value := [.int .i64 x.g, .int .i64 x.r, .int .i64 x.b, .int .i64 x.h, .int .i64 x.t]
def encB (x : Bucket) : Value := .agg ⟨encBc x⟩
def isBucket (x : Bucket) : Bool := inside x.g 1 4 && inside x.r 0 100 && inside x.b 1 1000 && inside x.h 0 x.b && inside x.t 0 100000
def zeroB : Bucket := ⟨0, 0, 0, 0, 0⟩
def eqB (x y : Bucket) : Bool := x.g == y.g && x.r == y.r && x.b == y.b && x.h == y.h && x.t == y.t
theorem eqB_iff {x y : Bucket} : eqB x y = true ↔ x = y := by
  cases x; cases y; simp [eqB, and_assoc]
end Go.Rf
