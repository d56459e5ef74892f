/- Additions. -/
import Derived.Test.YtehijimgenicfaaRfM
set_option linter.unusedVariables false
set_option linter.unusedSectionVars false
set_option linter.unusedSimpArgs false
namespace Go.Rf
open Go
variable {P : Program} [Env P] {tb : List (Nat × TyI)} {w0 : Base} {T : List (Nat × AV)} {m : List (Nat × Option Row)} {nx nt : Nat} {o : Oper}
theorem q_min' {x y : Operand} {ts : Array TypeId} {k : IntKind} {a b : Int} (ho : o.op = .call { callee := .builtin .min, args := #[x, y], argTypes := ts }) (hx : ev T x = some (.v (.int k a))) (hy : ev T y = some (.v (.int k b))) :
    QStep P o T m nx nt (.v (.int k (min a b))) := by
  have := q_min (P := P) (m := m) (nx := nx) (nt := nt) ho hx hy
  have e : (if b < a then b else a) = min a b := by rw [Int.min_def]; split <;> split <;> omega
  rwa [e] at this
theorem q_max' {x y : Operand} {ts : Array TypeId} {k : IntKind} {a b : Int} (ho : o.op = .call { callee := .builtin .max, args := #[x, y], argTypes := ts }) (hx : ev T x = some (.v (.int k a))) (hy : ev T y = some (.v (.int k b))) :
    QStep P o T m nx nt (.v (.int k (max a b))) := by
  have := q_max (P := P) (m := m) (nx := nx) (nt := nt) ho hx hy
  have e : (if b > a then b else a) = max a b := by rw [Int.max_def]; split <;> split <;> omega
  rwa [e] at this
end Go.Rf
