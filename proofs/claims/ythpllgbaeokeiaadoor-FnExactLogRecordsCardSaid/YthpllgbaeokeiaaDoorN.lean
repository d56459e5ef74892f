/- The text of a number: the recursion. -/
import Derived.Test.YthpllgbaeokeiaaDoorW1
namespace Go.Proofs.YthpllgbaeokeiaaDoor
open Go Go.Rf
theorem l1Num_pos : ∀ (m : Nat) (n : Int), n.toNat = m → 0 ≤ n → n ≤ 9223372036854775807 → Ctr Tryd.prog 64 [.v (.int .i64 n)] (.one (.v (.string (numT n)))) := by
  intro m
  induction m using Nat.strongRecOn with
  | ind m ih =>
    intro n hm h0 h1
    exact c_spec_l1Num_rec n (by omega) h1 (fun k hk hlt hk1 => ih k.toNat (by omega) k rfl hk hk1)
theorem c_spec_l1Num (n : Int) (h0 : -9223372036854775807 ≤ n) (h1 : n ≤ 9223372036854775807) : Ctr Tryd.prog 64 [.v (.int .i64 n)] (.one (.v (.string (numT n)))) := by
  by_cases h : 0 ≤ n
  · exact l1Num_pos _ n rfl h h1
  · exact c_spec_l1Num_rec n h0 h1 (fun k hk _ hk1 => l1Num_pos _ k rfl hk hk1)
end Go.Proofs.YthpllgbaeokeiaaDoor
