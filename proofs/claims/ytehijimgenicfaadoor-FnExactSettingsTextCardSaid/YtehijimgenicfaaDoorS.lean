/- Contracts of the library's functions that this program calls. -/
import Derived.Test.YtehijimgenicfaaDoorTab
import Derived.Test.YtehijimgenicfaaDoorShelf
set_option linter.unusedVariables false
namespace Go.Proofs.YtehijimgenicfaaDoor
open Go Go.Rf
theorem c_strconv_Itoa (n : Int) (h0 : -9223372036854775808 ≤ n) (h1 : n ≤ 9223372036854775807) : Ctr Tryd.prog 54 [.v (.int .i64 n)] (.one (.v (.string (numT n)))) :=
  Ctr.lib (xs := [.int .i64 n]) ⟨_, Tryd.func54, by kernel_rfl, rfl⟩ (fun w he => (Tryd.strconv_Itoa n h0 h1 w he).mono fun e w' ⟨h, k, os, hw⟩ => ⟨h, hw ▸ below_grow w k os⟩)
end Go.Proofs.YtehijimgenicfaaDoor
