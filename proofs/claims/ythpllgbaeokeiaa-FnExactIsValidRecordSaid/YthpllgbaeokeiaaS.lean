/- Contracts of the library's functions that this program calls. -/
import Derived.Test.YthpllgbaeokeiaaTab
import Derived.Test.YthpllgbaeokeiaaShelf
import Derived.Test.YthpllgbaeokeiaaRf1
set_option linter.unusedVariables false
namespace Go.Proofs.Ythpllgbaeokeiaa
open Go Go.Rf Go.RowKit
theorem c_strings_Contains (s : ByteArray) (c : UInt8) : Ctr Try.prog 21 [.v (.string s), .v (.string ⟨#[c]⟩)] (.one (.v (.bool (standsB s c.toNat)))) :=
  Ctr.lib (xs := [.string s, .string ⟨#[c]⟩]) ⟨_, Try.func21, by kernel_rfl, rfl⟩ (fun w he => (Try.strings_Contains_one s c w).mono fun e w' ⟨h, hw⟩ => ⟨by rw [h, stands_index], hw ▸ Below.refl _ _⟩)
end Go.Proofs.Ythpllgbaeokeiaa
