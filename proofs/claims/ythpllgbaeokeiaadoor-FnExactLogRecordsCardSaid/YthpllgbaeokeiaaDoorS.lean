/- Contracts of the library's functions that this program calls. -/
import Derived.Test.YthpllgbaeokeiaaDoorTab
import Derived.Test.YthpllgbaeokeiaaDoorShelf
import Derived.Test.YthpllgbaeokeiaaDoorRf2
import Derived.Test.YthpllgbaeokeiaaDoorRf4
set_option linter.unusedVariables false
namespace Go.Proofs.YthpllgbaeokeiaaDoor
open Go Go.Rf Go.RowKit
theorem c_strings_Contains (s : ByteArray) (c : UInt8) : Ctr Tryd.prog 57 [.v (.string s), .v (.string ⟨#[c]⟩)] (.one (.v (.bool (standsB s c.toNat)))) :=
  Ctr.lib (xs := [.string s, .string ⟨#[c]⟩]) ⟨_, Tryd.func57, by kernel_rfl, rfl⟩ (fun w he => (Tryd.strings_Contains_one s c w).mono fun e w' ⟨h, hw⟩ => ⟨by rw [h, stands_index], hw ▸ Below.refl _ _⟩)
theorem c_strconv_Itoa (n : Int) (h0 : -9223372036854775808 ≤ n) (h1 : n ≤ 9223372036854775807) : Ctr Tryd.prog 66 [.v (.int .i64 n)] (.one (.v (.string (numT n)))) :=
  Ctr.lib (xs := [.int .i64 n]) ⟨_, Tryd.func66, by kernel_rfl, rfl⟩ (fun w he => (Tryd.strconv_Itoa n h0 h1 w he.1).mono fun e w' ⟨h, k, os, hw⟩ => ⟨h, hw ▸ below_grow w k os⟩)
theorem maxLen_of (W : World) (hsh : W.ShapedOpen Tryd.prog) : ∃ m : Int, W.cell? ⟨0, 0, none⟩ = some (.int .i64 m) := Tryd.laysM145.s1_3 W hsh
theorem c_strings_Cut (s : ByteArray) (c : UInt8) (b : Int) (hb : b = (c.toNat : Int)) (hs : s.size ≤ 1048576) : Ctr Tryd.prog 76 [.v (.string s), .v (.string ⟨#[c]⟩)] (.many [.v (.string (firstB s b)), .v (.string (afterB s b)), .v (.bool (standsB s b))]) := by
  subst hb
  obtain ⟨h1, h2, h3⟩ := cut_fst (s := s) (c := c)
  refine ⟨⟨_, Tryd.func76, by kernel_rfl, rfl⟩, fun w vs he hv => ?_⟩
  rw [RelVs.map_v_eq (w0 := w) [.string s, .string ⟨#[c]⟩] hv]
  obtain ⟨m, hm⟩ := he.2
  refine (Tryd.strings_Cut s ⟨#[c]⟩ m w (by omega) hm).mono fun e w' ⟨g1, n, g2⟩ => ?_
  rw [h1, h2, h3] at g1
  refine ⟨_, g1, ⟨_, rfl, ?_⟩, g2 ▸ ⟨rfl, rfl, rfl, Nat.le_refl _, fun i hi => rfl⟩⟩
  simp [RCRels, RCRel]
end Go.Proofs.YthpllgbaeokeiaaDoor
