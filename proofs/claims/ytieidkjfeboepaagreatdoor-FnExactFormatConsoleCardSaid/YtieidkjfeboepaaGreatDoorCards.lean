/-
  DERIVED. GIVEN WITH THE SEED: THE CARDS: each row of YtieidkjfeboepaaGreatDoorRows.lean that lists a variable, with what it lists TIED to the program's text (the seventh form; the later family's looks); each row that meets fmt, with fmt's text TOLD by the authors' own Lean function (tested against real Go, not proved from fmt's source: count such statements apart). THE CARD IS WHAT COUNTS. Prove the row's statement (the work); the ties are given (YtieidkjfeboepaaGreatDoorTie.lean); close each card by the builder's one call (the guide's Derived/Test/ToyasCard.lean, 'card_holds'). Laid BY PROGRAM, IN A SANDBOX (cutbox-door.mjs). By AI agents, Wed Nov 11 2026. No macro, syntax, notation, axiom, sorry.
-/
import Derived.Test.YtieidkjfeboepaaGreatDoorRows
import GoSem.ClaimSeven
namespace Go.Proofs.YtieidkjfeboepaaGreatDoor
namespace Rows

/-- THE TIED CARD OF 'laws.FnExactIsValidConsole'. -/
def fnExactIsValidConsoleCard : Claim7 := { stood := { row := fnExactIsValidConsoleRow, standIns := [], harness := (true, "d785fee1504cbfa56eadeae754f5a20a39460c312187bb8c9f7516dfbdae787d"), looks := false }, kinds := [], alts := [], laidByText := true, laidKinds := [.data, .data, .data], laidTests := true, laidLooks := .later }
def FnExactIsValidConsoleCardSaid : Prop := Claim7.holds Tryz.pinned (.plain (OpenSpec.ofChange fnExactIsValidConsoleSpec)) fnExactIsValidConsoleCard

/-- THE TIED CARD OF 'laws.FnExactFormatConsole'. -/
def fnExactFormatConsoleCard : Claim7 := { stood := { row := fnExactFormatConsoleRow, standIns := [], harness := (true, "d785fee1504cbfa56eadeae754f5a20a39460c312187bb8c9f7516dfbdae787d"), looks := false }, kinds := [], alts := [], laidByText := true, laidKinds := [.data, .data, .data], laidTests := true, laidLooks := .later }
def FnExactFormatConsoleCardSaid : Prop := Claim7.holds Tryz.pinned (.plain (OpenSpec.ofChange fnExactFormatConsoleSpec)) fnExactFormatConsoleCard

/-- THE SECOND FORM's CARD OF 'laws.FnExactIsValidConsole'. -/
def fnExactIsValidConsoleUptoCard : Claim7 := { stood := { row := fnExactIsValidConsoleUptoRow, standIns := [], harness := (true, "d785fee1504cbfa56eadeae754f5a20a39460c312187bb8c9f7516dfbdae787d"), looks := false }, kinds := [], alts := [], laidByText := true, laidKinds := [.data, .data, .data], laidTests := true, laidLooks := .later }
def FnExactIsValidConsoleUptoCardSaid : Prop := Claim7.holds Tryz.pinned (.plain (OpenSpec.upto fnExactIsValidConsoleSpec)) fnExactIsValidConsoleUptoCard

/-- THE SECOND FORM's CARD OF 'laws.FnExactFormatConsole'. -/
def fnExactFormatConsoleUptoCard : Claim7 := { stood := { row := fnExactFormatConsoleUptoRow, standIns := [], harness := (true, "d785fee1504cbfa56eadeae754f5a20a39460c312187bb8c9f7516dfbdae787d"), looks := false }, kinds := [], alts := [], laidByText := true, laidKinds := [.data, .data, .data], laidTests := true, laidLooks := .later }
def FnExactFormatConsoleUptoCardSaid : Prop := Claim7.holds Tryz.pinned (.plain (OpenSpec.upto fnExactFormatConsoleSpec)) fnExactFormatConsoleUptoCard
end Rows
end Go.Proofs.YtieidkjfeboepaaGreatDoor
