/-
  DERIVED. GIVEN WITH THE SEED: THE CARDS: each row of YtdhckhjphmjniaaGreatDoorRows.lean that lists a variable, with what it lists TIED to the program's text (the seventh form; the later family's looks); each row that meets fmt, with fmt's text TOLD by the authors' own Lean function (tested against real Go, not proved from fmt's source: count such statements apart). THE CARD IS WHAT COUNTS. Prove the row's statement (the work); the ties are given (YtdhckhjphmjniaaGreatDoorTie.lean); close each card by the builder's one call (the guide's Derived/Test/ToyasCard.lean, 'card_holds'). Laid BY PROGRAM, IN A SANDBOX (cutbox-door.mjs). By AI agents, Wed Nov 11 2026. No macro, syntax, notation, axiom, sorry.
-/
import Derived.Test.YtdhckhjphmjniaaGreatDoorRows
import GoSem.ClaimSeven
namespace Go.Proofs.YtdhckhjphmjniaaGreatDoor
namespace Rows

/-- THE TIED CARD OF 'laws.FnScript'. -/
def fnScriptCard : Claim7 := { stood := { row := fnScriptRow, standIns := [], harness := (true, "a50e63e502019ed74fbd8fb097c7dd9b449a3a7a0ad556ec5265ba7c8628d36a"), looks := true }, kinds := [], alts := [], laidByText := true, laidKinds := [.data, .data, .data, .data, .sentinel, .sentinel, .pinned], laidTests := true, laidLooks := .later }
def FnScriptCardSaid : Prop := Claim7.holds Tryz.pinned (.plain (OpenSpec.ofChange fnScriptSpec)) fnScriptCard

/-- THE TIED CARD OF 'laws.FnConsole'. -/
def fnConsoleCard : Claim7 := { stood := { row := fnConsoleRow, standIns := [], harness := (true, "a50e63e502019ed74fbd8fb097c7dd9b449a3a7a0ad556ec5265ba7c8628d36a"), looks := true }, kinds := [], alts := [], laidByText := true, laidKinds := [.data, .data, .data, .data, .sentinel, .sentinel, .pinned], laidTests := true, laidLooks := .later }
def FnConsoleCardSaid : Prop := Claim7.holds Tryz.pinned (.plain (OpenSpec.ofChange fnConsoleSpec)) fnConsoleCard

/-- THE TIED CARD OF 'laws.FnReplay'. -/
def fnReplayCard : Claim7 := { stood := { row := fnReplayRow, standIns := [], harness := (true, "a50e63e502019ed74fbd8fb097c7dd9b449a3a7a0ad556ec5265ba7c8628d36a"), looks := true }, kinds := [], alts := [], laidByText := true, laidKinds := [.data, .data, .data, .data, .sentinel, .sentinel, .pinned], laidTests := true, laidLooks := .later }
def FnReplayCardSaid : Prop := Claim7.holds Tryz.pinned (.plain (OpenSpec.ofChange fnReplaySpec)) fnReplayCard

/-- THE SECOND FORM's CARD OF 'laws.FnScript'. -/
def fnScriptUptoCard : Claim7 := { stood := { row := fnScriptUptoRow, standIns := [], harness := (true, "a50e63e502019ed74fbd8fb097c7dd9b449a3a7a0ad556ec5265ba7c8628d36a"), looks := true }, kinds := [], alts := [], laidByText := true, laidKinds := [.data, .data, .data, .data, .sentinel, .sentinel, .pinned], laidTests := true, laidLooks := .later }
def FnScriptUptoCardSaid : Prop := Claim7.holds Tryz.pinned (.plain (OpenSpec.upto fnScriptSpec)) fnScriptUptoCard

/-- THE SECOND FORM's CARD OF 'laws.FnConsole'. -/
def fnConsoleUptoCard : Claim7 := { stood := { row := fnConsoleUptoRow, standIns := [], harness := (true, "a50e63e502019ed74fbd8fb097c7dd9b449a3a7a0ad556ec5265ba7c8628d36a"), looks := true }, kinds := [], alts := [], laidByText := true, laidKinds := [.data, .data, .data, .data, .sentinel, .sentinel, .pinned], laidTests := true, laidLooks := .later }
def FnConsoleUptoCardSaid : Prop := Claim7.holds Tryz.pinned (.plain (OpenSpec.upto fnConsoleSpec)) fnConsoleUptoCard

/-- THE SECOND FORM's CARD OF 'laws.FnReplay'. -/
def fnReplayUptoCard : Claim7 := { stood := { row := fnReplayUptoRow, standIns := [], harness := (true, "a50e63e502019ed74fbd8fb097c7dd9b449a3a7a0ad556ec5265ba7c8628d36a"), looks := true }, kinds := [], alts := [], laidByText := true, laidKinds := [.data, .data, .data, .data, .sentinel, .sentinel, .pinned], laidTests := true, laidLooks := .later }
def FnReplayUptoCardSaid : Prop := Claim7.holds Tryz.pinned (.plain (OpenSpec.upto fnReplaySpec)) fnReplayUptoCard
end Rows
end Go.Proofs.YtdhckhjphmjniaaGreatDoor
