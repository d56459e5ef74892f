/-
  DERIVED. GIVEN WITH THE SEED: THE CARDS: each row of YtehijimgenicfaaDoorRows.lean that lists a variable, with what it lists TIED to the program's text (the seventh form; the later family's looks); each row that meets fmt, with fmt's text TOLD by the authors' own Lean function (tested against real Go, not proved from fmt's source: count such statements apart). THE CARD IS WHAT COUNTS. Prove the row's statement (the work); the ties are given (YtehijimgenicfaaDoorTie.lean); close each card by the builder's one call (the guide's Derived/Test/ToyasCard.lean, 'card_holds'). Laid BY PROGRAM, IN A SANDBOX (cutbox-door.mjs). By AI agents, Wed Nov 11 2026. No macro, syntax, notation, axiom, sorry.
-/
import Derived.Test.YtehijimgenicfaaDoorRows
import GoSem.ClaimSeven
namespace Go.Proofs.YtehijimgenicfaaDoor
namespace Rows

/-- THE TIED CARD OF 'laws.FnExactSettingText'. -/
def fnExactSettingTextCard : Claim7 := { stood := { row := fnExactSettingTextRow, standIns := [], harness := (true, "f709f7166cd785006b9a153a41aded318da8dcfac0d3627cb613689039a57090"), looks := true }, kinds := [], alts := [], laidByText := true, laidKinds := [.data, .data, .data], laidTests := true, laidLooks := .later }
def FnExactSettingTextCardSaid : Prop := Claim7.holds Tryd.pinned (.plain (OpenSpec.ofChange fnExactSettingTextSpec)) fnExactSettingTextCard

/-- THE TIED CARD OF 'laws.FnExactSettingsText'. -/
def fnExactSettingsTextCard : Claim7 := { stood := { row := fnExactSettingsTextRow, standIns := [], harness := (true, "f709f7166cd785006b9a153a41aded318da8dcfac0d3627cb613689039a57090"), looks := true }, kinds := [], alts := [], laidByText := true, laidKinds := [.data, .data, .data], laidTests := true, laidLooks := .later }
def FnExactSettingsTextCardSaid : Prop := Claim7.holds Tryd.pinned (.plain (OpenSpec.ofChange fnExactSettingsTextSpec)) fnExactSettingsTextCard

/-- THE TIED CARD OF 'laws.FnExactParseSetting'. -/
def fnExactParseSettingCard : Claim7 := { stood := { row := fnExactParseSettingRow, standIns := [], harness := (true, "f709f7166cd785006b9a153a41aded318da8dcfac0d3627cb613689039a57090"), looks := true }, kinds := [], alts := [], laidByText := true, laidKinds := [.data, .data, .data, .data, .sentinel, .sentinel, .pinned], laidTests := true, laidLooks := .later }
def FnExactParseSettingCardSaid : Prop := Claim7.holds Tryd.pinned (.plain (OpenSpec.ofChange fnExactParseSettingSpec)) fnExactParseSettingCard

/-- THE TIED CARD OF 'laws.FnExactParseSettings'. -/
def fnExactParseSettingsCard : Claim7 := { stood := { row := fnExactParseSettingsRow, standIns := [], harness := (true, "f709f7166cd785006b9a153a41aded318da8dcfac0d3627cb613689039a57090"), looks := true }, kinds := [], alts := [], laidByText := true, laidKinds := [.data, .data, .data, .data, .sentinel, .sentinel, .pinned], laidTests := true, laidLooks := .later }
def FnExactParseSettingsCardSaid : Prop := Claim7.holds Tryd.pinned (.plain (OpenSpec.ofChange fnExactParseSettingsSpec)) fnExactParseSettingsCard

/-- THE TIED CARD OF 'laws.FnSettings'. -/
def fnSettingsCard : Claim7 := { stood := { row := fnSettingsRow, standIns := [], harness := (true, "f709f7166cd785006b9a153a41aded318da8dcfac0d3627cb613689039a57090"), looks := true }, kinds := [], alts := [], laidByText := true, laidKinds := [.data, .data, .data, .data, .sentinel, .sentinel, .pinned], laidTests := true, laidLooks := .later }
def FnSettingsCardSaid : Prop := Claim7.holds Tryd.pinned (.plain (OpenSpec.ofChange fnSettingsSpec)) fnSettingsCard

/-- THE SECOND FORM's CARD OF 'laws.FnExactSettingText'. -/
def fnExactSettingTextUptoCard : Claim7 := { stood := { row := fnExactSettingTextUptoRow, standIns := [], harness := (true, "f709f7166cd785006b9a153a41aded318da8dcfac0d3627cb613689039a57090"), looks := true }, kinds := [], alts := [], laidByText := true, laidKinds := [.data, .data, .data], laidTests := true, laidLooks := .later }
def FnExactSettingTextUptoCardSaid : Prop := Claim7.holds Tryd.pinned (.plain (OpenSpec.upto fnExactSettingTextSpec)) fnExactSettingTextUptoCard

/-- THE SECOND FORM's CARD OF 'laws.FnExactSettingsText'. -/
def fnExactSettingsTextUptoCard : Claim7 := { stood := { row := fnExactSettingsTextUptoRow, standIns := [], harness := (true, "f709f7166cd785006b9a153a41aded318da8dcfac0d3627cb613689039a57090"), looks := true }, kinds := [], alts := [], laidByText := true, laidKinds := [.data, .data, .data], laidTests := true, laidLooks := .later }
def FnExactSettingsTextUptoCardSaid : Prop := Claim7.holds Tryd.pinned (.plain (OpenSpec.upto fnExactSettingsTextSpec)) fnExactSettingsTextUptoCard

/-- THE SECOND FORM's CARD OF 'laws.FnExactParseSetting'. -/
def fnExactParseSettingUptoCard : Claim7 := { stood := { row := fnExactParseSettingUptoRow, standIns := [], harness := (true, "f709f7166cd785006b9a153a41aded318da8dcfac0d3627cb613689039a57090"), looks := true }, kinds := [], alts := [], laidByText := true, laidKinds := [.data, .data, .data, .data, .sentinel, .sentinel, .pinned], laidTests := true, laidLooks := .later }
def FnExactParseSettingUptoCardSaid : Prop := Claim7.holds Tryd.pinned (.plain (OpenSpec.upto fnExactParseSettingSpec)) fnExactParseSettingUptoCard

/-- THE SECOND FORM's CARD OF 'laws.FnExactParseSettings'. -/
def fnExactParseSettingsUptoCard : Claim7 := { stood := { row := fnExactParseSettingsUptoRow, standIns := [], harness := (true, "f709f7166cd785006b9a153a41aded318da8dcfac0d3627cb613689039a57090"), looks := true }, kinds := [], alts := [], laidByText := true, laidKinds := [.data, .data, .data, .data, .sentinel, .sentinel, .pinned], laidTests := true, laidLooks := .later }
def FnExactParseSettingsUptoCardSaid : Prop := Claim7.holds Tryd.pinned (.plain (OpenSpec.upto fnExactParseSettingsSpec)) fnExactParseSettingsUptoCard

/-- THE SECOND FORM's CARD OF 'laws.FnSettings'. -/
def fnSettingsUptoCard : Claim7 := { stood := { row := fnSettingsUptoRow, standIns := [], harness := (true, "f709f7166cd785006b9a153a41aded318da8dcfac0d3627cb613689039a57090"), looks := true }, kinds := [], alts := [], laidByText := true, laidKinds := [.data, .data, .data, .data, .sentinel, .sentinel, .pinned], laidTests := true, laidLooks := .later }
def FnSettingsUptoCardSaid : Prop := Claim7.holds Tryd.pinned (.plain (OpenSpec.upto fnSettingsSpec)) fnSettingsUptoCard
end Rows
end Go.Proofs.YtehijimgenicfaaDoor
