/-
  No cell of these rows narrows 'for every input' (looked for: loops, veiled, ifaces, maps, wideKeys, modest, calm, conditions, laid).
  DERIVED. THE GIVEN ROWS OF THIS SEAT. 5 by the template 'for every input the law returns true; each argument reads behind the call as it read before'; 0 by the template 'total and deterministic' (their statements: YtehijimgenicfaaTotals.lean).
  GIVEN WITH THE SEED: the statements are not yours to turn. If you find one false, say at which input.
  Laid BY PROGRAM, IN A SANDBOX (cutbox-rows.mjs): the forced cells as the released guide's own fill.sh prints them over the translation 0d76d34080876ffa… (all of the seat's roots in one cut). By AI agents, Wed Nov 11 2026. No macro, syntax, notation, axiom, sorry.
-/
import Derived.Test.YtehijimgenicfaaChecked
import GoSem.Claim
import GoSem.ClaimJoined
import GoSem.ClaimMapViews
import Derived.JoinedTies
import Derived.KernelRfl
namespace Go.Proofs.Ytehijimgenicfaa
/- THE CELL 'sum', in the pinned program and in every row, IS THE sha256 OF THE DUMP (.gsa) THAT YtehijimgenicfaaProg.lean LOADS. Nothing in Lean hashes anything: it is a label: what it is worth is what the hold of that sum in a sandbox is worth. -/
noncomputable def Try.pinned : Pinned := { name := "ytehijimgenicfaa", sum := "0d76d34080876ffad5d8e77225edd14a4582cfe539c8517d9b44b7c744d1ee3a", checked := Try.checked }
namespace Rows
def none {H : Type} : Left H := { results := [], args := [] }

/-- 'laws.FnExactAreSettings': WHATEVER THE INPUT: true; the input reads as it did. -/
def fnExactAreSettingsSpec : ChangeSpec := { name := "fnExactAreSettings", fn := fun _ => fun
  | [d] => { results := [.lit (.bool true)], args := [d] }
  | _ => none }
def fnExactAreSettingsRow : OpenClaim := { program := "ytehijimgenicfaa", sum := "0d76d34080876ffad5d8e77225edd14a4582cfe539c8517d9b44b7c744d1ee3a", func := "loop.example/g00843/laws.FnExactAreSettings", spec := "fnExactAreSettings", unfollowed := true, recurses := true, apart := false }
def FnExactAreSettingsSaid : Prop := fnExactAreSettingsRow.holds Try.pinned (OpenSpec.ofChange fnExactAreSettingsSpec)

/-- ITS FALSE NEIGHBOUR: 'it returns false'. Refute it at one input. -/
def fnExactAreSettingsWrong : ChangeSpec := { name := "fnExactAreSettings", fn := fun _ => fun
  | [d] => { results := [.lit (.bool false)], args := [d] }
  | _ => none }
def FnExactAreSettingsWrongFalsely : Prop := fnExactAreSettingsRow.holds Try.pinned (OpenSpec.ofChange fnExactAreSettingsWrong)

/-- 'laws.FnExactFreeFrames': WHATEVER THE INPUT: true; the input reads as it did. -/
def fnExactFreeFramesSpec : ChangeSpec := { name := "fnExactFreeFrames", fn := fun _ => fun
  | [d] => { results := [.lit (.bool true)], args := [d] }
  | _ => none }
def fnExactFreeFramesRow : OpenClaim := { program := "ytehijimgenicfaa", sum := "0d76d34080876ffad5d8e77225edd14a4582cfe539c8517d9b44b7c744d1ee3a", func := "loop.example/g00843/laws.FnExactFreeFrames", spec := "fnExactFreeFrames", unfollowed := true, recurses := true, apart := false }
def FnExactFreeFramesSaid : Prop := fnExactFreeFramesRow.holds Try.pinned (OpenSpec.ofChange fnExactFreeFramesSpec)

/-- ITS FALSE NEIGHBOUR: 'it returns false'. Refute it at one input. -/
def fnExactFreeFramesWrong : ChangeSpec := { name := "fnExactFreeFrames", fn := fun _ => fun
  | [d] => { results := [.lit (.bool false)], args := [d] }
  | _ => none }
def FnExactFreeFramesWrongFalsely : Prop := fnExactFreeFramesRow.holds Try.pinned (OpenSpec.ofChange fnExactFreeFramesWrong)

/-- 'laws.FnExactDropSetting': WHATEVER THE INPUT: true; the input reads as it did. -/
def fnExactDropSettingSpec : ChangeSpec := { name := "fnExactDropSetting", fn := fun _ => fun
  | [d1, d2] => { results := [.lit (.bool true)], args := [d1, d2] }
  | _ => none }
def fnExactDropSettingRow : OpenClaim := { program := "ytehijimgenicfaa", sum := "0d76d34080876ffad5d8e77225edd14a4582cfe539c8517d9b44b7c744d1ee3a", func := "loop.example/g00843/laws.FnExactDropSetting", spec := "fnExactDropSetting", unfollowed := true, recurses := true, apart := false }
def FnExactDropSettingSaid : Prop := fnExactDropSettingRow.holds Try.pinned (OpenSpec.ofChange fnExactDropSettingSpec)

/-- ITS FALSE NEIGHBOUR: 'it returns false'. Refute it at one input. -/
def fnExactDropSettingWrong : ChangeSpec := { name := "fnExactDropSetting", fn := fun _ => fun
  | [d1, d2] => { results := [.lit (.bool false)], args := [d1, d2] }
  | _ => none }
def FnExactDropSettingWrongFalsely : Prop := fnExactDropSettingRow.holds Try.pinned (OpenSpec.ofChange fnExactDropSettingWrong)

/-- 'laws.FnExactPutSetting': WHATEVER THE INPUT: true; the input reads as it did. -/
def fnExactPutSettingSpec : ChangeSpec := { name := "fnExactPutSetting", fn := fun _ => fun
  | [d1, d2] => { results := [.lit (.bool true)], args := [d1, d2] }
  | _ => none }
def fnExactPutSettingRow : OpenClaim := { program := "ytehijimgenicfaa", sum := "0d76d34080876ffad5d8e77225edd14a4582cfe539c8517d9b44b7c744d1ee3a", func := "loop.example/g00843/laws.FnExactPutSetting", spec := "fnExactPutSetting", inPlace := ["slices.overlaps[loop.example/g00843/impl.Setting]"], unfollowed := true, recurses := true, apart := false }
def FnExactPutSettingSaid : Prop := fnExactPutSettingRow.holds Try.pinned (OpenSpec.ofChange fnExactPutSettingSpec)

/-- ITS FALSE NEIGHBOUR: 'it returns false'. Refute it at one input. -/
def fnExactPutSettingWrong : ChangeSpec := { name := "fnExactPutSetting", fn := fun _ => fun
  | [d1, d2] => { results := [.lit (.bool false)], args := [d1, d2] }
  | _ => none }
def FnExactPutSettingWrongFalsely : Prop := fnExactPutSettingRow.holds Try.pinned (OpenSpec.ofChange fnExactPutSettingWrong)

/-- 'laws.FnSettingLists': WHATEVER THE INPUT: true; the input reads as it did. -/
def fnSettingListsSpec : ChangeSpec := { name := "fnSettingLists", fn := fun _ => fun
  | [d] => { results := [.lit (.bool true)], args := [d] }
  | _ => none }
def fnSettingListsRow : OpenClaim := { program := "ytehijimgenicfaa", sum := "0d76d34080876ffad5d8e77225edd14a4582cfe539c8517d9b44b7c744d1ee3a", func := "loop.example/g00843/laws.FnSettingLists", spec := "fnSettingLists", inPlace := ["slices.overlaps[loop.example/g00843/impl.Setting]"], unfollowed := true, recurses := true, apart := false }
def FnSettingListsSaid : Prop := fnSettingListsRow.holds Try.pinned (OpenSpec.ofChange fnSettingListsSpec)

/-- ITS FALSE NEIGHBOUR: 'it returns false'. Refute it at one input. -/
def fnSettingListsWrong : ChangeSpec := { name := "fnSettingLists", fn := fun _ => fun
  | [d] => { results := [.lit (.bool false)], args := [d] }
  | _ => none }
def FnSettingListsWrongFalsely : Prop := fnSettingListsRow.holds Try.pinned (OpenSpec.ofChange fnSettingListsWrong)

/- THE SECOND FORM. 'bulk': how many values and letters a reading holds, each counted each time it is reached (what is shared counts as often as it is met; a slice's spare places count too). A statement '..UptoSaid' is the law's where the arguments, and the package variables that the reading takes, are together of bulk at most 1048576: NARROWER than '..Said'. Prove '..Said' where nothing that the law and all that it calls make is longer than what came in: it says more and counts as full. Else prove '..UptoSaid'. A law counts once. -/
mutual
def uptoBulk {H : Type} : DataW H → Nat
  | .lit (.string bytes) => bytes.length + 1
  | .lit _ => 1
  | .nil => 1
  | .ptr d => uptoBulk d + 1
  | .slice elems spare => uptoBulkAll elems + uptoBulkAll spare + 1
  | .agg parts => uptoBulkAll parts + 1
  | .iface _ d => uptoBulk d + 1
  | .map entries => uptoBulkEntries entries + 1
  | .held _ => 1
def uptoBulkAll {H : Type} : List (DataW H) → Nat
  | [] => 0
  | d :: r => uptoBulk d + uptoBulkAll r
def uptoBulkEntries {H : Type} : List (Lit × DataW H) → Nat
  | [] => 0
  | x :: r => uptoBulkEntry x + uptoBulkEntries r
def uptoBulkEntry {H : Type} : Lit × DataW H → Nat
  | (.string bytes, d) => bytes.length + uptoBulk d + 1
  | (_, d) => uptoBulk d + 1
 end
def uptoSmall : (H : Type) → List (DataW H) → Bool := fun _ ds => decide (uptoBulkAll ds ≤ 1048576)
def OpenSpec.upto (s : _root_.Go.ChangeSpec) : _root_.Go.OpenSpec := { _root_.Go.OpenSpec.ofChange s with cond := some uptoSmall }

/-- 'laws.FnExactAreSettings', WHERE WHAT IT READS IS OF BULK AT MOST 1048576: true; the input reads as it did. -/
def fnExactAreSettingsUptoRow : OpenClaim := { program := "ytehijimgenicfaa", sum := "0d76d34080876ffad5d8e77225edd14a4582cfe539c8517d9b44b7c744d1ee3a", func := "loop.example/g00843/laws.FnExactAreSettings", spec := "fnExactAreSettings", unfollowed := true, recurses := true, apart := false, narrowed := true }
def FnExactAreSettingsUptoSaid : Prop := fnExactAreSettingsUptoRow.holds Try.pinned (OpenSpec.upto fnExactAreSettingsSpec)

/-- 'laws.FnExactFreeFrames', WHERE WHAT IT READS IS OF BULK AT MOST 1048576: true; the input reads as it did. -/
def fnExactFreeFramesUptoRow : OpenClaim := { program := "ytehijimgenicfaa", sum := "0d76d34080876ffad5d8e77225edd14a4582cfe539c8517d9b44b7c744d1ee3a", func := "loop.example/g00843/laws.FnExactFreeFrames", spec := "fnExactFreeFrames", unfollowed := true, recurses := true, apart := false, narrowed := true }
def FnExactFreeFramesUptoSaid : Prop := fnExactFreeFramesUptoRow.holds Try.pinned (OpenSpec.upto fnExactFreeFramesSpec)

/-- 'laws.FnExactDropSetting', WHERE WHAT IT READS IS OF BULK AT MOST 1048576: true; the input reads as it did. -/
def fnExactDropSettingUptoRow : OpenClaim := { program := "ytehijimgenicfaa", sum := "0d76d34080876ffad5d8e77225edd14a4582cfe539c8517d9b44b7c744d1ee3a", func := "loop.example/g00843/laws.FnExactDropSetting", spec := "fnExactDropSetting", unfollowed := true, recurses := true, apart := false, narrowed := true }
def FnExactDropSettingUptoSaid : Prop := fnExactDropSettingUptoRow.holds Try.pinned (OpenSpec.upto fnExactDropSettingSpec)

/-- 'laws.FnExactPutSetting', WHERE WHAT IT READS IS OF BULK AT MOST 1048576: true; the input reads as it did. -/
def fnExactPutSettingUptoRow : OpenClaim := { program := "ytehijimgenicfaa", sum := "0d76d34080876ffad5d8e77225edd14a4582cfe539c8517d9b44b7c744d1ee3a", func := "loop.example/g00843/laws.FnExactPutSetting", spec := "fnExactPutSetting", inPlace := ["slices.overlaps[loop.example/g00843/impl.Setting]"], unfollowed := true, recurses := true, apart := false, narrowed := true }
def FnExactPutSettingUptoSaid : Prop := fnExactPutSettingUptoRow.holds Try.pinned (OpenSpec.upto fnExactPutSettingSpec)

/-- 'laws.FnSettingLists', WHERE WHAT IT READS IS OF BULK AT MOST 1048576: true; the input reads as it did. -/
def fnSettingListsUptoRow : OpenClaim := { program := "ytehijimgenicfaa", sum := "0d76d34080876ffad5d8e77225edd14a4582cfe539c8517d9b44b7c744d1ee3a", func := "loop.example/g00843/laws.FnSettingLists", spec := "fnSettingLists", inPlace := ["slices.overlaps[loop.example/g00843/impl.Setting]"], unfollowed := true, recurses := true, apart := false, narrowed := true }
def FnSettingListsUptoSaid : Prop := fnSettingListsUptoRow.holds Try.pinned (OpenSpec.upto fnSettingListsSpec)

end Rows
end Go.Proofs.Ytehijimgenicfaa
