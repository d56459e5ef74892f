/-
  No cell of these rows narrows 'for every input' (looked for: loops, veiled, ifaces, maps, wideKeys, modest, calm, conditions, laid).
  DERIVED. THE GIVEN ROWS OF THIS SEAT. 12 by the template 'for every input the law returns true; each argument reads behind the call as it read before'; 0 by the template 'total and deterministic' (their statements: YteplehpcplbioaaTotals.lean).
  GIVEN WITH THE SEED: the statements are not yours to turn. If you find one false, say at which input.
  Laid BY PROGRAM, IN A SANDBOX (cutbox-rows.mjs): the forced cells as the released guide's own fill.sh prints them over the translation d1bab7e89bb159d5… (all of the seat's roots in one cut). By AI agents, Wed Nov 11 2026. No macro, syntax, notation, axiom, sorry.
-/
import Derived.Test.YteplehpcplbioaaChecked
import GoSem.Claim
import GoSem.ClaimJoined
import GoSem.ClaimMapViews
import Derived.JoinedTies
import Derived.KernelRfl
namespace Go.Proofs.Yteplehpcplbioaa
/- THE CELL 'sum', in the pinned program and in every row, IS THE sha256 OF THE DUMP (.gsa) THAT YteplehpcplbioaaProg.lean LOADS. Nothing in Lean hashes anything: it is a label: what it is worth is what the hold of that sum in a sandbox is worth. -/
noncomputable def Try.pinned : Pinned := { name := "yteplehpcplbioaa", sum := "d1bab7e89bb159d5909df535c3c4baf5400244b0e8de2b0875ca82864e8ed4d3", checked := Try.checked }
namespace Rows
def none {H : Type} : Left H := { results := [], args := [] }

/-- 'laws.FnExactNextAllowed': WHATEVER THE INPUT: true; the input reads as it did. -/
def fnExactNextAllowedSpec : ChangeSpec := { name := "fnExactNextAllowed", fn := fun _ => fun
  | [d1, d2] => { results := [.lit (.bool true)], args := [d1, d2] }
  | _ => none }
def fnExactNextAllowedRow : OpenClaim := { program := "yteplehpcplbioaa", sum := "d1bab7e89bb159d5909df535c3c4baf5400244b0e8de2b0875ca82864e8ed4d3", func := "loop.example/g00843/laws.FnExactNextAllowed", spec := "fnExactNextAllowed", apart := false }
def FnExactNextAllowedSaid : Prop := fnExactNextAllowedRow.holds Try.pinned (OpenSpec.ofChange fnExactNextAllowedSpec)

/-- ITS FALSE NEIGHBOUR: 'it returns false'. Refute it at one input. -/
def fnExactNextAllowedWrong : ChangeSpec := { name := "fnExactNextAllowed", fn := fun _ => fun
  | [d1, d2] => { results := [.lit (.bool false)], args := [d1, d2] }
  | _ => none }
def FnExactNextAllowedWrongFalsely : Prop := fnExactNextAllowedRow.holds Try.pinned (OpenSpec.ofChange fnExactNextAllowedWrong)

/-- 'laws.FnExactTokensBy': WHATEVER THE INPUT: true; the input reads as it did. -/
def fnExactTokensBySpec : ChangeSpec := { name := "fnExactTokensBy", fn := fun _ => fun
  | [d1, d2] => { results := [.lit (.bool true)], args := [d1, d2] }
  | _ => none }
def fnExactTokensByRow : OpenClaim := { program := "yteplehpcplbioaa", sum := "d1bab7e89bb159d5909df535c3c4baf5400244b0e8de2b0875ca82864e8ed4d3", func := "loop.example/g00843/laws.FnExactTokensBy", spec := "fnExactTokensBy", apart := false }
def FnExactTokensBySaid : Prop := fnExactTokensByRow.holds Try.pinned (OpenSpec.ofChange fnExactTokensBySpec)

/-- ITS FALSE NEIGHBOUR: 'it returns false'. Refute it at one input. -/
def fnExactTokensByWrong : ChangeSpec := { name := "fnExactTokensBy", fn := fun _ => fun
  | [d1, d2] => { results := [.lit (.bool false)], args := [d1, d2] }
  | _ => none }
def FnExactTokensByWrongFalsely : Prop := fnExactTokensByRow.holds Try.pinned (OpenSpec.ofChange fnExactTokensByWrong)

/-- 'laws.FnExactBringTo': WHATEVER THE INPUT: true; the input reads as it did. -/
def fnExactBringToSpec : ChangeSpec := { name := "fnExactBringTo", fn := fun _ => fun
  | [d1, d2] => { results := [.lit (.bool true)], args := [d1, d2] }
  | _ => none }
def fnExactBringToRow : OpenClaim := { program := "yteplehpcplbioaa", sum := "d1bab7e89bb159d5909df535c3c4baf5400244b0e8de2b0875ca82864e8ed4d3", func := "loop.example/g00843/laws.FnExactBringTo", spec := "fnExactBringTo", apart := false }
def FnExactBringToSaid : Prop := fnExactBringToRow.holds Try.pinned (OpenSpec.ofChange fnExactBringToSpec)

/-- ITS FALSE NEIGHBOUR: 'it returns false'. Refute it at one input. -/
def fnExactBringToWrong : ChangeSpec := { name := "fnExactBringTo", fn := fun _ => fun
  | [d1, d2] => { results := [.lit (.bool false)], args := [d1, d2] }
  | _ => none }
def FnExactBringToWrongFalsely : Prop := fnExactBringToRow.holds Try.pinned (OpenSpec.ofChange fnExactBringToWrong)

/-- 'laws.FnExactAreBuckets': WHATEVER THE INPUT: true; the input reads as it did. -/
def fnExactAreBucketsSpec : ChangeSpec := { name := "fnExactAreBuckets", fn := fun _ => fun
  | [d] => { results := [.lit (.bool true)], args := [d] }
  | _ => none }
def fnExactAreBucketsRow : OpenClaim := { program := "yteplehpcplbioaa", sum := "d1bab7e89bb159d5909df535c3c4baf5400244b0e8de2b0875ca82864e8ed4d3", func := "loop.example/g00843/laws.FnExactAreBuckets", spec := "fnExactAreBuckets", apart := false }
def FnExactAreBucketsSaid : Prop := fnExactAreBucketsRow.holds Try.pinned (OpenSpec.ofChange fnExactAreBucketsSpec)

/-- ITS FALSE NEIGHBOUR: 'it returns false'. Refute it at one input. -/
def fnExactAreBucketsWrong : ChangeSpec := { name := "fnExactAreBuckets", fn := fun _ => fun
  | [d] => { results := [.lit (.bool false)], args := [d] }
  | _ => none }
def FnExactAreBucketsWrongFalsely : Prop := fnExactAreBucketsRow.holds Try.pinned (OpenSpec.ofChange fnExactAreBucketsWrong)

/-- 'laws.FnExactUseBucket': WHATEVER THE INPUT: true; the input reads as it did. -/
def fnExactUseBucketSpec : ChangeSpec := { name := "fnExactUseBucket", fn := fun _ => fun
  | [d1, d2, d3] => { results := [.lit (.bool true)], args := [d1, d2, d3] }
  | _ => none }
def fnExactUseBucketRow : OpenClaim := { program := "yteplehpcplbioaa", sum := "d1bab7e89bb159d5909df535c3c4baf5400244b0e8de2b0875ca82864e8ed4d3", func := "loop.example/g00843/laws.FnExactUseBucket", spec := "fnExactUseBucket", apart := false }
def FnExactUseBucketSaid : Prop := fnExactUseBucketRow.holds Try.pinned (OpenSpec.ofChange fnExactUseBucketSpec)

/-- ITS FALSE NEIGHBOUR: 'it returns false'. Refute it at one input. -/
def fnExactUseBucketWrong : ChangeSpec := { name := "fnExactUseBucket", fn := fun _ => fun
  | [d1, d2, d3] => { results := [.lit (.bool false)], args := [d1, d2, d3] }
  | _ => none }
def FnExactUseBucketWrongFalsely : Prop := fnExactUseBucketRow.holds Try.pinned (OpenSpec.ofChange fnExactUseBucketWrong)

/-- 'laws.FnExactScaleRates': WHATEVER THE INPUT: true; the input reads as it did. -/
def fnExactScaleRatesSpec : ChangeSpec := { name := "fnExactScaleRates", fn := fun _ => fun
  | [d1, d2, d3] => { results := [.lit (.bool true)], args := [d1, d2, d3] }
  | _ => none }
def fnExactScaleRatesRow : OpenClaim := { program := "yteplehpcplbioaa", sum := "d1bab7e89bb159d5909df535c3c4baf5400244b0e8de2b0875ca82864e8ed4d3", func := "loop.example/g00843/laws.FnExactScaleRates", spec := "fnExactScaleRates", apart := false }
def FnExactScaleRatesSaid : Prop := fnExactScaleRatesRow.holds Try.pinned (OpenSpec.ofChange fnExactScaleRatesSpec)

/-- ITS FALSE NEIGHBOUR: 'it returns false'. Refute it at one input. -/
def fnExactScaleRatesWrong : ChangeSpec := { name := "fnExactScaleRates", fn := fun _ => fun
  | [d1, d2, d3] => { results := [.lit (.bool false)], args := [d1, d2, d3] }
  | _ => none }
def FnExactScaleRatesWrongFalsely : Prop := fnExactScaleRatesRow.holds Try.pinned (OpenSpec.ofChange fnExactScaleRatesWrong)

/-- 'laws.FnExactRunUses': WHATEVER THE INPUT: true; the input reads as it did. -/
def fnExactRunUsesSpec : ChangeSpec := { name := "fnExactRunUses", fn := fun _ => fun
  | [d1, d2, d3] => { results := [.lit (.bool true)], args := [d1, d2, d3] }
  | _ => none }
def fnExactRunUsesRow : OpenClaim := { program := "yteplehpcplbioaa", sum := "d1bab7e89bb159d5909df535c3c4baf5400244b0e8de2b0875ca82864e8ed4d3", func := "loop.example/g00843/laws.FnExactRunUses", spec := "fnExactRunUses", apart := false }
def FnExactRunUsesSaid : Prop := fnExactRunUsesRow.holds Try.pinned (OpenSpec.ofChange fnExactRunUsesSpec)

/-- ITS FALSE NEIGHBOUR: 'it returns false'. Refute it at one input. -/
def fnExactRunUsesWrong : ChangeSpec := { name := "fnExactRunUses", fn := fun _ => fun
  | [d1, d2, d3] => { results := [.lit (.bool false)], args := [d1, d2, d3] }
  | _ => none }
def FnExactRunUsesWrongFalsely : Prop := fnExactRunUsesRow.holds Try.pinned (OpenSpec.ofChange fnExactRunUsesWrong)

/-- 'laws.FnExactUseOf': WHATEVER THE INPUT: true; the input reads as it did. -/
def fnExactUseOfSpec : ChangeSpec := { name := "fnExactUseOf", fn := fun _ => fun
  | [d1, d2, d3, d4] => { results := [.lit (.bool true)], args := [d1, d2, d3, d4] }
  | _ => none }
def fnExactUseOfRow : OpenClaim := { program := "yteplehpcplbioaa", sum := "d1bab7e89bb159d5909df535c3c4baf5400244b0e8de2b0875ca82864e8ed4d3", func := "loop.example/g00843/laws.FnExactUseOf", spec := "fnExactUseOf", unfollowed := true, recurses := true, apart := false }
def FnExactUseOfSaid : Prop := fnExactUseOfRow.holds Try.pinned (OpenSpec.ofChange fnExactUseOfSpec)

/-- ITS FALSE NEIGHBOUR: 'it returns false'. Refute it at one input. -/
def fnExactUseOfWrong : ChangeSpec := { name := "fnExactUseOf", fn := fun _ => fun
  | [d1, d2, d3, d4] => { results := [.lit (.bool false)], args := [d1, d2, d3, d4] }
  | _ => none }
def FnExactUseOfWrongFalsely : Prop := fnExactUseOfRow.holds Try.pinned (OpenSpec.ofChange fnExactUseOfWrong)

/-- 'laws.FnExactWaitingGuests': WHATEVER THE INPUT: true; the input reads as it did. -/
def fnExactWaitingGuestsSpec : ChangeSpec := { name := "fnExactWaitingGuests", fn := fun _ => fun
  | [d1, d2, d3] => { results := [.lit (.bool true)], args := [d1, d2, d3] }
  | _ => none }
def fnExactWaitingGuestsRow : OpenClaim := { program := "yteplehpcplbioaa", sum := "d1bab7e89bb159d5909df535c3c4baf5400244b0e8de2b0875ca82864e8ed4d3", func := "loop.example/g00843/laws.FnExactWaitingGuests", spec := "fnExactWaitingGuests", apart := false }
def FnExactWaitingGuestsSaid : Prop := fnExactWaitingGuestsRow.holds Try.pinned (OpenSpec.ofChange fnExactWaitingGuestsSpec)

/-- ITS FALSE NEIGHBOUR: 'it returns false'. Refute it at one input. -/
def fnExactWaitingGuestsWrong : ChangeSpec := { name := "fnExactWaitingGuests", fn := fun _ => fun
  | [d1, d2, d3] => { results := [.lit (.bool false)], args := [d1, d2, d3] }
  | _ => none }
def FnExactWaitingGuestsWrongFalsely : Prop := fnExactWaitingGuestsRow.holds Try.pinned (OpenSpec.ofChange fnExactWaitingGuestsWrong)

/-- 'laws.FnBuckets': WHATEVER THE INPUT: true; the input reads as it did. -/
def fnBucketsSpec : ChangeSpec := { name := "fnBuckets", fn := fun _ => fun
  | [d] => { results := [.lit (.bool true)], args := [d] }
  | _ => none }
def fnBucketsRow : OpenClaim := { program := "yteplehpcplbioaa", sum := "d1bab7e89bb159d5909df535c3c4baf5400244b0e8de2b0875ca82864e8ed4d3", func := "loop.example/g00843/laws.FnBuckets", spec := "fnBuckets", apart := false }
def FnBucketsSaid : Prop := fnBucketsRow.holds Try.pinned (OpenSpec.ofChange fnBucketsSpec)

/-- ITS FALSE NEIGHBOUR: 'it returns false'. Refute it at one input. -/
def fnBucketsWrong : ChangeSpec := { name := "fnBuckets", fn := fun _ => fun
  | [d] => { results := [.lit (.bool false)], args := [d] }
  | _ => none }
def FnBucketsWrongFalsely : Prop := fnBucketsRow.holds Try.pinned (OpenSpec.ofChange fnBucketsWrong)

/-- 'laws.FnBucketLists': WHATEVER THE INPUT: true; the input reads as it did. -/
def fnBucketListsSpec : ChangeSpec := { name := "fnBucketLists", fn := fun _ => fun
  | [d] => { results := [.lit (.bool true)], args := [d] }
  | _ => none }
def fnBucketListsRow : OpenClaim := { program := "yteplehpcplbioaa", sum := "d1bab7e89bb159d5909df535c3c4baf5400244b0e8de2b0875ca82864e8ed4d3", func := "loop.example/g00843/laws.FnBucketLists", spec := "fnBucketLists", unfollowed := true, recurses := true, apart := false }
def FnBucketListsSaid : Prop := fnBucketListsRow.holds Try.pinned (OpenSpec.ofChange fnBucketListsSpec)

/-- ITS FALSE NEIGHBOUR: 'it returns false'. Refute it at one input. -/
def fnBucketListsWrong : ChangeSpec := { name := "fnBucketLists", fn := fun _ => fun
  | [d] => { results := [.lit (.bool false)], args := [d] }
  | _ => none }
def FnBucketListsWrongFalsely : Prop := fnBucketListsRow.holds Try.pinned (OpenSpec.ofChange fnBucketListsWrong)

/-- 'laws.FnExactIsSetting': WHATEVER THE INPUT: true; the input reads as it did. -/
def fnExactIsSettingSpec : ChangeSpec := { name := "fnExactIsSetting", fn := fun _ => fun
  | [d] => { results := [.lit (.bool true)], args := [d] }
  | _ => none }
def fnExactIsSettingRow : OpenClaim := { program := "yteplehpcplbioaa", sum := "d1bab7e89bb159d5909df535c3c4baf5400244b0e8de2b0875ca82864e8ed4d3", func := "loop.example/g00843/laws.FnExactIsSetting", spec := "fnExactIsSetting", apart := false }
def FnExactIsSettingSaid : Prop := fnExactIsSettingRow.holds Try.pinned (OpenSpec.ofChange fnExactIsSettingSpec)

/-- ITS FALSE NEIGHBOUR: 'it returns false'. Refute it at one input. -/
def fnExactIsSettingWrong : ChangeSpec := { name := "fnExactIsSetting", fn := fun _ => fun
  | [d] => { results := [.lit (.bool false)], args := [d] }
  | _ => none }
def FnExactIsSettingWrongFalsely : Prop := fnExactIsSettingRow.holds Try.pinned (OpenSpec.ofChange fnExactIsSettingWrong)

/- THE SECOND FORM. 'bulk': how many values and letters a reading holds, each counted each time it is reached (what is shared counts as often as it is met; a slice's spare places count too). A statement '..UptoSaid' is the law's where the arguments, and the package variables that the reading takes, are together of bulk at most 1048576: NARROWER than '..Said'. Prove '..Said' where nothing that the law and all that it calls make is longer than what came in: it says more and counts as full. Else prove '..UptoSaid'. A law counts once. -/
mutual
def uptoBulk {H : Type} : DataW H → Nat
  | .lit (.string bytes) => bytes.length + 1
  | .lit _ => 1
  | .nil => 1
  | .ptr d => uptoBulk d + 1
  | .slice elems spare => uptoBulkAll elems + uptoBulkAll spare + 1
  | .agg parts => uptoBulkAll parts + 1
  | .iface _ d => uptoBulk d + 1
  | .map entries => uptoBulkEntries entries + 1
  | .held _ => 1
def uptoBulkAll {H : Type} : List (DataW H) → Nat
  | [] => 0
  | d :: r => uptoBulk d + uptoBulkAll r
def uptoBulkEntries {H : Type} : List (Lit × DataW H) → Nat
  | [] => 0
  | x :: r => uptoBulkEntry x + uptoBulkEntries r
def uptoBulkEntry {H : Type} : Lit × DataW H → Nat
  | (.string bytes, d) => bytes.length + uptoBulk d + 1
  | (_, d) => uptoBulk d + 1
 end
def uptoSmall : (H : Type) → List (DataW H) → Bool := fun _ ds => decide (uptoBulkAll ds ≤ 1048576)
def OpenSpec.upto (s : _root_.Go.ChangeSpec) : _root_.Go.OpenSpec := { _root_.Go.OpenSpec.ofChange s with cond := some uptoSmall }

/-- 'laws.FnExactNextAllowed', WHERE WHAT IT READS IS OF BULK AT MOST 1048576: true; the input reads as it did. -/
def fnExactNextAllowedUptoRow : OpenClaim := { program := "yteplehpcplbioaa", sum := "d1bab7e89bb159d5909df535c3c4baf5400244b0e8de2b0875ca82864e8ed4d3", func := "loop.example/g00843/laws.FnExactNextAllowed", spec := "fnExactNextAllowed", apart := false, narrowed := true }
def FnExactNextAllowedUptoSaid : Prop := fnExactNextAllowedUptoRow.holds Try.pinned (OpenSpec.upto fnExactNextAllowedSpec)

/-- 'laws.FnExactTokensBy', WHERE WHAT IT READS IS OF BULK AT MOST 1048576: true; the input reads as it did. -/
def fnExactTokensByUptoRow : OpenClaim := { program := "yteplehpcplbioaa", sum := "d1bab7e89bb159d5909df535c3c4baf5400244b0e8de2b0875ca82864e8ed4d3", func := "loop.example/g00843/laws.FnExactTokensBy", spec := "fnExactTokensBy", apart := false, narrowed := true }
def FnExactTokensByUptoSaid : Prop := fnExactTokensByUptoRow.holds Try.pinned (OpenSpec.upto fnExactTokensBySpec)

/-- 'laws.FnExactBringTo', WHERE WHAT IT READS IS OF BULK AT MOST 1048576: true; the input reads as it did. -/
def fnExactBringToUptoRow : OpenClaim := { program := "yteplehpcplbioaa", sum := "d1bab7e89bb159d5909df535c3c4baf5400244b0e8de2b0875ca82864e8ed4d3", func := "loop.example/g00843/laws.FnExactBringTo", spec := "fnExactBringTo", apart := false, narrowed := true }
def FnExactBringToUptoSaid : Prop := fnExactBringToUptoRow.holds Try.pinned (OpenSpec.upto fnExactBringToSpec)

/-- 'laws.FnExactAreBuckets', WHERE WHAT IT READS IS OF BULK AT MOST 1048576: true; the input reads as it did. -/
def fnExactAreBucketsUptoRow : OpenClaim := { program := "yteplehpcplbioaa", sum := "d1bab7e89bb159d5909df535c3c4baf5400244b0e8de2b0875ca82864e8ed4d3", func := "loop.example/g00843/laws.FnExactAreBuckets", spec := "fnExactAreBuckets", apart := false, narrowed := true }
def FnExactAreBucketsUptoSaid : Prop := fnExactAreBucketsUptoRow.holds Try.pinned (OpenSpec.upto fnExactAreBucketsSpec)

/-- 'laws.FnExactUseBucket', WHERE WHAT IT READS IS OF BULK AT MOST 1048576: true; the input reads as it did. -/
def fnExactUseBucketUptoRow : OpenClaim := { program := "yteplehpcplbioaa", sum := "d1bab7e89bb159d5909df535c3c4baf5400244b0e8de2b0875ca82864e8ed4d3", func := "loop.example/g00843/laws.FnExactUseBucket", spec := "fnExactUseBucket", apart := false, narrowed := true }
def FnExactUseBucketUptoSaid : Prop := fnExactUseBucketUptoRow.holds Try.pinned (OpenSpec.upto fnExactUseBucketSpec)

/-- 'laws.FnExactScaleRates', WHERE WHAT IT READS IS OF BULK AT MOST 1048576: true; the input reads as it did. -/
def fnExactScaleRatesUptoRow : OpenClaim := { program := "yteplehpcplbioaa", sum := "d1bab7e89bb159d5909df535c3c4baf5400244b0e8de2b0875ca82864e8ed4d3", func := "loop.example/g00843/laws.FnExactScaleRates", spec := "fnExactScaleRates", apart := false, narrowed := true }
def FnExactScaleRatesUptoSaid : Prop := fnExactScaleRatesUptoRow.holds Try.pinned (OpenSpec.upto fnExactScaleRatesSpec)

/-- 'laws.FnExactRunUses', WHERE WHAT IT READS IS OF BULK AT MOST 1048576: true; the input reads as it did. -/
def fnExactRunUsesUptoRow : OpenClaim := { program := "yteplehpcplbioaa", sum := "d1bab7e89bb159d5909df535c3c4baf5400244b0e8de2b0875ca82864e8ed4d3", func := "loop.example/g00843/laws.FnExactRunUses", spec := "fnExactRunUses", apart := false, narrowed := true }
def FnExactRunUsesUptoSaid : Prop := fnExactRunUsesUptoRow.holds Try.pinned (OpenSpec.upto fnExactRunUsesSpec)

/-- 'laws.FnExactUseOf', WHERE WHAT IT READS IS OF BULK AT MOST 1048576: true; the input reads as it did. -/
def fnExactUseOfUptoRow : OpenClaim := { program := "yteplehpcplbioaa", sum := "d1bab7e89bb159d5909df535c3c4baf5400244b0e8de2b0875ca82864e8ed4d3", func := "loop.example/g00843/laws.FnExactUseOf", spec := "fnExactUseOf", unfollowed := true, recurses := true, apart := false, narrowed := true }
def FnExactUseOfUptoSaid : Prop := fnExactUseOfUptoRow.holds Try.pinned (OpenSpec.upto fnExactUseOfSpec)

/-- 'laws.FnExactWaitingGuests', WHERE WHAT IT READS IS OF BULK AT MOST 1048576: true; the input reads as it did. -/
def fnExactWaitingGuestsUptoRow : OpenClaim := { program := "yteplehpcplbioaa", sum := "d1bab7e89bb159d5909df535c3c4baf5400244b0e8de2b0875ca82864e8ed4d3", func := "loop.example/g00843/laws.FnExactWaitingGuests", spec := "fnExactWaitingGuests", apart := false, narrowed := true }
def FnExactWaitingGuestsUptoSaid : Prop := fnExactWaitingGuestsUptoRow.holds Try.pinned (OpenSpec.upto fnExactWaitingGuestsSpec)

/-- 'laws.FnBuckets', WHERE WHAT IT READS IS OF BULK AT MOST 1048576: true; the input reads as it did. -/
def fnBucketsUptoRow : OpenClaim := { program := "yteplehpcplbioaa", sum := "d1bab7e89bb159d5909df535c3c4baf5400244b0e8de2b0875ca82864e8ed4d3", func := "loop.example/g00843/laws.FnBuckets", spec := "fnBuckets", apart := false, narrowed := true }
def FnBucketsUptoSaid : Prop := fnBucketsUptoRow.holds Try.pinned (OpenSpec.upto fnBucketsSpec)

/-- 'laws.FnBucketLists', WHERE WHAT IT READS IS OF BULK AT MOST 1048576: true; the input reads as it did. -/
def fnBucketListsUptoRow : OpenClaim := { program := "yteplehpcplbioaa", sum := "d1bab7e89bb159d5909df535c3c4baf5400244b0e8de2b0875ca82864e8ed4d3", func := "loop.example/g00843/laws.FnBucketLists", spec := "fnBucketLists", unfollowed := true, recurses := true, apart := false, narrowed := true }
def FnBucketListsUptoSaid : Prop := fnBucketListsUptoRow.holds Try.pinned (OpenSpec.upto fnBucketListsSpec)

/-- 'laws.FnExactIsSetting', WHERE WHAT IT READS IS OF BULK AT MOST 1048576: true; the input reads as it did. -/
def fnExactIsSettingUptoRow : OpenClaim := { program := "yteplehpcplbioaa", sum := "d1bab7e89bb159d5909df535c3c4baf5400244b0e8de2b0875ca82864e8ed4d3", func := "loop.example/g00843/laws.FnExactIsSetting", spec := "fnExactIsSetting", apart := false, narrowed := true }
def FnExactIsSettingUptoSaid : Prop := fnExactIsSettingUptoRow.holds Try.pinned (OpenSpec.upto fnExactIsSettingSpec)

end Rows
end Go.Proofs.Yteplehpcplbioaa
