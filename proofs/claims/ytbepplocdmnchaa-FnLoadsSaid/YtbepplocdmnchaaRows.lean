/-
  No cell of these rows narrows 'for every input' (looked for: loops, veiled, ifaces, maps, wideKeys, modest, calm, conditions, laid).
  DERIVED. THE GIVEN ROWS OF THIS SEAT. 12 by the template 'for every input the law returns true; each argument reads behind the call as it read before'; 0 by the template 'total and deterministic' (their statements: YtbepplocdmnchaaTotals.lean).
  GIVEN WITH THE SEED: the statements are not yours to turn. If you find one false, say at which input.
  Laid BY PROGRAM, IN A SANDBOX (cutbox-rows.mjs): the forced cells as the released guide's own fill.sh prints them over the translation c0629a53d1f2de01… (all of the seat's roots in one cut). By AI agents, Wed Nov 11 2026. No macro, syntax, notation, axiom, sorry.
-/
import Derived.Test.YtbepplocdmnchaaChecked
import GoSem.Claim
import GoSem.ClaimJoined
import GoSem.ClaimMapViews
import Derived.JoinedTies
import Derived.KernelRfl
namespace Go.Proofs.Ytbepplocdmnchaa
/- THE CELL 'sum', in the pinned program and in every row, IS THE sha256 OF THE DUMP (.gsa) THAT YtbepplocdmnchaaProg.lean LOADS. Nothing in Lean hashes anything: it is a label: what it is worth is what the hold of that sum in a sandbox is worth. -/
noncomputable def Try.pinned : Pinned := { name := "ytbepplocdmnchaa", sum := "c0629a53d1f2de01f2c30714054327a11ef271001f4282facd91a6decdaa3f9c", checked := Try.checked }
namespace Rows
def none {H : Type} : Left H := { results := [], args := [] }

/-- 'laws.FnExactAreSamples': WHATEVER THE INPUT: true; the input reads as it did. -/
def fnExactAreSamplesSpec : ChangeSpec := { name := "fnExactAreSamples", fn := fun _ => fun
  | [d] => { results := [.lit (.bool true)], args := [d] }
  | _ => none }
def fnExactAreSamplesRow : OpenClaim := { program := "ytbepplocdmnchaa", sum := "c0629a53d1f2de01f2c30714054327a11ef271001f4282facd91a6decdaa3f9c", func := "loop.example/g00843/laws.FnExactAreSamples", spec := "fnExactAreSamples", apart := false }
def FnExactAreSamplesSaid : Prop := fnExactAreSamplesRow.holds Try.pinned (OpenSpec.ofChange fnExactAreSamplesSpec)

/-- ITS FALSE NEIGHBOUR: 'it returns false'. Refute it at one input. -/
def fnExactAreSamplesWrong : ChangeSpec := { name := "fnExactAreSamples", fn := fun _ => fun
  | [d] => { results := [.lit (.bool false)], args := [d] }
  | _ => none }
def FnExactAreSamplesWrongFalsely : Prop := fnExactAreSamplesRow.holds Try.pinned (OpenSpec.ofChange fnExactAreSamplesWrong)

/-- 'laws.FnExactWorstIrq': WHATEVER THE INPUT: true; the input reads as it did. -/
def fnExactWorstIrqSpec : ChangeSpec := { name := "fnExactWorstIrq", fn := fun _ => fun
  | [d] => { results := [.lit (.bool true)], args := [d] }
  | _ => none }
def fnExactWorstIrqRow : OpenClaim := { program := "ytbepplocdmnchaa", sum := "c0629a53d1f2de01f2c30714054327a11ef271001f4282facd91a6decdaa3f9c", func := "loop.example/g00843/laws.FnExactWorstIrq", spec := "fnExactWorstIrq", apart := false }
def FnExactWorstIrqSaid : Prop := fnExactWorstIrqRow.holds Try.pinned (OpenSpec.ofChange fnExactWorstIrqSpec)

/-- ITS FALSE NEIGHBOUR: 'it returns false'. Refute it at one input. -/
def fnExactWorstIrqWrong : ChangeSpec := { name := "fnExactWorstIrq", fn := fun _ => fun
  | [d] => { results := [.lit (.bool false)], args := [d] }
  | _ => none }
def FnExactWorstIrqWrongFalsely : Prop := fnExactWorstIrqRow.holds Try.pinned (OpenSpec.ofChange fnExactWorstIrqWrong)

/-- 'laws.FnExactOutOfOrder': WHATEVER THE INPUT: true; the input reads as it did. -/
def fnExactOutOfOrderSpec : ChangeSpec := { name := "fnExactOutOfOrder", fn := fun _ => fun
  | [d] => { results := [.lit (.bool true)], args := [d] }
  | _ => none }
def fnExactOutOfOrderRow : OpenClaim := { program := "ytbepplocdmnchaa", sum := "c0629a53d1f2de01f2c30714054327a11ef271001f4282facd91a6decdaa3f9c", func := "loop.example/g00843/laws.FnExactOutOfOrder", spec := "fnExactOutOfOrder", unfollowed := true, recurses := true, apart := false }
def FnExactOutOfOrderSaid : Prop := fnExactOutOfOrderRow.holds Try.pinned (OpenSpec.ofChange fnExactOutOfOrderSpec)

/-- ITS FALSE NEIGHBOUR: 'it returns false'. Refute it at one input. -/
def fnExactOutOfOrderWrong : ChangeSpec := { name := "fnExactOutOfOrder", fn := fun _ => fun
  | [d] => { results := [.lit (.bool false)], args := [d] }
  | _ => none }
def FnExactOutOfOrderWrongFalsely : Prop := fnExactOutOfOrderRow.holds Try.pinned (OpenSpec.ofChange fnExactOutOfOrderWrong)

/-- 'laws.FnExactBusiestSpan': WHATEVER THE INPUT: true; the input reads as it did. -/
def fnExactBusiestSpanSpec : ChangeSpec := { name := "fnExactBusiestSpan", fn := fun _ => fun
  | [d1, d2] => { results := [.lit (.bool true)], args := [d1, d2] }
  | _ => none }
def fnExactBusiestSpanRow : OpenClaim := { program := "ytbepplocdmnchaa", sum := "c0629a53d1f2de01f2c30714054327a11ef271001f4282facd91a6decdaa3f9c", func := "loop.example/g00843/laws.FnExactBusiestSpan", spec := "fnExactBusiestSpan", unfollowed := true, recurses := true, apart := false }
def FnExactBusiestSpanSaid : Prop := fnExactBusiestSpanRow.holds Try.pinned (OpenSpec.ofChange fnExactBusiestSpanSpec)

/-- ITS FALSE NEIGHBOUR: 'it returns false'. Refute it at one input. -/
def fnExactBusiestSpanWrong : ChangeSpec := { name := "fnExactBusiestSpan", fn := fun _ => fun
  | [d1, d2] => { results := [.lit (.bool false)], args := [d1, d2] }
  | _ => none }
def FnExactBusiestSpanWrongFalsely : Prop := fnExactBusiestSpanRow.holds Try.pinned (OpenSpec.ofChange fnExactBusiestSpanWrong)

/-- 'laws.FnExactMostWaiting': WHATEVER THE INPUT: true; the input reads as it did. -/
def fnExactMostWaitingSpec : ChangeSpec := { name := "fnExactMostWaiting", fn := fun _ => fun
  | [d] => { results := [.lit (.bool true)], args := [d] }
  | _ => none }
def fnExactMostWaitingRow : OpenClaim := { program := "ytbepplocdmnchaa", sum := "c0629a53d1f2de01f2c30714054327a11ef271001f4282facd91a6decdaa3f9c", func := "loop.example/g00843/laws.FnExactMostWaiting", spec := "fnExactMostWaiting", unfollowed := true, recurses := true, apart := false }
def FnExactMostWaitingSaid : Prop := fnExactMostWaitingRow.holds Try.pinned (OpenSpec.ofChange fnExactMostWaitingSpec)

/-- ITS FALSE NEIGHBOUR: 'it returns false'. Refute it at one input. -/
def fnExactMostWaitingWrong : ChangeSpec := { name := "fnExactMostWaiting", fn := fun _ => fun
  | [d] => { results := [.lit (.bool false)], args := [d] }
  | _ => none }
def FnExactMostWaitingWrongFalsely : Prop := fnExactMostWaitingRow.holds Try.pinned (OpenSpec.ofChange fnExactMostWaitingWrong)

/-- 'laws.FnExactMeanDelay': WHATEVER THE INPUT: true; the input reads as it did. -/
def fnExactMeanDelaySpec : ChangeSpec := { name := "fnExactMeanDelay", fn := fun _ => fun
  | [d] => { results := [.lit (.bool true)], args := [d] }
  | _ => none }
def fnExactMeanDelayRow : OpenClaim := { program := "ytbepplocdmnchaa", sum := "c0629a53d1f2de01f2c30714054327a11ef271001f4282facd91a6decdaa3f9c", func := "loop.example/g00843/laws.FnExactMeanDelay", spec := "fnExactMeanDelay", apart := false }
def FnExactMeanDelaySaid : Prop := fnExactMeanDelayRow.holds Try.pinned (OpenSpec.ofChange fnExactMeanDelaySpec)

/-- ITS FALSE NEIGHBOUR: 'it returns false'. Refute it at one input. -/
def fnExactMeanDelayWrong : ChangeSpec := { name := "fnExactMeanDelay", fn := fun _ => fun
  | [d] => { results := [.lit (.bool false)], args := [d] }
  | _ => none }
def FnExactMeanDelayWrongFalsely : Prop := fnExactMeanDelayRow.holds Try.pinned (OpenSpec.ofChange fnExactMeanDelayWrong)

/-- 'laws.FnExactDelayAt': WHATEVER THE INPUT: true; the input reads as it did. -/
def fnExactDelayAtSpec : ChangeSpec := { name := "fnExactDelayAt", fn := fun _ => fun
  | [d1, d2] => { results := [.lit (.bool true)], args := [d1, d2] }
  | _ => none }
def fnExactDelayAtRow : OpenClaim := { program := "ytbepplocdmnchaa", sum := "c0629a53d1f2de01f2c30714054327a11ef271001f4282facd91a6decdaa3f9c", func := "loop.example/g00843/laws.FnExactDelayAt", spec := "fnExactDelayAt", unfollowed := true, recurses := true, apart := false }
def FnExactDelayAtSaid : Prop := fnExactDelayAtRow.holds Try.pinned (OpenSpec.ofChange fnExactDelayAtSpec)

/-- ITS FALSE NEIGHBOUR: 'it returns false'. Refute it at one input. -/
def fnExactDelayAtWrong : ChangeSpec := { name := "fnExactDelayAt", fn := fun _ => fun
  | [d1, d2] => { results := [.lit (.bool false)], args := [d1, d2] }
  | _ => none }
def FnExactDelayAtWrongFalsely : Prop := fnExactDelayAtRow.holds Try.pinned (OpenSpec.ofChange fnExactDelayAtWrong)

/-- 'laws.FnExactWithoutIrq': WHATEVER THE INPUT: true; the input reads as it did. -/
def fnExactWithoutIrqSpec : ChangeSpec := { name := "fnExactWithoutIrq", fn := fun _ => fun
  | [d1, d2] => { results := [.lit (.bool true)], args := [d1, d2] }
  | _ => none }
def fnExactWithoutIrqRow : OpenClaim := { program := "ytbepplocdmnchaa", sum := "c0629a53d1f2de01f2c30714054327a11ef271001f4282facd91a6decdaa3f9c", func := "loop.example/g00843/laws.FnExactWithoutIrq", spec := "fnExactWithoutIrq", unfollowed := true, recurses := true, apart := false }
def FnExactWithoutIrqSaid : Prop := fnExactWithoutIrqRow.holds Try.pinned (OpenSpec.ofChange fnExactWithoutIrqSpec)

/-- ITS FALSE NEIGHBOUR: 'it returns false'. Refute it at one input. -/
def fnExactWithoutIrqWrong : ChangeSpec := { name := "fnExactWithoutIrq", fn := fun _ => fun
  | [d1, d2] => { results := [.lit (.bool false)], args := [d1, d2] }
  | _ => none }
def FnExactWithoutIrqWrongFalsely : Prop := fnExactWithoutIrqRow.holds Try.pinned (OpenSpec.ofChange fnExactWithoutIrqWrong)

/-- 'laws.FnExactDelayClasses': WHATEVER THE INPUT: true; the input reads as it did. -/
def fnExactDelayClassesSpec : ChangeSpec := { name := "fnExactDelayClasses", fn := fun _ => fun
  | [d] => { results := [.lit (.bool true)], args := [d] }
  | _ => none }
def fnExactDelayClassesRow : OpenClaim := { program := "ytbepplocdmnchaa", sum := "c0629a53d1f2de01f2c30714054327a11ef271001f4282facd91a6decdaa3f9c", func := "loop.example/g00843/laws.FnExactDelayClasses", spec := "fnExactDelayClasses", apart := false }
def FnExactDelayClassesSaid : Prop := fnExactDelayClassesRow.holds Try.pinned (OpenSpec.ofChange fnExactDelayClassesSpec)

/-- ITS FALSE NEIGHBOUR: 'it returns false'. Refute it at one input. -/
def fnExactDelayClassesWrong : ChangeSpec := { name := "fnExactDelayClasses", fn := fun _ => fun
  | [d] => { results := [.lit (.bool false)], args := [d] }
  | _ => none }
def FnExactDelayClassesWrongFalsely : Prop := fnExactDelayClassesRow.holds Try.pinned (OpenSpec.ofChange fnExactDelayClassesWrong)

/-- 'laws.FnExactIrqShares': WHATEVER THE INPUT: true; the input reads as it did. -/
def fnExactIrqSharesSpec : ChangeSpec := { name := "fnExactIrqShares", fn := fun _ => fun
  | [d] => { results := [.lit (.bool true)], args := [d] }
  | _ => none }
def fnExactIrqSharesRow : OpenClaim := { program := "ytbepplocdmnchaa", sum := "c0629a53d1f2de01f2c30714054327a11ef271001f4282facd91a6decdaa3f9c", func := "loop.example/g00843/laws.FnExactIrqShares", spec := "fnExactIrqShares", unfollowed := true, recurses := true, apart := false }
def FnExactIrqSharesSaid : Prop := fnExactIrqSharesRow.holds Try.pinned (OpenSpec.ofChange fnExactIrqSharesSpec)

/-- ITS FALSE NEIGHBOUR: 'it returns false'. Refute it at one input. -/
def fnExactIrqSharesWrong : ChangeSpec := { name := "fnExactIrqShares", fn := fun _ => fun
  | [d] => { results := [.lit (.bool false)], args := [d] }
  | _ => none }
def FnExactIrqSharesWrongFalsely : Prop := fnExactIrqSharesRow.holds Try.pinned (OpenSpec.ofChange fnExactIrqSharesWrong)

/-- 'laws.FnLoads': WHATEVER THE INPUT: true; the input reads as it did. -/
def fnLoadsSpec : ChangeSpec := { name := "fnLoads", fn := fun _ => fun
  | [d] => { results := [.lit (.bool true)], args := [d] }
  | _ => none }
def fnLoadsRow : OpenClaim := { program := "ytbepplocdmnchaa", sum := "c0629a53d1f2de01f2c30714054327a11ef271001f4282facd91a6decdaa3f9c", func := "loop.example/g00843/laws.FnLoads", spec := "fnLoads", unfollowed := true, recurses := true, apart := false }
def FnLoadsSaid : Prop := fnLoadsRow.holds Try.pinned (OpenSpec.ofChange fnLoadsSpec)

/-- ITS FALSE NEIGHBOUR: 'it returns false'. Refute it at one input. -/
def fnLoadsWrong : ChangeSpec := { name := "fnLoads", fn := fun _ => fun
  | [d] => { results := [.lit (.bool false)], args := [d] }
  | _ => none }
def FnLoadsWrongFalsely : Prop := fnLoadsRow.holds Try.pinned (OpenSpec.ofChange fnLoadsWrong)

/-- 'laws.FnDelays': WHATEVER THE INPUT: true; the input reads as it did. -/
def fnDelaysSpec : ChangeSpec := { name := "fnDelays", fn := fun _ => fun
  | [d] => { results := [.lit (.bool true)], args := [d] }
  | _ => none }
def fnDelaysRow : OpenClaim := { program := "ytbepplocdmnchaa", sum := "c0629a53d1f2de01f2c30714054327a11ef271001f4282facd91a6decdaa3f9c", func := "loop.example/g00843/laws.FnDelays", spec := "fnDelays", unfollowed := true, recurses := true, apart := false }
def FnDelaysSaid : Prop := fnDelaysRow.holds Try.pinned (OpenSpec.ofChange fnDelaysSpec)

/-- ITS FALSE NEIGHBOUR: 'it returns false'. Refute it at one input. -/
def fnDelaysWrong : ChangeSpec := { name := "fnDelays", fn := fun _ => fun
  | [d] => { results := [.lit (.bool false)], args := [d] }
  | _ => none }
def FnDelaysWrongFalsely : Prop := fnDelaysRow.holds Try.pinned (OpenSpec.ofChange fnDelaysWrong)

/- THE SECOND FORM. 'bulk': how many values and letters a reading holds, each counted each time it is reached (what is shared counts as often as it is met; a slice's spare places count too). A statement '..UptoSaid' is the law's where the arguments, and the package variables that the reading takes, are together of bulk at most 1048576: NARROWER than '..Said'. Prove '..Said' where nothing that the law and all that it calls make is longer than what came in: it says more and counts as full. Else prove '..UptoSaid'. A law counts once. -/
mutual
def uptoBulk {H : Type} : DataW H → Nat
  | .lit (.string bytes) => bytes.length + 1
  | .lit _ => 1
  | .nil => 1
  | .ptr d => uptoBulk d + 1
  | .slice elems spare => uptoBulkAll elems + uptoBulkAll spare + 1
  | .agg parts => uptoBulkAll parts + 1
  | .iface _ d => uptoBulk d + 1
  | .map entries => uptoBulkEntries entries + 1
  | .held _ => 1
def uptoBulkAll {H : Type} : List (DataW H) → Nat
  | [] => 0
  | d :: r => uptoBulk d + uptoBulkAll r
def uptoBulkEntries {H : Type} : List (Lit × DataW H) → Nat
  | [] => 0
  | x :: r => uptoBulkEntry x + uptoBulkEntries r
def uptoBulkEntry {H : Type} : Lit × DataW H → Nat
  | (.string bytes, d) => bytes.length + uptoBulk d + 1
  | (_, d) => uptoBulk d + 1
 end
def uptoSmall : (H : Type) → List (DataW H) → Bool := fun _ ds => decide (uptoBulkAll ds ≤ 1048576)
def OpenSpec.upto (s : _root_.Go.ChangeSpec) : _root_.Go.OpenSpec := { _root_.Go.OpenSpec.ofChange s with cond := some uptoSmall }

/-- 'laws.FnExactAreSamples', WHERE WHAT IT READS IS OF BULK AT MOST 1048576: true; the input reads as it did. -/
def fnExactAreSamplesUptoRow : OpenClaim := { program := "ytbepplocdmnchaa", sum := "c0629a53d1f2de01f2c30714054327a11ef271001f4282facd91a6decdaa3f9c", func := "loop.example/g00843/laws.FnExactAreSamples", spec := "fnExactAreSamples", apart := false, narrowed := true }
def FnExactAreSamplesUptoSaid : Prop := fnExactAreSamplesUptoRow.holds Try.pinned (OpenSpec.upto fnExactAreSamplesSpec)

/-- 'laws.FnExactWorstIrq', WHERE WHAT IT READS IS OF BULK AT MOST 1048576: true; the input reads as it did. -/
def fnExactWorstIrqUptoRow : OpenClaim := { program := "ytbepplocdmnchaa", sum := "c0629a53d1f2de01f2c30714054327a11ef271001f4282facd91a6decdaa3f9c", func := "loop.example/g00843/laws.FnExactWorstIrq", spec := "fnExactWorstIrq", apart := false, narrowed := true }
def FnExactWorstIrqUptoSaid : Prop := fnExactWorstIrqUptoRow.holds Try.pinned (OpenSpec.upto fnExactWorstIrqSpec)

/-- 'laws.FnExactOutOfOrder', WHERE WHAT IT READS IS OF BULK AT MOST 1048576: true; the input reads as it did. -/
def fnExactOutOfOrderUptoRow : OpenClaim := { program := "ytbepplocdmnchaa", sum := "c0629a53d1f2de01f2c30714054327a11ef271001f4282facd91a6decdaa3f9c", func := "loop.example/g00843/laws.FnExactOutOfOrder", spec := "fnExactOutOfOrder", unfollowed := true, recurses := true, apart := false, narrowed := true }
def FnExactOutOfOrderUptoSaid : Prop := fnExactOutOfOrderUptoRow.holds Try.pinned (OpenSpec.upto fnExactOutOfOrderSpec)

/-- 'laws.FnExactBusiestSpan', WHERE WHAT IT READS IS OF BULK AT MOST 1048576: true; the input reads as it did. -/
def fnExactBusiestSpanUptoRow : OpenClaim := { program := "ytbepplocdmnchaa", sum := "c0629a53d1f2de01f2c30714054327a11ef271001f4282facd91a6decdaa3f9c", func := "loop.example/g00843/laws.FnExactBusiestSpan", spec := "fnExactBusiestSpan", unfollowed := true, recurses := true, apart := false, narrowed := true }
def FnExactBusiestSpanUptoSaid : Prop := fnExactBusiestSpanUptoRow.holds Try.pinned (OpenSpec.upto fnExactBusiestSpanSpec)

/-- 'laws.FnExactMostWaiting', WHERE WHAT IT READS IS OF BULK AT MOST 1048576: true; the input reads as it did. -/
def fnExactMostWaitingUptoRow : OpenClaim := { program := "ytbepplocdmnchaa", sum := "c0629a53d1f2de01f2c30714054327a11ef271001f4282facd91a6decdaa3f9c", func := "loop.example/g00843/laws.FnExactMostWaiting", spec := "fnExactMostWaiting", unfollowed := true, recurses := true, apart := false, narrowed := true }
def FnExactMostWaitingUptoSaid : Prop := fnExactMostWaitingUptoRow.holds Try.pinned (OpenSpec.upto fnExactMostWaitingSpec)

/-- 'laws.FnExactMeanDelay', WHERE WHAT IT READS IS OF BULK AT MOST 1048576: true; the input reads as it did. -/
def fnExactMeanDelayUptoRow : OpenClaim := { program := "ytbepplocdmnchaa", sum := "c0629a53d1f2de01f2c30714054327a11ef271001f4282facd91a6decdaa3f9c", func := "loop.example/g00843/laws.FnExactMeanDelay", spec := "fnExactMeanDelay", apart := false, narrowed := true }
def FnExactMeanDelayUptoSaid : Prop := fnExactMeanDelayUptoRow.holds Try.pinned (OpenSpec.upto fnExactMeanDelaySpec)

/-- 'laws.FnExactDelayAt', WHERE WHAT IT READS IS OF BULK AT MOST 1048576: true; the input reads as it did. -/
def fnExactDelayAtUptoRow : OpenClaim := { program := "ytbepplocdmnchaa", sum := "c0629a53d1f2de01f2c30714054327a11ef271001f4282facd91a6decdaa3f9c", func := "loop.example/g00843/laws.FnExactDelayAt", spec := "fnExactDelayAt", unfollowed := true, recurses := true, apart := false, narrowed := true }
def FnExactDelayAtUptoSaid : Prop := fnExactDelayAtUptoRow.holds Try.pinned (OpenSpec.upto fnExactDelayAtSpec)

/-- 'laws.FnExactWithoutIrq', WHERE WHAT IT READS IS OF BULK AT MOST 1048576: true; the input reads as it did. -/
def fnExactWithoutIrqUptoRow : OpenClaim := { program := "ytbepplocdmnchaa", sum := "c0629a53d1f2de01f2c30714054327a11ef271001f4282facd91a6decdaa3f9c", func := "loop.example/g00843/laws.FnExactWithoutIrq", spec := "fnExactWithoutIrq", unfollowed := true, recurses := true, apart := false, narrowed := true }
def FnExactWithoutIrqUptoSaid : Prop := fnExactWithoutIrqUptoRow.holds Try.pinned (OpenSpec.upto fnExactWithoutIrqSpec)

/-- 'laws.FnExactDelayClasses', WHERE WHAT IT READS IS OF BULK AT MOST 1048576: true; the input reads as it did. -/
def fnExactDelayClassesUptoRow : OpenClaim := { program := "ytbepplocdmnchaa", sum := "c0629a53d1f2de01f2c30714054327a11ef271001f4282facd91a6decdaa3f9c", func := "loop.example/g00843/laws.FnExactDelayClasses", spec := "fnExactDelayClasses", apart := false, narrowed := true }
def FnExactDelayClassesUptoSaid : Prop := fnExactDelayClassesUptoRow.holds Try.pinned (OpenSpec.upto fnExactDelayClassesSpec)

/-- 'laws.FnExactIrqShares', WHERE WHAT IT READS IS OF BULK AT MOST 1048576: true; the input reads as it did. -/
def fnExactIrqSharesUptoRow : OpenClaim := { program := "ytbepplocdmnchaa", sum := "c0629a53d1f2de01f2c30714054327a11ef271001f4282facd91a6decdaa3f9c", func := "loop.example/g00843/laws.FnExactIrqShares", spec := "fnExactIrqShares", unfollowed := true, recurses := true, apart := false, narrowed := true }
def FnExactIrqSharesUptoSaid : Prop := fnExactIrqSharesUptoRow.holds Try.pinned (OpenSpec.upto fnExactIrqSharesSpec)

/-- 'laws.FnLoads', WHERE WHAT IT READS IS OF BULK AT MOST 1048576: true; the input reads as it did. -/
def fnLoadsUptoRow : OpenClaim := { program := "ytbepplocdmnchaa", sum := "c0629a53d1f2de01f2c30714054327a11ef271001f4282facd91a6decdaa3f9c", func := "loop.example/g00843/laws.FnLoads", spec := "fnLoads", unfollowed := true, recurses := true, apart := false, narrowed := true }
def FnLoadsUptoSaid : Prop := fnLoadsUptoRow.holds Try.pinned (OpenSpec.upto fnLoadsSpec)

/-- 'laws.FnDelays', WHERE WHAT IT READS IS OF BULK AT MOST 1048576: true; the input reads as it did. -/
def fnDelaysUptoRow : OpenClaim := { program := "ytbepplocdmnchaa", sum := "c0629a53d1f2de01f2c30714054327a11ef271001f4282facd91a6decdaa3f9c", func := "loop.example/g00843/laws.FnDelays", spec := "fnDelays", unfollowed := true, recurses := true, apart := false, narrowed := true }
def FnDelaysUptoSaid : Prop := fnDelaysUptoRow.holds Try.pinned (OpenSpec.upto fnDelaysSpec)

end Rows
end Go.Proofs.Ytbepplocdmnchaa
