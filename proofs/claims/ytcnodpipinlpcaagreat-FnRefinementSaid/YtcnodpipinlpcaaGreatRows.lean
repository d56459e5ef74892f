/-
  No cell of these rows narrows 'for every input' (looked for: loops, veiled, ifaces, maps, wideKeys, modest, calm, conditions, laid).
  DERIVED. THE GIVEN ROWS OF THIS SEAT. 5 by the template 'for every input the law returns true; each argument reads behind the call as it read before'; 0 by the template 'total and deterministic' (their statements: YtcnodpipinlpcaaGreatTotals.lean).
  GIVEN WITH THE SEED: the statements are not yours to turn. If you find one false, say at which input.
  Laid BY PROGRAM, IN A SANDBOX (cutbox-rows.mjs): the forced cells as the released guide's own fill.sh prints them over the translation 0894628bae5c284f… (all of the seat's roots in one cut). By AI agents, Wed Nov 11 2026. No macro, syntax, notation, axiom, sorry.
-/
import Derived.Test.YtcnodpipinlpcaaGreatChecked
import GoSem.Claim
import GoSem.ClaimJoined
import GoSem.ClaimMapViews
import Derived.JoinedTies
import Derived.KernelRfl
namespace Go.Proofs.YtcnodpipinlpcaaGreat
/- THE CELL 'sum', in the pinned program and in every row, IS THE sha256 OF THE DUMP (.gsa) THAT YtcnodpipinlpcaaGreatProg.lean LOADS. Nothing in Lean hashes anything: it is a label: what it is worth is what the hold of that sum in a sandbox is worth. -/
noncomputable def Tryz.pinned : Pinned := { name := "ytcnodpipinlpcaagreat", sum := "0894628bae5c284fc38a0ea6dd2a990f598cc8655f53f5b08e5baec09892bfed", checked := Tryz.checked }
namespace Rows
def none {H : Type} : Left H := { results := [], args := [] }

/-- 'laws.FnAbstractSteps': WHATEVER THE INPUT: true; the input reads as it did. -/
def fnAbstractStepsSpec : ChangeSpec := { name := "fnAbstractSteps", fn := fun _ => fun
  | [d] => { results := [.lit (.bool true)], args := [d] }
  | _ => none }
def fnAbstractStepsRow : OpenClaim := { program := "ytcnodpipinlpcaagreat", sum := "0894628bae5c284fc38a0ea6dd2a990f598cc8655f53f5b08e5baec09892bfed", func := "loop.example/g00843/laws.FnAbstractSteps", spec := "fnAbstractSteps", unfollowed := true, recurses := true, apart := false }
def FnAbstractStepsSaid : Prop := fnAbstractStepsRow.holds Tryz.pinned (OpenSpec.ofChange fnAbstractStepsSpec)

/-- ITS FALSE NEIGHBOUR: 'it returns false'. Refute it at one input. -/
def fnAbstractStepsWrong : ChangeSpec := { name := "fnAbstractSteps", fn := fun _ => fun
  | [d] => { results := [.lit (.bool false)], args := [d] }
  | _ => none }
def FnAbstractStepsWrongFalsely : Prop := fnAbstractStepsRow.holds Tryz.pinned (OpenSpec.ofChange fnAbstractStepsWrong)

/-- 'laws.FnExactMachineOf': WHATEVER THE INPUT: true; the input reads as it did. -/
def fnExactMachineOfSpec : ChangeSpec := { name := "fnExactMachineOf", fn := fun _ => fun
  | [d1, d2] => { results := [.lit (.bool true)], args := [d1, d2] }
  | _ => none }
def fnExactMachineOfRow : OpenClaim := { program := "ytcnodpipinlpcaagreat", sum := "0894628bae5c284fc38a0ea6dd2a990f598cc8655f53f5b08e5baec09892bfed", func := "loop.example/g00843/laws.FnExactMachineOf", spec := "fnExactMachineOf", inPlace := ["slices.overlaps[loop.example/g00843/impl.Waiter]"], unfollowed := true, recurses := true, apart := false }
def FnExactMachineOfSaid : Prop := fnExactMachineOfRow.holds Tryz.pinned (OpenSpec.ofChange fnExactMachineOfSpec)

/-- ITS FALSE NEIGHBOUR: 'it returns false'. Refute it at one input. -/
def fnExactMachineOfWrong : ChangeSpec := { name := "fnExactMachineOf", fn := fun _ => fun
  | [d1, d2] => { results := [.lit (.bool false)], args := [d1, d2] }
  | _ => none }
def FnExactMachineOfWrongFalsely : Prop := fnExactMachineOfRow.holds Tryz.pinned (OpenSpec.ofChange fnExactMachineOfWrong)

/-- 'laws.FnExactAbstractOf': WHATEVER THE INPUT: true; the input reads as it did. -/
def fnExactAbstractOfSpec : ChangeSpec := { name := "fnExactAbstractOf", fn := fun _ => fun
  | [d] => { results := [.lit (.bool true)], args := [d] }
  | _ => none }
def fnExactAbstractOfRow : OpenClaim := { program := "ytcnodpipinlpcaagreat", sum := "0894628bae5c284fc38a0ea6dd2a990f598cc8655f53f5b08e5baec09892bfed", func := "loop.example/g00843/laws.FnExactAbstractOf", spec := "fnExactAbstractOf", unfollowed := true, recurses := true, apart := false }
def FnExactAbstractOfSaid : Prop := fnExactAbstractOfRow.holds Tryz.pinned (OpenSpec.ofChange fnExactAbstractOfSpec)

/-- ITS FALSE NEIGHBOUR: 'it returns false'. Refute it at one input. -/
def fnExactAbstractOfWrong : ChangeSpec := { name := "fnExactAbstractOf", fn := fun _ => fun
  | [d] => { results := [.lit (.bool false)], args := [d] }
  | _ => none }
def FnExactAbstractOfWrongFalsely : Prop := fnExactAbstractOfRow.holds Tryz.pinned (OpenSpec.ofChange fnExactAbstractOfWrong)

/-- 'laws.FnExactAgreeOn': WHATEVER THE INPUT: true; the input reads as it did. -/
def fnExactAgreeOnSpec : ChangeSpec := { name := "fnExactAgreeOn", fn := fun _ => fun
  | [d1, d2] => { results := [.lit (.bool true)], args := [d1, d2] }
  | _ => none }
def fnExactAgreeOnRow : OpenClaim := { program := "ytcnodpipinlpcaagreat", sum := "0894628bae5c284fc38a0ea6dd2a990f598cc8655f53f5b08e5baec09892bfed", func := "loop.example/g00843/laws.FnExactAgreeOn", spec := "fnExactAgreeOn", inPlace := ["slices.overlaps[loop.example/g00843/impl.Waiter]"], unfollowed := true, recurses := true, apart := false }
def FnExactAgreeOnSaid : Prop := fnExactAgreeOnRow.holds Tryz.pinned (OpenSpec.ofChange fnExactAgreeOnSpec)

/-- ITS FALSE NEIGHBOUR: 'it returns false'. Refute it at one input. -/
def fnExactAgreeOnWrong : ChangeSpec := { name := "fnExactAgreeOn", fn := fun _ => fun
  | [d1, d2] => { results := [.lit (.bool false)], args := [d1, d2] }
  | _ => none }
def FnExactAgreeOnWrongFalsely : Prop := fnExactAgreeOnRow.holds Tryz.pinned (OpenSpec.ofChange fnExactAgreeOnWrong)

/-- 'laws.FnRefinement': WHATEVER THE INPUT: true; the input reads as it did. -/
def fnRefinementSpec : ChangeSpec := { name := "fnRefinement", fn := fun _ => fun
  | [d] => { results := [.lit (.bool true)], args := [d] }
  | _ => none }
def fnRefinementRow : OpenClaim := { program := "ytcnodpipinlpcaagreat", sum := "0894628bae5c284fc38a0ea6dd2a990f598cc8655f53f5b08e5baec09892bfed", func := "loop.example/g00843/laws.FnRefinement", spec := "fnRefinement", inPlace := ["slices.overlaps[loop.example/g00843/impl.Waiter]"], unfollowed := true, recurses := true, apart := false }
def FnRefinementSaid : Prop := fnRefinementRow.holds Tryz.pinned (OpenSpec.ofChange fnRefinementSpec)

/-- ITS FALSE NEIGHBOUR: 'it returns false'. Refute it at one input. -/
def fnRefinementWrong : ChangeSpec := { name := "fnRefinement", fn := fun _ => fun
  | [d] => { results := [.lit (.bool false)], args := [d] }
  | _ => none }
def FnRefinementWrongFalsely : Prop := fnRefinementRow.holds Tryz.pinned (OpenSpec.ofChange fnRefinementWrong)

/- THE SECOND FORM. 'bulk': how many values and letters a reading holds, each counted each time it is reached (what is shared counts as often as it is met; a slice's spare places count too). A statement '..UptoSaid' is the law's where the arguments, and the package variables that the reading takes, are together of bulk at most 1048576: NARROWER than '..Said'. Prove '..Said' where nothing that the law and all that it calls make is longer than what came in: it says more and counts as full. Else prove '..UptoSaid'. A law counts once. -/
mutual
def uptoBulk {H : Type} : DataW H → Nat
  | .lit (.string bytes) => bytes.length + 1
  | .lit _ => 1
  | .nil => 1
  | .ptr d => uptoBulk d + 1
  | .slice elems spare => uptoBulkAll elems + uptoBulkAll spare + 1
  | .agg parts => uptoBulkAll parts + 1
  | .iface _ d => uptoBulk d + 1
  | .map entries => uptoBulkEntries entries + 1
  | .held _ => 1
def uptoBulkAll {H : Type} : List (DataW H) → Nat
  | [] => 0
  | d :: r => uptoBulk d + uptoBulkAll r
def uptoBulkEntries {H : Type} : List (Lit × DataW H) → Nat
  | [] => 0
  | x :: r => uptoBulkEntry x + uptoBulkEntries r
def uptoBulkEntry {H : Type} : Lit × DataW H → Nat
  | (.string bytes, d) => bytes.length + uptoBulk d + 1
  | (_, d) => uptoBulk d + 1
 end
def uptoSmall : (H : Type) → List (DataW H) → Bool := fun _ ds => decide (uptoBulkAll ds ≤ 1048576)
def OpenSpec.upto (s : _root_.Go.ChangeSpec) : _root_.Go.OpenSpec := { _root_.Go.OpenSpec.ofChange s with cond := some uptoSmall }

/-- 'laws.FnAbstractSteps', WHERE WHAT IT READS IS OF BULK AT MOST 1048576: true; the input reads as it did. -/
def fnAbstractStepsUptoRow : OpenClaim := { program := "ytcnodpipinlpcaagreat", sum := "0894628bae5c284fc38a0ea6dd2a990f598cc8655f53f5b08e5baec09892bfed", func := "loop.example/g00843/laws.FnAbstractSteps", spec := "fnAbstractSteps", unfollowed := true, recurses := true, apart := false, narrowed := true }
def FnAbstractStepsUptoSaid : Prop := fnAbstractStepsUptoRow.holds Tryz.pinned (OpenSpec.upto fnAbstractStepsSpec)

/-- 'laws.FnExactMachineOf', WHERE WHAT IT READS IS OF BULK AT MOST 1048576: true; the input reads as it did. -/
def fnExactMachineOfUptoRow : OpenClaim := { program := "ytcnodpipinlpcaagreat", sum := "0894628bae5c284fc38a0ea6dd2a990f598cc8655f53f5b08e5baec09892bfed", func := "loop.example/g00843/laws.FnExactMachineOf", spec := "fnExactMachineOf", inPlace := ["slices.overlaps[loop.example/g00843/impl.Waiter]"], unfollowed := true, recurses := true, apart := false, narrowed := true }
def FnExactMachineOfUptoSaid : Prop := fnExactMachineOfUptoRow.holds Tryz.pinned (OpenSpec.upto fnExactMachineOfSpec)

/-- 'laws.FnExactAbstractOf', WHERE WHAT IT READS IS OF BULK AT MOST 1048576: true; the input reads as it did. -/
def fnExactAbstractOfUptoRow : OpenClaim := { program := "ytcnodpipinlpcaagreat", sum := "0894628bae5c284fc38a0ea6dd2a990f598cc8655f53f5b08e5baec09892bfed", func := "loop.example/g00843/laws.FnExactAbstractOf", spec := "fnExactAbstractOf", unfollowed := true, recurses := true, apart := false, narrowed := true }
def FnExactAbstractOfUptoSaid : Prop := fnExactAbstractOfUptoRow.holds Tryz.pinned (OpenSpec.upto fnExactAbstractOfSpec)

/-- 'laws.FnExactAgreeOn', WHERE WHAT IT READS IS OF BULK AT MOST 1048576: true; the input reads as it did. -/
def fnExactAgreeOnUptoRow : OpenClaim := { program := "ytcnodpipinlpcaagreat", sum := "0894628bae5c284fc38a0ea6dd2a990f598cc8655f53f5b08e5baec09892bfed", func := "loop.example/g00843/laws.FnExactAgreeOn", spec := "fnExactAgreeOn", inPlace := ["slices.overlaps[loop.example/g00843/impl.Waiter]"], unfollowed := true, recurses := true, apart := false, narrowed := true }
def FnExactAgreeOnUptoSaid : Prop := fnExactAgreeOnUptoRow.holds Tryz.pinned (OpenSpec.upto fnExactAgreeOnSpec)

/-- 'laws.FnRefinement', WHERE WHAT IT READS IS OF BULK AT MOST 1048576: true; the input reads as it did. -/
def fnRefinementUptoRow : OpenClaim := { program := "ytcnodpipinlpcaagreat", sum := "0894628bae5c284fc38a0ea6dd2a990f598cc8655f53f5b08e5baec09892bfed", func := "loop.example/g00843/laws.FnRefinement", spec := "fnRefinement", inPlace := ["slices.overlaps[loop.example/g00843/impl.Waiter]"], unfollowed := true, recurses := true, apart := false, narrowed := true }
def FnRefinementUptoSaid : Prop := fnRefinementUptoRow.holds Tryz.pinned (OpenSpec.upto fnRefinementSpec)

end Rows
end Go.Proofs.YtcnodpipinlpcaaGreat
