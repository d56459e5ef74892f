/-
  No cell of these rows narrows 'for every input' (looked for: loops, veiled, ifaces, maps, wideKeys, modest, calm, conditions, laid).
  DERIVED. THE GIVEN ROWS OF THIS SEAT. 4 by the template 'for every input the law returns true; each argument reads behind the call as it read before'; 0 by the template 'total and deterministic' (their statements: YtcnodpipinlpcaaTotals.lean).
  GIVEN WITH THE SEED: the statements are not yours to turn. If you find one false, say at which input.
  Laid BY PROGRAM, IN A SANDBOX (cutbox-rows.mjs): the forced cells as the released guide's own fill.sh prints them over the translation 6d720373e434757e… (all of the seat's roots in one cut). By AI agents, Wed Nov 11 2026. No macro, syntax, notation, axiom, sorry.
-/
import Derived.Test.YtcnodpipinlpcaaChecked
import GoSem.Claim
import GoSem.ClaimJoined
import GoSem.ClaimMapViews
import Derived.JoinedTies
import Derived.KernelRfl
namespace Go.Proofs.Ytcnodpipinlpcaa
/- THE CELL 'sum', in the pinned program and in every row, IS THE sha256 OF THE DUMP (.gsa) THAT YtcnodpipinlpcaaProg.lean LOADS. Nothing in Lean hashes anything: it is a label: what it is worth is what the hold of that sum in a sandbox is worth. -/
noncomputable def Try.pinned : Pinned := { name := "ytcnodpipinlpcaa", sum := "6d720373e434757e728b45f3310c1a7dc74f5a74ec07f05eb1b93e4dcdf41c52", checked := Try.checked }
namespace Rows
def none {H : Type} : Left H := { results := [], args := [] }

/-- 'laws.FnExactIsAbstract': WHATEVER THE INPUT: true; the input reads as it did. -/
def fnExactIsAbstractSpec : ChangeSpec := { name := "fnExactIsAbstract", fn := fun _ => fun
  | [d1, d2] => { results := [.lit (.bool true)], args := [d1, d2] }
  | _ => none }
def fnExactIsAbstractRow : OpenClaim := { program := "ytcnodpipinlpcaa", sum := "6d720373e434757e728b45f3310c1a7dc74f5a74ec07f05eb1b93e4dcdf41c52", func := "loop.example/g00843/laws.FnExactIsAbstract", spec := "fnExactIsAbstract", unfollowed := true, recurses := true, apart := false }
def FnExactIsAbstractSaid : Prop := fnExactIsAbstractRow.holds Try.pinned (OpenSpec.ofChange fnExactIsAbstractSpec)

/-- ITS FALSE NEIGHBOUR: 'it returns false'. Refute it at one input. -/
def fnExactIsAbstractWrong : ChangeSpec := { name := "fnExactIsAbstract", fn := fun _ => fun
  | [d1, d2] => { results := [.lit (.bool false)], args := [d1, d2] }
  | _ => none }
def FnExactIsAbstractWrongFalsely : Prop := fnExactIsAbstractRow.holds Try.pinned (OpenSpec.ofChange fnExactIsAbstractWrong)

/-- 'laws.FnExactNextTaken': WHATEVER THE INPUT: true; the input reads as it did. -/
def fnExactNextTakenSpec : ChangeSpec := { name := "fnExactNextTaken", fn := fun _ => fun
  | [d1, d2, d3] => { results := [.lit (.bool true)], args := [d1, d2, d3] }
  | _ => none }
def fnExactNextTakenRow : OpenClaim := { program := "ytcnodpipinlpcaa", sum := "6d720373e434757e728b45f3310c1a7dc74f5a74ec07f05eb1b93e4dcdf41c52", func := "loop.example/g00843/laws.FnExactNextTaken", spec := "fnExactNextTaken", unfollowed := true, recurses := true, apart := false }
def FnExactNextTakenSaid : Prop := fnExactNextTakenRow.holds Try.pinned (OpenSpec.ofChange fnExactNextTakenSpec)

/-- ITS FALSE NEIGHBOUR: 'it returns false'. Refute it at one input. -/
def fnExactNextTakenWrong : ChangeSpec := { name := "fnExactNextTaken", fn := fun _ => fun
  | [d1, d2, d3] => { results := [.lit (.bool false)], args := [d1, d2, d3] }
  | _ => none }
def FnExactNextTakenWrongFalsely : Prop := fnExactNextTakenRow.holds Try.pinned (OpenSpec.ofChange fnExactNextTakenWrong)

/-- 'laws.FnExactStepAbstract': WHATEVER THE INPUT: true; the input reads as it did. -/
def fnExactStepAbstractSpec : ChangeSpec := { name := "fnExactStepAbstract", fn := fun _ => fun
  | [d1, d2, d3] => { results := [.lit (.bool true)], args := [d1, d2, d3] }
  | _ => none }
def fnExactStepAbstractRow : OpenClaim := { program := "ytcnodpipinlpcaa", sum := "6d720373e434757e728b45f3310c1a7dc74f5a74ec07f05eb1b93e4dcdf41c52", func := "loop.example/g00843/laws.FnExactStepAbstract", spec := "fnExactStepAbstract", unfollowed := true, recurses := true, apart := false }
def FnExactStepAbstractSaid : Prop := fnExactStepAbstractRow.holds Try.pinned (OpenSpec.ofChange fnExactStepAbstractSpec)

/-- ITS FALSE NEIGHBOUR: 'it returns false'. Refute it at one input. -/
def fnExactStepAbstractWrong : ChangeSpec := { name := "fnExactStepAbstract", fn := fun _ => fun
  | [d1, d2, d3] => { results := [.lit (.bool false)], args := [d1, d2, d3] }
  | _ => none }
def FnExactStepAbstractWrongFalsely : Prop := fnExactStepAbstractRow.holds Try.pinned (OpenSpec.ofChange fnExactStepAbstractWrong)

/-- 'laws.FnExactRunAbstract': WHATEVER THE INPUT: true; the input reads as it did. -/
def fnExactRunAbstractSpec : ChangeSpec := { name := "fnExactRunAbstract", fn := fun _ => fun
  | [d1, d2, d3] => { results := [.lit (.bool true)], args := [d1, d2, d3] }
  | _ => none }
def fnExactRunAbstractRow : OpenClaim := { program := "ytcnodpipinlpcaa", sum := "6d720373e434757e728b45f3310c1a7dc74f5a74ec07f05eb1b93e4dcdf41c52", func := "loop.example/g00843/laws.FnExactRunAbstract", spec := "fnExactRunAbstract", unfollowed := true, recurses := true, apart := false }
def FnExactRunAbstractSaid : Prop := fnExactRunAbstractRow.holds Try.pinned (OpenSpec.ofChange fnExactRunAbstractSpec)

/-- ITS FALSE NEIGHBOUR: 'it returns false'. Refute it at one input. -/
def fnExactRunAbstractWrong : ChangeSpec := { name := "fnExactRunAbstract", fn := fun _ => fun
  | [d1, d2, d3] => { results := [.lit (.bool false)], args := [d1, d2, d3] }
  | _ => none }
def FnExactRunAbstractWrongFalsely : Prop := fnExactRunAbstractRow.holds Try.pinned (OpenSpec.ofChange fnExactRunAbstractWrong)

/- THE SECOND FORM. 'bulk': how many values and letters a reading holds, each counted each time it is reached (what is shared counts as often as it is met; a slice's spare places count too). A statement '..UptoSaid' is the law's where the arguments, and the package variables that the reading takes, are together of bulk at most 1048576: NARROWER than '..Said'. Prove '..Said' where nothing that the law and all that it calls make is longer than what came in: it says more and counts as full. Else prove '..UptoSaid'. A law counts once. -/
mutual
def uptoBulk {H : Type} : DataW H → Nat
  | .lit (.string bytes) => bytes.length + 1
  | .lit _ => 1
  | .nil => 1
  | .ptr d => uptoBulk d + 1
  | .slice elems spare => uptoBulkAll elems + uptoBulkAll spare + 1
  | .agg parts => uptoBulkAll parts + 1
  | .iface _ d => uptoBulk d + 1
  | .map entries => uptoBulkEntries entries + 1
  | .held _ => 1
def uptoBulkAll {H : Type} : List (DataW H) → Nat
  | [] => 0
  | d :: r => uptoBulk d + uptoBulkAll r
def uptoBulkEntries {H : Type} : List (Lit × DataW H) → Nat
  | [] => 0
  | x :: r => uptoBulkEntry x + uptoBulkEntries r
def uptoBulkEntry {H : Type} : Lit × DataW H → Nat
  | (.string bytes, d) => bytes.length + uptoBulk d + 1
  | (_, d) => uptoBulk d + 1
 end
def uptoSmall : (H : Type) → List (DataW H) → Bool := fun _ ds => decide (uptoBulkAll ds ≤ 1048576)
def OpenSpec.upto (s : _root_.Go.ChangeSpec) : _root_.Go.OpenSpec := { _root_.Go.OpenSpec.ofChange s with cond := some uptoSmall }

/-- 'laws.FnExactIsAbstract', WHERE WHAT IT READS IS OF BULK AT MOST 1048576: true; the input reads as it did. -/
def fnExactIsAbstractUptoRow : OpenClaim := { program := "ytcnodpipinlpcaa", sum := "6d720373e434757e728b45f3310c1a7dc74f5a74ec07f05eb1b93e4dcdf41c52", func := "loop.example/g00843/laws.FnExactIsAbstract", spec := "fnExactIsAbstract", unfollowed := true, recurses := true, apart := false, narrowed := true }
def FnExactIsAbstractUptoSaid : Prop := fnExactIsAbstractUptoRow.holds Try.pinned (OpenSpec.upto fnExactIsAbstractSpec)

/-- 'laws.FnExactNextTaken', WHERE WHAT IT READS IS OF BULK AT MOST 1048576: true; the input reads as it did. -/
def fnExactNextTakenUptoRow : OpenClaim := { program := "ytcnodpipinlpcaa", sum := "6d720373e434757e728b45f3310c1a7dc74f5a74ec07f05eb1b93e4dcdf41c52", func := "loop.example/g00843/laws.FnExactNextTaken", spec := "fnExactNextTaken", unfollowed := true, recurses := true, apart := false, narrowed := true }
def FnExactNextTakenUptoSaid : Prop := fnExactNextTakenUptoRow.holds Try.pinned (OpenSpec.upto fnExactNextTakenSpec)

/-- 'laws.FnExactStepAbstract', WHERE WHAT IT READS IS OF BULK AT MOST 1048576: true; the input reads as it did. -/
def fnExactStepAbstractUptoRow : OpenClaim := { program := "ytcnodpipinlpcaa", sum := "6d720373e434757e728b45f3310c1a7dc74f5a74ec07f05eb1b93e4dcdf41c52", func := "loop.example/g00843/laws.FnExactStepAbstract", spec := "fnExactStepAbstract", unfollowed := true, recurses := true, apart := false, narrowed := true }
def FnExactStepAbstractUptoSaid : Prop := fnExactStepAbstractUptoRow.holds Try.pinned (OpenSpec.upto fnExactStepAbstractSpec)

/-- 'laws.FnExactRunAbstract', WHERE WHAT IT READS IS OF BULK AT MOST 1048576: true; the input reads as it did. -/
def fnExactRunAbstractUptoRow : OpenClaim := { program := "ytcnodpipinlpcaa", sum := "6d720373e434757e728b45f3310c1a7dc74f5a74ec07f05eb1b93e4dcdf41c52", func := "loop.example/g00843/laws.FnExactRunAbstract", spec := "fnExactRunAbstract", unfollowed := true, recurses := true, apart := false, narrowed := true }
def FnExactRunAbstractUptoSaid : Prop := fnExactRunAbstractUptoRow.holds Try.pinned (OpenSpec.upto fnExactRunAbstractSpec)

end Rows
end Go.Proofs.Ytcnodpipinlpcaa
