/- The join: the contract of FnExactFormatConsole, lifted to its statement. -/
import Derived.Test.YtieidkjfeboepaaGreatDoorPFnExactFormatConsoleD
import Derived.Test.YtieidkjfeboepaaGreatDoorRows
import Derived.Test.YtieidkjfeboepaaGreatDoorCards
import Derived.Test.YtieidkjfeboepaaGreatDoorTie
import Derived.SevenTiedAt
import Derived.WalkKit
import Derived.ProofKit
import Derived.OpenShut
import Derived.ShutString
import Derived.ChangeOld
import Derived.Below
import Derived.Carry
namespace Go.Proofs.YtieidkjfeboepaaGreatDoor.fnExactFormatConsoleDone
open Go Go.ChangeShapes Go.WideShapes Go.ChangeAt Go.RowKit Go.Rf
open Go.ChangeMaps (open_string shut_string)
set_option linter.unusedVariables false

theorem cells30 : Tryz.prog.cellsOf 30 = 7 := by kernel_rfl
theorem cells26 : Tryz.prog.cellsOf 26 = 4 := by kernel_rfl
theorem cells28 : Tryz.prog.cellsOf 28 = 3 := by kernel_rfl
theorem ifty : ∃ a b c d, IfTy Tryz.prog 90 53 88 85 86 196 198 a b c d := ⟨_, _, _, _, Tryz.underlying90, rfl, by kernel_rfl, by kernel_rfl, by kernel_rfl, by kernel_rfl, Tryz.underlying53, Tryz.underlying88, by kernel_rfl, rfl, Tryz.underlying85, Tryz.underlying86, ⟨by kernel_rfl, by kernel_rfl⟩, ⟨Tryz.underlying196, by kernel_rfl, by kernel_rfl, by kernel_rfl⟩, ⟨Tryz.underlying198, by kernel_rfl, by kernel_rfl, by kernel_rfl⟩, rfl, rfl⟩

set_option maxRecDepth 100000 in
theorem lifted (os : Os) (started : os.Started) (H : Type) (enc : TypeId × Value → H) :
    ReturnsInHanded {} Tryz.checked os 4 .any (fun w args => (Rows.fnExactFormatConsoleSpec.pre enc Tryz.prog Tryz.f4 Rows.fnExactFormatConsoleRow.domain false w args ∧ laidMet Tryz.prog Rows.fnExactFormatConsoleRow.laid w) ∧ sizedMet enc Tryz.prog Tryz.f4 (OpenSpec.ofChange Rows.fnExactFormatConsoleSpec) false w args)
      (Rows.fnExactFormatConsoleSpec.post enc Tryz.prog Tryz.f4 false true false false) := by
  refine returnsInHanded_both (C := Tryz.checked) (X := fun w _ => laidMet Tryz.prog Rows.fnExactFormatConsoleRow.laid w) (fun _ _ _ hh h => h.of_heap hh) own started (by kernel_rfl) Tryz.func4
    (ChangeSpec.witness_at (enc := enc) (C := Tryz.checked) (os := os) (X := fun w _ => laidMet Tryz.prog Rows.fnExactFormatConsoleRow.laid w) false (laidWorld os) #[.agg #[.slice none 0 0, .slice none 0 0, .slice none 0 0, .slice none 0 0, .string ⟨#[]⟩, .string ⟨#[]⟩, .int .i64 0]] 8 rfl (by kernel_rfl) (by kernel_rfl) (by kernel_rfl) (by kernel_rfl) (by kernel_rfl) (laid_met os _)) ?_
  intro W base args ds gs before hval0 hW hsh hL
  have hval : ∀ (j : Nat) t v, Tryz.f4.params[j]? = some t → args[j]? = some v → Value.okWide Tryz.prog W .any base t v := hval0
  have hW' := hW
  obtain ⟨p, q, hA0, hV, rfl, hfz, hnd⟩ := hW
  have hA : DataW.TrodAll enc Tryz.prog W 0 (fun _ => true) true Tryz.f4.params.toList args.toList ds p := hA0
  rw [Tryz.params4] at hA hval
  obtain ⟨v0, vs0, d0, ds0, p0, q0, hargs, rfl, rfl, h0, r0⟩ := trodAll_cons hA
  obtain ⟨rfl, rfl, rfl⟩ := trodAll_nil r0
  obtain rfl : args = #[v0] := by cases args; simp_all
  obtain ⟨rfl, rfl⟩ := trodVars_none hV
  have k0 := h0
  have lt0 : ∀ x ∈ p0, x.block < W.heap.size := by obtain ⟨m, hm⟩ := k0; exact DataW.trod_lt m _ _ _ hm
  obtain ⟨_, _, _, _, hK0⟩ := ifty
  obtain ⟨a0, y0, RA0, z0, zl0⟩ := reads_cons 81 61 (eB := 4) Tryz.underlying30 rfl cells30 cells26 cells28 Tryz.underlying26 (by kernel_rfl) cells26 rfl Tryz.underlying22 Tryz.underlying23 Tryz.underlying24 ⟨by kernel_rfl, by kernel_rfl⟩ ⟨Tryz.underlying97, by kernel_rfl, by kernel_rfl, by kernel_rfl⟩ rfl hK0 ⟨Tryz.underlying28, by kernel_rfl, by kernel_rfl, by kernel_rfl⟩ (hval 0 30 v0 rfl rfl) h0
  clear hA0 hval0
  refine ((c_laws_FnExactFormatConsole a0 y0 z0 zl0).true (env_of hL hsh) (RelVs_c RA0 RelVs_nil)).mono fun e W' ⟨he, bel⟩ => ?_
  subst he
  exact ⟨_, rfl, _, _, _, [], _, [], hW', trodAll_mk1 (shut_bool Tryz.underlying4 _), (trodAll_cons_mk (Below.trod laidOut (by kernel_rfl) (of_decide_eq_true (by kernel_rfl)) k0 bel lt0) trodAll_mk0), rfl, bel.frame _, fun h => by cases h⟩

theorem over : Rows.fnExactFormatConsoleRow.holds Tryz.pinned (OpenSpec.ofChange Rows.fnExactFormatConsoleSpec) :=
  OpenClaim.holds_of_wide 4 Tryz.f4 rfl rfl rfl rfl rfl rfl rfl ⟨rfl, rfl, rfl, rfl, rfl⟩ rfl rfl rfl rfl rfl (by kernel_rfl) Tryz.func4 (by kernel_rfl)
    (of_decide_eq_true (by kernel_rfl)) (by unfold Func.isWrapper; first | (rw [if_pos (by decide +kernel)]; kernel_rfl) | (rw [if_neg (by decide +kernel)]; exact ⟨rfl, rfl⟩))
    (fun os started H enc _ => lifted os started H enc)


theorem card : Claim7.holds Tryz.pinned (.plain (OpenSpec.ofChange Rows.fnExactFormatConsoleSpec)) Rows.fnExactFormatConsoleCard :=
  Claim7.holds_tied_plain_at .later [] [.data, .data, .data] true (true, "d785fee1504cbfa56eadeae754f5a20a39460c312187bb8c9f7516dfbdae787d") false
    over (fun _ h => by cases h) (by kernel_rfl) (fun _ h => by cases h) fnExactFormatConsole_row_tie rfl ⟨rfl, rfl⟩ (by kernel_rfl) rfl
    (fun f fn hf hfn => by
      obtain rfl : f = 4 := Option.some.inj ((show Tryz.prog.funcNamed Rows.fnExactFormatConsoleRow.func = some 4 by kernel_rfl).symm.trans hf) |>.symm
      obtain rfl : fn = Tryz.f4 := (Option.some.inj (Tryz.func4.symm.trans hfn)).symm
      exact ⟨by kernel_rfl, fun j t ht => by
        rw [Tryz.params4] at ht
        have hm := Array.mem_of_getElem? ht
        have hp : t = 30 := by simpa using hm
        rcases hp with rfl
        · exact (show Tryz.prog.wantsStandIn 30 = false by kernel_rfl)⟩)
    (by kernel_rfl)

theorem proved : Rows.FnExactFormatConsoleCardSaid := card
#print axioms proved
end Go.Proofs.YtieidkjfeboepaaGreatDoor.fnExactFormatConsoleDone
