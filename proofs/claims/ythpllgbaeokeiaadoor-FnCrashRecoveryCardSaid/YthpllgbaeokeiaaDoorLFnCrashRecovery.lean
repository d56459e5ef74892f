/- The join: the contract of FnCrashRecovery, lifted to its statement. -/
import Derived.Test.YthpllgbaeokeiaaDoorPFnCrashRecoveryC
import Derived.Test.YthpllgbaeokeiaaDoorRows
import Derived.Test.YthpllgbaeokeiaaDoorCards
import Derived.Test.YthpllgbaeokeiaaDoorTie
import Derived.SevenTiedAt
import Derived.WalkKit
import Derived.ProofKit
import Derived.OpenShut
import Derived.ShutString
import Derived.ChangeOld
import Derived.Below
import Derived.Carry
namespace Go.Proofs.YthpllgbaeokeiaaDoor.fnCrashRecoveryDone
open Go Go.ChangeShapes Go.WideShapes Go.ChangeAt Go.RowKit Go.Rf
open Go.ChangeMaps (open_string shut_string)
set_option linter.unusedVariables false


set_option maxRecDepth 100000 in
theorem lifted (os : Os) (started : os.Started) (H : Type) (enc : TypeId × Value → H) :
    ReturnsInHanded {} Tryd.checked os 12 .any (fun w args => (Rows.fnCrashRecoverySpec.pre enc Tryd.prog Tryd.f12 Rows.fnCrashRecoveryRow.domain false w args ∧ laidMet Tryd.prog Rows.fnCrashRecoveryRow.laid w) ∧ sizedMet enc Tryd.prog Tryd.f12 (OpenSpec.ofChange Rows.fnCrashRecoverySpec) false w args)
      (Rows.fnCrashRecoverySpec.post enc Tryd.prog Tryd.f12 false true false false) := by
  refine returnsInHanded_both (C := Tryd.checked) (X := fun w _ => laidMet Tryd.prog Rows.fnCrashRecoveryRow.laid w) (fun _ _ _ hh h => h.of_heap hh) own started (by kernel_rfl) Tryd.func12
    (ChangeSpec.witness_at (enc := enc) (C := Tryd.checked) (os := os) (X := fun w _ => laidMet Tryd.prog Rows.fnCrashRecoveryRow.laid w) false (laidWorld os) #[.slice none 0 0] 8 rfl (by kernel_rfl) (by kernel_rfl) (by kernel_rfl) (by kernel_rfl) (by kernel_rfl) (laid_met os _)) ?_
  intro W base args ds gs before hval0 hW hsh hL
  have hval : ∀ (j : Nat) t v, Tryd.f12.params[j]? = some t → args[j]? = some v → Value.okWide Tryd.prog W .any base t v := hval0
  have hW' := hW
  obtain ⟨p, q, hA0, hV, rfl, hfz, hnd⟩ := hW
  have hA : DataW.TrodAll enc Tryd.prog W 0 (fun _ => true) true Tryd.f12.params.toList args.toList ds p := hA0
  rw [Tryd.params12] at hA hval
  obtain ⟨v0, vs0, d0, ds0, p0, q0, hargs, rfl, rfl, h0, r0⟩ := trodAll_cons hA
  obtain ⟨rfl, rfl, rfl⟩ := trodAll_nil r0
  obtain rfl : args = #[v0] := by cases args; simp_all
  obtain ⟨rfl, rfl⟩ := trodVars_none hV
  have k0 := h0
  have lt0 : ∀ x ∈ p0, x.block < W.heap.size := by obtain ⟨m, hm⟩ := k0; exact DataW.trod_lt m _ _ _ hm
  obtain ⟨ys0, q0, m0, o0⟩ := reads_slice (E := .one (.int .u8)) Tryd.underlying53 ⟨by kernel_rfl, by kernel_rfl⟩ (by decide) (okWide_slice Tryd.underlying53 (hval 0 53 v0 rfl rfl)) h0
  obtain ⟨a0, rfl, z0⟩ := list_of2 of_u8 _ o0
  clear hA0 hval0
  refine ((c_laws_FnCrashRecovery a0 (by simpa [maxLen] using m0) (u8_all z0)).true (env_of hL hsh) (RelVs_lst q0 RelVs_nil)).mono fun e W' ⟨he, bel⟩ => ?_
  subst he
  exact ⟨_, rfl, _, _, _, [], _, [], hW', trodAll_mk1 (shut_bool Tryd.underlying4 _), (trodAll_cons_mk (Below.trod laidOut (by kernel_rfl) (of_decide_eq_true (by kernel_rfl)) k0 bel lt0) trodAll_mk0), rfl, bel.frame _, fun h => by cases h⟩

theorem over : Rows.fnCrashRecoveryRow.holds Tryd.pinned (OpenSpec.ofChange Rows.fnCrashRecoverySpec) :=
  OpenClaim.holds_of_wide 12 Tryd.f12 rfl rfl rfl rfl rfl rfl rfl ⟨rfl, rfl, rfl, rfl, rfl⟩ rfl rfl rfl rfl rfl (by kernel_rfl) Tryd.func12 (by kernel_rfl)
    (of_decide_eq_true (by kernel_rfl)) (by unfold Func.isWrapper; first | (rw [if_pos (by decide +kernel)]; kernel_rfl) | (rw [if_neg (by decide +kernel)]; exact ⟨rfl, rfl⟩))
    (fun os started H enc _ => lifted os started H enc)


theorem card : Claim7.holds Tryd.pinned (.plain (OpenSpec.ofChange Rows.fnCrashRecoverySpec)) Rows.fnCrashRecoveryCard :=
  Claim7.holds_tied_plain_at .later [] [.data, .data, .data] true (true, "579c5b992c8826e16e422fd1b312d666f5d41d8c8d96dc0d5f42e92651d9abc7") false
    over (fun _ h => by cases h) (by kernel_rfl) (fun _ h => by cases h) fnCrashRecovery_row_tie rfl ⟨rfl, rfl⟩ (by kernel_rfl) rfl
    (fun f fn hf hfn => by
      obtain rfl : f = 12 := Option.some.inj ((show Tryd.prog.funcNamed Rows.fnCrashRecoveryRow.func = some 12 by kernel_rfl).symm.trans hf) |>.symm
      obtain rfl : fn = Tryd.f12 := (Option.some.inj (Tryd.func12.symm.trans hfn)).symm
      exact ⟨by kernel_rfl, fun j t ht => by
        rw [Tryd.params12] at ht
        have hm := Array.mem_of_getElem? ht
        have hp : t = 53 := by simpa using hm
        rcases hp with rfl
        · exact (show Tryd.prog.wantsStandIn 53 = false by kernel_rfl)⟩)
    (by kernel_rfl)

theorem proved : Rows.FnCrashRecoveryCardSaid := card
#print axioms proved
end Go.Proofs.YthpllgbaeokeiaaDoor.fnCrashRecoveryDone
