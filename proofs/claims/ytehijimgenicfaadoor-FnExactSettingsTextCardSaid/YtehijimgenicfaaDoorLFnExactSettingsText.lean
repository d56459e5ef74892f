/- The join: the contract of FnExactSettingsText, lifted to its statement. -/
import Derived.Test.YtehijimgenicfaaDoorRows
import Derived.Test.YtehijimgenicfaaDoorRfT
import Derived.Test.YtehijimgenicfaaDoorW4
import Derived.Test.YtehijimgenicfaaDoorE
import Derived.Test.YtehijimgenicfaaDoorCards
import Derived.Test.YtehijimgenicfaaDoorTie
import Derived.SevenTiedAt
import Derived.WalkKit
import Derived.ProofKit
import Derived.OpenShut
import Derived.ShutString
import Derived.ChangeOld
import Derived.Below
import Derived.Carry
namespace Go.Proofs.YtehijimgenicfaaDoor.fnExactSettingsTextDone
open Go Go.ChangeShapes Go.WideShapes Go.ChangeAt Go.RowKit Go.Rf
open Go.ChangeMaps (open_string shut_string)
set_option linter.unusedVariables false

theorem cells23 : Tryd.prog.cellsOf 23 = 6 := by kernel_rfl
theorem of_Setting : ∀ c, CellsOK [.int .i64, .str, .int .i64, .int .i64, .int .i64, .bool] c → ∃ x : Setting, c = encTc x ∧ x.n.size ≤ 9223372036854775807 := by
  intro c h
  simp only [CellsOK, CellOK] at h
  obtain ⟨_, r0, rfl, ⟨n0, rfl, _⟩, h⟩ := h
  obtain ⟨_, r1, rfl, ⟨n1, rfl, z1⟩, h⟩ := h
  obtain ⟨_, r2, rfl, ⟨n2, rfl, _⟩, h⟩ := h
  obtain ⟨_, r3, rfl, ⟨n3, rfl, _⟩, h⟩ := h
  obtain ⟨_, r4, rfl, ⟨n4, rfl, _⟩, h⟩ := h
  obtain ⟨_, r5, rfl, ⟨n5, rfl⟩, h⟩ := h
  subst h
  exact ⟨⟨n0, n1, n2, n3, n4, n5⟩, rfl, (by simpa [maxLen] using z1)⟩

set_option maxRecDepth 100000 in
theorem lifted (os : Os) (started : os.Started) (H : Type) (enc : TypeId × Value → H) :
    ReturnsInHanded {} Tryd.checked os 4 .any (fun w args => (Rows.fnExactSettingsTextSpec.pre enc Tryd.prog Tryd.f4 Rows.fnExactSettingsTextRow.domain false w args ∧ laidMet Tryd.prog Rows.fnExactSettingsTextRow.laid w) ∧ sizedMet enc Tryd.prog Tryd.f4 (OpenSpec.ofChange Rows.fnExactSettingsTextSpec) false w args)
      (Rows.fnExactSettingsTextSpec.post enc Tryd.prog Tryd.f4 false true false false) := by
  refine returnsInHanded_both (C := Tryd.checked) (X := fun w _ => laidMet Tryd.prog Rows.fnExactSettingsTextRow.laid w) (fun _ _ _ hh h => h.of_heap hh) own started (by kernel_rfl) Tryd.func4
    (ChangeSpec.witness_at (enc := enc) (C := Tryd.checked) (os := os) (X := fun w _ => laidMet Tryd.prog Rows.fnExactSettingsTextRow.laid w) false (laidWorld os) #[.slice none 0 0] 8 rfl (by kernel_rfl) (by kernel_rfl) (by kernel_rfl) (by kernel_rfl) (by kernel_rfl) (laid_met os _)) ?_
  intro W base args ds gs before hval0 hW hsh hL
  have hval : ∀ (j : Nat) t v, Tryd.f4.params[j]? = some t → args[j]? = some v → Value.okWide Tryd.prog W .any base t v := hval0
  have hW' := hW
  obtain ⟨p, q, hA0, hV, rfl, hfz, hnd⟩ := hW
  have hA : DataW.TrodAll enc Tryd.prog W 0 (fun _ => true) true Tryd.f4.params.toList args.toList ds p := hA0
  rw [Tryd.params4] at hA hval
  obtain ⟨v0, vs0, d0, ds0, p0, q0, hargs, rfl, rfl, h0, r0⟩ := trodAll_cons hA
  obtain ⟨rfl, rfl, rfl⟩ := trodAll_nil r0
  obtain rfl : args = #[v0] := by cases args; simp_all
  obtain ⟨rfl, rfl⟩ := trodVars_none hV
  have k0 := h0
  have lt0 : ∀ x ∈ p0, x.block < W.heap.size := by obtain ⟨m, hm⟩ := k0; exact DataW.trod_lt m _ _ _ hm
  obtain ⟨ys0, q0, m0, o0⟩ := reads_slice (E := .str _ [.int .i64, .str, .int .i64, .int .i64, .int .i64, .bool]) Tryd.underlying30 ⟨Tryd.underlying23, by kernel_rfl, cells23, by kernel_rfl⟩ (by decide) (okWide_slice Tryd.underlying30 (hval 0 30 v0 rfl rfl)) h0
  obtain ⟨a0, rfl, z0⟩ := list_of2 of_Setting _ o0
  clear hA0 hval0
  refine ((c_laws_FnExactSettingsText a0 (by simpa [maxLen] using m0) (getD_of z0)).true (env_of hL hsh) (RelVs_lst q0 RelVs_nil)).mono fun e W' ⟨he, bel⟩ => ?_
  subst he
  exact ⟨_, rfl, _, _, _, [], _, [], hW', trodAll_mk1 (shut_bool Tryd.underlying4 _), (trodAll_cons_mk (Below.trod laidOut (by kernel_rfl) (of_decide_eq_true (by kernel_rfl)) k0 bel lt0) trodAll_mk0), rfl, bel.frame _, fun h => by cases h⟩

theorem over : Rows.fnExactSettingsTextRow.holds Tryd.pinned (OpenSpec.ofChange Rows.fnExactSettingsTextSpec) :=
  OpenClaim.holds_of_wide 4 Tryd.f4 rfl rfl rfl rfl rfl rfl rfl ⟨rfl, rfl, rfl, rfl, rfl⟩ rfl rfl rfl rfl rfl (by kernel_rfl) Tryd.func4 (by kernel_rfl)
    (of_decide_eq_true (by kernel_rfl)) (by unfold Func.isWrapper; first | (rw [if_pos (by decide +kernel)]; kernel_rfl) | (rw [if_neg (by decide +kernel)]; exact ⟨rfl, rfl⟩))
    (fun os started H enc _ => lifted os started H enc)


theorem card : Claim7.holds Tryd.pinned (.plain (OpenSpec.ofChange Rows.fnExactSettingsTextSpec)) Rows.fnExactSettingsTextCard :=
  Claim7.holds_tied_plain_at .later [] [.data, .data, .data] true (true, "f709f7166cd785006b9a153a41aded318da8dcfac0d3627cb613689039a57090") true
    over (fun _ h => by cases h) (by kernel_rfl) (fun _ h => by cases h) fnExactSettingsText_row_tie rfl ⟨rfl, rfl⟩ (by kernel_rfl) rfl
    (fun f fn hf hfn => by
      obtain rfl : f = 4 := Option.some.inj ((show Tryd.prog.funcNamed Rows.fnExactSettingsTextRow.func = some 4 by kernel_rfl).symm.trans hf) |>.symm
      obtain rfl : fn = Tryd.f4 := (Option.some.inj (Tryd.func4.symm.trans hfn)).symm
      exact ⟨by kernel_rfl, fun j t ht => by
        rw [Tryd.params4] at ht
        have hm := Array.mem_of_getElem? ht
        have hp : t = 30 := by simpa using hm
        rcases hp with rfl
        · exact (show Tryd.prog.wantsStandIn 30 = false by kernel_rfl)⟩)
    (by kernel_rfl)

theorem proved : Rows.FnExactSettingsTextCardSaid := card
#print axioms proved
end Go.Proofs.YtehijimgenicfaaDoor.fnExactSettingsTextDone
