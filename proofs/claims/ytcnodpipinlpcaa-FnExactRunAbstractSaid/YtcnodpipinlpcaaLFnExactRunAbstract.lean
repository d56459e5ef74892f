/- The join: the contract of FnExactRunAbstract, lifted to its statement. -/
import Derived.Test.YtcnodpipinlpcaaPFnExactRunAbstractD
import Derived.Test.YtcnodpipinlpcaaRows
import Derived.WalkKit
import Derived.ProofKit
import Derived.OpenShut
import Derived.ShutString
import Derived.ChangeOld
import Derived.Below
import Derived.Carry
namespace Go.Proofs.Ytcnodpipinlpcaa.fnExactRunAbstractDone
open Go Go.ChangeShapes Go.WideShapes Go.ChangeAt Go.RowKit Go.Rf
open Go.ChangeMaps (open_string shut_string)
set_option linter.unusedVariables false

theorem own : ownKnob Try.prog.godebug = Option.none := by kernel_rfl
theorem laidOut : laidOutB Try.prog = true := by kernel_rfl
theorem cells66 : Try.prog.cellsOf 66 = 2 := by kernel_rfl
theorem of_Route : ∀ c, CellsOK [.int .i64, .int .i64] c → ∃ x : Route, c = encRo x := by
  intro c h
  simp only [CellsOK, CellOK] at h
  obtain ⟨_, r0, rfl, ⟨n0, rfl, _⟩, h⟩ := h
  obtain ⟨_, r1, rfl, ⟨n1, rfl, _⟩, h⟩ := h
  subst h
  exact ⟨⟨n0, n1⟩, rfl⟩
theorem cells27 : Try.prog.cellsOf 27 = 5 := by kernel_rfl
theorem cells42 : Try.prog.cellsOf 42 = 4 := by kernel_rfl
theorem of_MStep : ∀ c, CellsOK [.int .i64, .int .i64, .int .i64, .int .i64] c → ∃ x : MStep, c = encMc x := by
  intro c h
  simp only [CellsOK, CellOK] at h
  obtain ⟨_, r0, rfl, ⟨n0, rfl, _⟩, h⟩ := h
  obtain ⟨_, r1, rfl, ⟨n1, rfl, _⟩, h⟩ := h
  obtain ⟨_, r2, rfl, ⟨n2, rfl, _⟩, h⟩ := h
  obtain ⟨_, r3, rfl, ⟨n3, rfl, _⟩, h⟩ := h
  subst h
  exact ⟨⟨n0, n1, n2, n3⟩, rfl⟩

set_option maxRecDepth 100000 in
theorem lifted (os : Os) (started : os.Started) (H : Type) (enc : TypeId × Value → H) :
    ReturnsInHanded {} Try.checked os 6 .any (Rows.fnExactRunAbstractSpec.pre6 enc Try.prog Try.f6 Rows.fnExactRunAbstractRow.domain false) (Rows.fnExactRunAbstractSpec.post enc Try.prog Try.f6 false true false false) := by
  refine returnsInHanded_of_change (C := Try.checked) own started (by kernel_rfl) Try.func6
    (ChangeSpec.witness6 (enc := enc) (C := Try.checked) false ⟨#[], #[.slice none 0 0, .agg #[.slice none 0 0, .slice none 0 0, .slice none 0 0, .slice none 0 0, .slice none 0 0], .slice none 0 0], []⟩ 8 (by kernel_rfl) (by kernel_rfl) (by kernel_rfl) (by kernel_rfl)) ?_
  intro W base args ds gs before hval0 hW hcnd _
  have hval : ∀ (j : Nat) t v, Try.f6.params[j]? = some t → args[j]? = some v → Value.okWide Try.prog W .any base t v := hval0
  have hW' := hW
  obtain ⟨p, q, hA0, hV, rfl, hfz, hnd⟩ := hW
  have hA : DataW.TrodAll enc Try.prog W 0 (fun _ => true) true Try.f6.params.toList args.toList ds p := hA0
  rw [Try.params6] at hA hval
  obtain ⟨v0, vs0, d0, ds0, p0, q0, hargs, rfl, rfl, h0, r0⟩ := trodAll_cons hA
  obtain ⟨v1, vs1, d1, ds1, p1, q1, rfl, rfl, rfl, h1, r1⟩ := trodAll_cons r0
  obtain ⟨v2, vs2, d2, ds2, p2, q2, rfl, rfl, rfl, h2, r2⟩ := trodAll_cons r1
  obtain ⟨rfl, rfl, rfl⟩ := trodAll_nil r2
  obtain rfl : args = #[v0, v1, v2] := by cases args; simp_all
  obtain ⟨rfl, rfl⟩ := trodVars_none hV
  have k0 := h0
  have lt0 : ∀ x ∈ p0, x.block < W.heap.size := by obtain ⟨m, hm⟩ := k0; exact DataW.trod_lt m _ _ _ hm
  obtain ⟨ys0, q0, m0, o0⟩ := reads_slice (E := .str _ [.int .i64, .int .i64]) Try.underlying22 ⟨Try.underlying66, by kernel_rfl, cells66, by kernel_rfl⟩ (by decide) (okWide_slice Try.underlying22 (hval 0 22 v0 rfl rfl)) h0
  obtain ⟨a0, rfl⟩ := list_of of_Route _ o0
  have k1 := h1
  have lt1 : ∀ x ∈ p1, x.block < W.heap.size := by obtain ⟨m, hm⟩ := k1; exact DataW.trod_lt m _ _ _ hm
  obtain ⟨a1, RA1, z1⟩ := reads_abs (eB := 4) Try.underlying27 (by kernel_rfl) cells27 rfl Try.underlying23 Try.underlying24 Try.underlying25 (by kernel_rfl) ⟨by kernel_rfl, by kernel_rfl⟩ ⟨by kernel_rfl, by kernel_rfl⟩ (hval 1 27 v1 rfl rfl) h1
  have k2 := h2
  have lt2 : ∀ x ∈ p2, x.block < W.heap.size := by obtain ⟨m, hm⟩ := k2; exact DataW.trod_lt m _ _ _ hm
  obtain ⟨ys2, q2, m2, o2⟩ := reads_slice (E := .str _ [.int .i64, .int .i64, .int .i64, .int .i64]) Try.underlying50 ⟨Try.underlying42, by kernel_rfl, cells42, by kernel_rfl⟩ (by decide) (okWide_slice Try.underlying50 (hval 2 50 v2 rfl rfl)) h2
  obtain ⟨a2, rfl⟩ := list_of of_MStep _ o2
  clear hA0 hval0
  refine ((c_laws_FnExactRunAbstract a0 a1 a2 (by simpa [maxLen] using m0) (by simpa [maxLen] using m2) z1).true trivial (RelVs_lst q0 (RelVs_c RA1 (RelVs_lst q2 RelVs_nil)))).mono fun e W' ⟨he, bel⟩ => ?_
  subst he
  exact ⟨_, rfl, _, _, _, [], _, [], hW', trodAll_mk1 (shut_bool Try.underlying4 _), (trodAll_cons_mk (Below.trod laidOut (by kernel_rfl) (of_decide_eq_true (by kernel_rfl)) k0 bel lt0) (trodAll_cons_mk (Below.trod laidOut (by kernel_rfl) (of_decide_eq_true (by kernel_rfl)) k1 bel lt1) (trodAll_cons_mk (Below.trod laidOut (by kernel_rfl) (of_decide_eq_true (by kernel_rfl)) k2 bel lt2) trodAll_mk0))), rfl, bel.frame _, fun h => by cases h⟩

theorem over : Rows.fnExactRunAbstractRow.holds Try.pinned (OpenSpec.ofChange Rows.fnExactRunAbstractSpec) :=
  OpenClaim.holds_of_wide 6 Try.f6 rfl rfl rfl rfl rfl rfl rfl ⟨rfl, rfl, rfl, rfl, rfl⟩ rfl rfl rfl rfl rfl (by kernel_rfl) Try.func6 (by kernel_rfl)
    (of_decide_eq_true (by kernel_rfl)) (by unfold Func.isWrapper; first | (rw [if_pos (by decide +kernel)]; kernel_rfl) | (rw [if_neg (by decide +kernel)]; exact ⟨rfl, rfl⟩))
    (fun os started H enc _ => lifted os started H enc)

theorem proved : Rows.FnExactRunAbstractSaid := over
#print axioms proved
end Go.Proofs.Ytcnodpipinlpcaa.fnExactRunAbstractDone
