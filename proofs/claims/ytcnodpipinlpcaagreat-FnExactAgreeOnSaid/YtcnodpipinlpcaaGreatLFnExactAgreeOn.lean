/- The join: the contract of FnExactAgreeOn, lifted to its statement. -/
import Derived.Test.YtcnodpipinlpcaaGreatPFnExactAgreeOnI
import Derived.Test.YtcnodpipinlpcaaGreatRows
import Derived.WalkKit
import Derived.ProofKit
import Derived.OpenShut
import Derived.ShutString
import Derived.ChangeOld
import Derived.Below
import Derived.Carry
namespace Go.Proofs.YtcnodpipinlpcaaGreat.fnExactAgreeOnDone
open Go Go.ChangeShapes Go.WideShapes Go.ChangeAt Go.RowKit Go.Rf
open Go.ChangeMaps (open_string shut_string)
set_option linter.unusedVariables false
theorem own : ownKnob Tryz.prog.godebug = Option.none := by kernel_rfl
theorem laidOut : laidOutB Tryz.prog = true := by kernel_rfl
theorem cells66 : Tryz.prog.cellsOf 66 = 4 := by kernel_rfl
theorem ifty : ∃ a b c d, IfTy Tryz.prog 170 26 168 165 166 246 248 a b c d := ⟨_, _, _, _, Tryz.underlying170, rfl, by kernel_rfl, by kernel_rfl, by kernel_rfl, by kernel_rfl, Tryz.underlying26, Tryz.underlying168, by kernel_rfl, rfl, Tryz.underlying165, Tryz.underlying166, ⟨by kernel_rfl, by kernel_rfl⟩, ⟨Tryz.underlying246, by kernel_rfl, by kernel_rfl, by kernel_rfl⟩, ⟨Tryz.underlying248, by kernel_rfl, by kernel_rfl, by kernel_rfl⟩, rfl, rfl⟩
theorem cells136 : Tryz.prog.cellsOf 136 = 4 := by kernel_rfl
theorem of_MStep : ∀ c, CellsOK [.int .i64, .int .i64, .int .i64, .int .i64] c → ∃ x : MStep, c = encMc x := by
 intro c h
 simp only [CellsOK, CellOK] at h
 obtain ⟨_, r0, rfl, ⟨n0, rfl, _⟩, h⟩ := h
 obtain ⟨_, r1, rfl, ⟨n1, rfl, _⟩, h⟩ := h
 obtain ⟨_, r2, rfl, ⟨n2, rfl, _⟩, h⟩ := h
 obtain ⟨_, r3, rfl, ⟨n3, rfl, _⟩, h⟩ := h
 subst h
 exact ⟨⟨n0, n1, n2, n3⟩, rfl⟩
set_option maxRecDepth 100000 in
theorem lifted (os : Os) (started : os.Started) (H : Type) (enc : TypeId × Value → H) :
 ReturnsInHanded {} Tryz.checked os 6 .any (Rows.fnExactAgreeOnSpec.pre6 enc Tryz.prog Tryz.f6 Rows.fnExactAgreeOnRow.domain false) (Rows.fnExactAgreeOnSpec.post enc Tryz.prog Tryz.f6 false true false false) := by
 refine returnsInHanded_of_change (C := Tryz.checked) own started (by kernel_rfl) Tryz.func6
  (ChangeSpec.witness6 (enc := enc) (C := Tryz.checked) false ⟨#[], #[.agg #[.slice none 0 0, .slice none 0 0, .slice none 0 0, .slice none 0 0], .slice none 0 0], []⟩ 8 (by kernel_rfl) (by kernel_rfl) (by kernel_rfl) (by kernel_rfl)) ?_
 intro W base args ds gs before hval0 hW hcnd _
 have hval : ∀ (j : Nat) t v, Tryz.f6.params[j]? = some t → args[j]? = some v → Value.okWide Tryz.prog W .any base t v := hval0
 have hW' := hW
 obtain ⟨p, q, hA0, hV, rfl, hfz, hnd⟩ := hW
 have hA : DataW.TrodAll enc Tryz.prog W 0 (fun _ => true) true Tryz.f6.params.toList args.toList ds p := hA0
 rw [Tryz.params6] at hA hval
 obtain ⟨v0, vs0, d0, ds0, p0, q0, hargs, rfl, rfl, h0, r0⟩ := trodAll_cons hA
 obtain ⟨v1, vs1, d1, ds1, p1, q1, rfl, rfl, rfl, h1, r1⟩ := trodAll_cons r0
 obtain ⟨rfl, rfl, rfl⟩ := trodAll_nil r1
 obtain rfl : args = #[v0, v1] := by cases args; simp_all
 obtain ⟨rfl, rfl⟩ := trodVars_none hV
 have k0 := h0
 have lt0 : ∀ x ∈ p0, x.block < W.heap.size := by obtain ⟨m, hm⟩ := k0; exact DataW.trod_lt m _ _ _ hm
 obtain ⟨_, _, _, _, hK0⟩ := ifty
 obtain ⟨a0, RA0, z0⟩ := reads_mach 154 183 (eB := 4) Tryz.underlying66 (by kernel_rfl) cells66 rfl Tryz.underlying47 Tryz.underlying25 Tryz.underlying64 ⟨by kernel_rfl, by kernel_rfl⟩ ⟨Tryz.underlying120, by kernel_rfl, by kernel_rfl, by kernel_rfl⟩ rfl hK0 (hval 0 66 v0 rfl rfl) h0
 have k1 := h1
 have lt1 : ∀ x ∈ p1, x.block < W.heap.size := by obtain ⟨m, hm⟩ := k1; exact DataW.trod_lt m _ _ _ hm
 obtain ⟨ys1, q1, m1, o1⟩ := reads_slice (E := .str _ [.int .i64, .int .i64, .int .i64, .int .i64]) Tryz.underlying72 ⟨Tryz.underlying136, by kernel_rfl, cells136, by kernel_rfl⟩ (by decide) (okWide_slice Tryz.underlying72 (hval 1 72 v1 rfl rfl)) h1
 obtain ⟨a1, rfl⟩ := list_of of_MStep _ o1
 clear hA0 hval0
 refine ((c_laws_FnExactAgreeOn a0 a1 (by simpa [maxLen] using m1) z0).true trivial (RelVs_c RA0 (RelVs_lst q1 RelVs_nil))).mono fun e W' ⟨he, bel⟩ => ?_
 subst he
 exact ⟨_, rfl, _, _, _, [], _, [], hW', trodAll_mk1 (shut_bool Tryz.underlying4 _), (trodAll_cons_mk (Below.trod laidOut (by kernel_rfl) (of_decide_eq_true (by kernel_rfl)) k0 bel lt0) (trodAll_cons_mk (Below.trod laidOut (by kernel_rfl) (of_decide_eq_true (by kernel_rfl)) k1 bel lt1) trodAll_mk0)), rfl, bel.frame _, fun h => by cases h⟩
theorem over : Rows.fnExactAgreeOnRow.holds Tryz.pinned (OpenSpec.ofChange Rows.fnExactAgreeOnSpec) :=
 OpenClaim.holds_of_wide 6 Tryz.f6 rfl rfl rfl rfl rfl rfl rfl ⟨rfl, rfl, rfl, rfl, rfl⟩ rfl rfl rfl rfl rfl (by kernel_rfl) Tryz.func6 (by kernel_rfl)
  (of_decide_eq_true (by kernel_rfl)) (by unfold Func.isWrapper; first | (rw [if_pos (by decide +kernel)]; kernel_rfl) | (rw [if_neg (by decide +kernel)]; exact ⟨rfl, rfl⟩))
  (fun os started H enc _ => lifted os started H enc)
theorem proved : Rows.FnExactAgreeOnSaid := over
#print axioms proved
end Go.Proofs.YtcnodpipinlpcaaGreat.fnExactAgreeOnDone
