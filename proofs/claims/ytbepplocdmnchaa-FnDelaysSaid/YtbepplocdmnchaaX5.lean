/- Walks through functions of the program, one contract each (written by gen.py). -/
import Derived.Test.YtbepplocdmnchaaX3
import Derived.Test.YtbepplocdmnchaaX4
import Derived.Test.YtbepplocdmnchaaM2
import Derived.Test.YtbepplocdmnchaaW3
import Derived.Test.YtbepplocdmnchaaW9
import Derived.Test.YtbepplocdmnchaaW14
import Derived.Test.YtbepplocdmnchaaW13
import Derived.Test.YtbepplocdmnchaaW17
import Derived.Test.YtbepplocdmnchaaW7
set_option maxRecDepth 20000
set_option linter.unusedVariables false
set_option linter.unusedSimpArgs false
namespace Go.Proofs.Ytbepplocdmnchaa
open Go Go.Rf

theorem c_laws_FnDelays (l : List Int) (h0 : l.length ≤ 9223372036854775807) (hb : ∀ j, 0 ≤ l.getD j default ∧ l.getD j default ≤ 255) : Ctr Try.prog 14 [.lst 1 (l.map encU)] (.one (.v (.bool true))) := by
  refine Ctr.of (n := 216) G Try.func14 rfl (by kernel_rfl) rfl rfl rfl (fun w0 => ?_)
  refine W_seq (fun K1 hK1 => ?_)
  refine W_region (WL_cons rfl (WX_q rfl rfl (q_assign rfl rfl) (?_)))
  refine WL_nil (hK1 _ ?_)
  clear hK1 K1
  refine W_seq (fun K2 hK2 => ?_)
  refine W_seq (fun K3 hK3 => ?_)
  refine W_region (WL_cons rfl (WX_q rfl rfl (q_move rfl rfl) (WL_cons rfl (?_))))
  refine WX_q rfl rfl (q_call rfl (ArgsOK.of rfl) (c_laws_rBig _ (by first | assumption | omega)) rfl) ?_
  refine WL_nil (hK3 _ ?_)
  clear hK3 K3
  refine W_cond rfl (fun h1 => ?_) (fun h1 => ?_)
  · try rw [h1]
    try simp only [decide_eq_true_eq, decide_eq_false_iff_not, beq_iff_eq, bne_iff_ne, ne_eq, Bool.not_eq_true', Bool.not_eq_false', beq_eq_false_iff_ne, bne_eq_false_iff_eq, Bool.not_eq_true, Bool.not_eq_false, Int.not_lt, Int.not_le, gt_iff_lt, ge_iff_le, Bool.and_eq_true, Bool.and_eq_false_iff, Bool.or_eq_true, Bool.or_eq_false_iff] at h1
    refine W_seq (fun K4 hK4 => ?_)
    refine W_region (WL_cons rfl (WX_q rfl rfl (q_assign rfl rfl) (?_)))
    refine WL_nil (hK4 _ ?_)
    clear hK4 K4
    refine W_ret (fin_one rfl (rc_v ?_))
    all_goals clear hK2 K2
    all_goals (first | rfl | (simp_all; done))
  · try rw [h1]
    try simp only [decide_eq_true_eq, decide_eq_false_iff_not, beq_iff_eq, bne_iff_ne, ne_eq, Bool.not_eq_true', Bool.not_eq_false', beq_eq_false_iff_ne, bne_eq_false_iff_eq, Bool.not_eq_true, Bool.not_eq_false, Int.not_lt, Int.not_le, gt_iff_lt, ge_iff_le, Bool.and_eq_true, Bool.and_eq_false_iff, Bool.or_eq_true, Bool.or_eq_false_iff] at h1
    have hl : bytesOK l := ⟨by omega, hb⟩
    refine W_skip (hK2 _ ?_)
    clear hK2 K2
    refine W_seq (fun K5 hK5 => ?_)
    refine W_region (WL_cons rfl (WX_q rfl rfl (q_move rfl rfl) (WL_cons rfl (?_))))
    refine WX_callx 1 [] rfl rfl rfl (c_spec_DrawDelayClasses l hl) rfl RowsIn.nil rfl (fun _ => rfl) rfl (fun x1 ⟨hv1, hc1⟩ => ?_)
    refine WL_cons rfl (WX_q rfl rfl (q_assign rfl rfl) (?_))
    refine WL_nil (hK5 _ ?_)
    clear hK5 K5
    refine W_seq (fun K6 hK6 => ?_)
    refine W_region (WL_cons rfl (WX_q rfl rfl (q_move rfl rfl) (WL_cons rfl (?_))))
    refine WX_call 2 rfl rfl rfl (ArgsOK.of rfl) (c_impl_DelayClasses _ (by have := hv1; omega)) rfl rfl ?_
    refine WL_cons rfl (WX_q rfl rfl (q_move rfl rfl) (WL_cons rfl (WX_q rfl rfl (q_extract rfl rfl rfl) (WL_cons rfl (WX_q rfl rfl (q_extract rfl rfl rfl) (WL_cons rfl (WX_q rfl rfl (q_assign rfl rfl) (WL_cons rfl (WX_q rfl rfl (q_assign rfl rfl) (?_))))))))))
    refine WL_nil (hK6 _ ?_)
    clear hK6 K6
    refine W_join (nt := 216) (T1 := [(3, .own 0), (0, .lst 1 (l.map encU))]) (M1 := [(0, some (.row 48 3 (x1.map encSc)))]) 60 [0, 3] [0] ?_ ?_
    · skip
      refine W_seq (fun K8 hK8 => ?_)
      refine W_region (WL_cons rfl (WX_q rfl rfl (q_move rfl rfl) (WL_cons rfl (?_))))
      refine WX_call 3 rfl rfl rfl (ArgsOK.of rfl) (c_spec_DelayClasses _ (by have := hv1; omega)) rfl rfl ?_
      refine WL_cons rfl (WX_q rfl rfl (q_move rfl rfl) (WL_cons rfl (WX_q rfl rfl (q_extract rfl rfl rfl) (WL_cons rfl (WX_q rfl rfl (q_extract rfl rfl rfl) (WL_cons rfl (WX_q rfl rfl (q_assign rfl rfl) (WL_cons rfl (WX_q rfl rfl (q_assign rfl rfl) (?_))))))))))
      refine WL_nil (hK8 _ ?_)
      clear hK8 K8
      refine W_seq (fun K9 hK9 => ?_)
      refine W_region (WL_cons rfl (WX_q rfl rfl (q_move rfl rfl) (WL_cons rfl (WX_q rfl rfl (q_move rfl rfl) (WL_cons rfl (?_))))))
      refine WX_q rfl rfl (q_eqv (v' := .bool false) (q_bne (G 4 _ rfl).1 rfl rfl rfl) (by first | rfl | (simp; done) | (simp [dcT_sum h2]; done))) ?_
      refine WL_cons rfl (WX_q rfl rfl (q_move rfl rfl) (WL_run rfl rfl rfl (WX_q rfl rfl (q_move rfl rfl) (WL_run rfl rfl rfl (WX_q rfl rfl (q_move rfl rfl) (WL_run rfl rfl rfl (?_)))))))
      refine WX_q rfl rfl (q_call rfl (ArgsOK.of rfl) (c_laws_rInts _ (by have := dcT_len (xs := x1); omega)) rfl) ?_
      refine WL_run rfl rfl rfl (WX_q rfl rfl (q_not_t rfl rfl) (WL_cons rfl (WX_q rfl rfl (q_pick_f rfl rfl rfl) (WL_cons rfl (WX_q rfl rfl (q_move rfl rfl) (WL_run rfl rfl rfl (WX_q rfl rfl (q_move rfl rfl) (WL_run rfl rfl rfl (WX_q rfl rfl (q_move rfl rfl) (WL_run rfl rfl rfl (?_)))))))))))
      refine WX_q rfl rfl (q_call rfl (ArgsOK.of rfl) (c_impl_AreSamples _ (by have := hv1; omega)) rfl) ?_
      refine WL_run rfl rfl rfl (?_)
      refine WX_q rfl rfl (q_eqv (v' := .bool false) (q_bne (G 4 _ rfl).1 rfl rfl rfl) (by first | rfl | (simp; done) | (simp [dcT_sum h2]; done))) ?_
      refine WL_cons rfl (WX_q rfl rfl (q_pick_f rfl rfl rfl) (WL_cons rfl (WX_q rfl rfl (q_move rfl rfl) (WL_run rfl rfl rfl (WX_q rfl rfl (q_move rfl rfl) (WL_run rfl rfl rfl (WX_q rfl rfl (q_move rfl rfl) (WL_part rfl rfl rfl (fun h2 => ?_) (fun h2 => ?_)))))))))
      · try rw [h2]
        try simp only [decide_eq_true_eq, decide_eq_false_iff_not, beq_iff_eq, bne_iff_ne, ne_eq, Bool.not_eq_true', Bool.not_eq_false', beq_eq_false_iff_ne, bne_eq_false_iff_eq, Bool.not_eq_true, Bool.not_eq_false, Int.not_lt, Int.not_le, gt_iff_lt, ge_iff_le, Bool.and_eq_true, Bool.and_eq_false_iff, Bool.or_eq_true, Bool.or_eq_false_iff] at h2
        refine WL_run rfl rfl rfl (WX_q rfl rfl (q_move rfl rfl) (WL_run rfl rfl rfl (?_)))
        refine WX_q rfl rfl (q_call rfl (ArgsOK.of rfl) (c_laws_rSum (dcT x1) (by have := dcT_len (xs := x1); omega) (dcT_in hv1)) rfl) ?_
        refine WL_run rfl rfl rfl (WX_q rfl rfl (q_move rfl rfl) (WL_run rfl rfl rfl (?_)))
        first | refine WX_q rfl rfl (q_len' G rfl rfl rfl rfl (List.length_map _)) ?_ | refine WX_q rfl rfl (q_len G rfl rfl rfl rfl) ?_
        refine WL_run rfl rfl rfl (?_)
        refine WX_q rfl rfl (q_eqv (v' := .bool false) (q_cmp rfl rfl rfl rfl) (by first | rfl | (simp; done) | (simp [dcT_sum h2]; done))) ?_
        refine WL_run rfl rfl rfl (WX_q rfl rfl (q_pick_t rfl rfl rfl) (WL_cons rfl (WX_q rfl rfl (q_pick_f rfl rfl rfl) (?_))))
        refine WL_nil (hK9 _ ?_)
        clear hK9 K9
        refine W_false rfl ?_
        exact W_skip ⟨rfl, rfl, rfl, rfl⟩
      · try rw [h2]
        try simp only [decide_eq_true_eq, decide_eq_false_iff_not, beq_iff_eq, bne_iff_ne, ne_eq, Bool.not_eq_true', Bool.not_eq_false', beq_eq_false_iff_ne, bne_eq_false_iff_eq, Bool.not_eq_true, Bool.not_eq_false, Int.not_lt, Int.not_le, gt_iff_lt, ge_iff_le, Bool.and_eq_true, Bool.and_eq_false_iff, Bool.or_eq_true, Bool.or_eq_false_iff] at h2
        refine WL_skip rfl rfl rfl rfl rfl rfl (WL_skip rfl rfl rfl rfl rfl rfl (WL_skip rfl rfl rfl rfl rfl rfl (WL_skip rfl rfl rfl rfl rfl rfl (WL_skip rfl rfl rfl rfl rfl rfl (WL_run rfl rfl rfl (WX_q rfl rfl (q_pick_f rfl rfl rfl) (WL_cons rfl (WX_q rfl rfl (q_pick_f rfl rfl rfl) (?_)))))))))
        refine WL_nil (hK9 _ ?_)
        clear hK9 K9
        refine W_false rfl ?_
        exact W_skip ⟨rfl, rfl, rfl, rfl⟩
    · skip
      refine W_seq (fun K10 hK10 => ?_)
      refine W_region (WL_cons rfl (WX_q rfl rfl (q_move rfl rfl) (WL_cons rfl (?_))))
      refine WX_q rfl rfl (q_call rfl (ArgsOK.of rfl) (c_impl_MeanDelay _ (by have := hv1; omega)) rfl) ?_
      refine WL_cons rfl (WX_q rfl rfl (q_move rfl rfl) (WL_cons rfl (WX_q rfl rfl (q_extract rfl rfl rfl) (WL_cons rfl (WX_q rfl rfl (q_extract rfl rfl rfl) (WL_cons rfl (WX_q rfl rfl (q_extract rfl rfl rfl) (WL_cons rfl (WX_q rfl rfl (q_assign rfl rfl) (WL_cons rfl (WX_q rfl rfl (q_assign rfl rfl) (WL_cons rfl (WX_q rfl rfl (q_assign rfl rfl) (?_))))))))))))))
      refine WL_nil (hK10 _ ?_)
      clear hK10 K10
      refine W_seq (fun K11 hK11 => ?_)
      refine W_seq (fun K12 hK12 => ?_)
      refine W_region (WL_cons rfl (WX_q rfl rfl (q_move rfl rfl) (WL_cons rfl (?_))))
      refine WX_q rfl rfl (q_call rfl (ArgsOK.of rfl) (c_spec_MeanDelay _ (by have := hv1; omega)) rfl) ?_
      refine WL_cons rfl (WX_q rfl rfl (q_move rfl rfl) (WL_cons rfl (WX_q rfl rfl (q_extract rfl rfl rfl) (WL_cons rfl (WX_q rfl rfl (q_extract rfl rfl rfl) (WL_cons rfl (WX_q rfl rfl (q_extract rfl rfl rfl) (WL_cons rfl (WX_q rfl rfl (q_assign rfl rfl) (WL_cons rfl (WX_q rfl rfl (q_assign rfl rfl) (WL_cons rfl (WX_q rfl rfl (q_assign rfl rfl) (?_))))))))))))))
      refine WL_nil (hK12 _ ?_)
      clear hK12 K12
      refine W_seq (fun K13 hK13 => ?_)
      refine W_region (WL_cons rfl (WX_q rfl rfl (q_move rfl rfl) (WL_cons rfl (WX_q rfl rfl (q_move rfl rfl) (WL_cons rfl (?_))))))
      refine WX_q rfl rfl (q_eqv (v' := .bool false) (q_cmp rfl rfl rfl rfl) (by first | rfl | (simp; done) | (simp [eqCells, eqCell]; done))) ?_
      refine WL_cons rfl (WX_q rfl rfl (q_move rfl rfl) (WL_run rfl rfl rfl (WX_q rfl rfl (q_move rfl rfl) (WL_run rfl rfl rfl (WX_q rfl rfl (q_move rfl rfl) (WL_run rfl rfl rfl (?_)))))))
      refine WX_q rfl rfl (q_eqv (v' := .bool false) (q_cmp rfl rfl rfl rfl) (by first | rfl | (simp; done) | (simp [eqCells, eqCell]; done))) ?_
      refine WL_cons rfl (WX_q rfl rfl (q_pick_f rfl rfl rfl) (WL_cons rfl (WX_q rfl rfl (q_move rfl rfl) (WL_run rfl rfl rfl (WX_q rfl rfl (q_move rfl rfl) (WL_run rfl rfl rfl (WX_q rfl rfl (q_move rfl rfl) (WL_run rfl rfl rfl (?_)))))))))
      refine WX_q rfl rfl (q_eqv (v' := .bool false) (q_bne (G 4 _ rfl).1 rfl rfl rfl) (by first | rfl | (simp; done) | (simp [eqCells, eqCell]; done))) ?_
      refine WL_cons rfl (WX_q rfl rfl (q_pick_f rfl rfl rfl) (?_))
      refine WL_nil (hK13 _ ?_)
      clear hK13 K13
      refine W_false rfl ?_
      refine W_skip (hK11 _ ?_)
      clear hK11 K11
      refine W_seq (fun K14 hK14 => ?_)
      refine W_region (WL_cons rfl (WX_q rfl rfl (q_move rfl rfl) (WL_cons rfl (?_))))
      refine WX_q rfl rfl (q_call rfl (ArgsOK.of rfl) (c_impl_WorstIrq _ (by have := hv1; omega)) rfl) ?_
      refine WL_cons rfl (WX_q rfl rfl (q_move rfl rfl) (WL_cons rfl (WX_q rfl rfl (q_extract rfl rfl rfl) (WL_cons rfl (WX_q rfl rfl (q_extract rfl rfl rfl) (WL_cons rfl (WX_q rfl rfl (q_extract rfl rfl rfl) (WL_cons rfl (WX_q rfl rfl (q_assign rfl rfl) (WL_cons rfl (WX_q rfl rfl (q_assign rfl rfl) (WL_cons rfl (WX_q rfl rfl (q_assign rfl rfl) (?_))))))))))))))
      refine WL_nil (hK14 _ ?_)
      clear hK14 K14
      refine W_seq (fun K15 hK15 => ?_)
      refine W_seq (fun K16 hK16 => ?_)
      refine W_region (WL_cons rfl (WX_q rfl rfl (q_move rfl rfl) (WL_cons rfl (?_))))
      refine WX_q rfl rfl (q_call rfl (ArgsOK.of rfl) (c_spec_WorstIrq _ (by have := hv1; omega)) rfl) ?_
      refine WL_cons rfl (WX_q rfl rfl (q_move rfl rfl) (WL_cons rfl (WX_q rfl rfl (q_extract rfl rfl rfl) (WL_cons rfl (WX_q rfl rfl (q_extract rfl rfl rfl) (WL_cons rfl (WX_q rfl rfl (q_extract rfl rfl rfl) (WL_cons rfl (WX_q rfl rfl (q_assign rfl rfl) (WL_cons rfl (WX_q rfl rfl (q_assign rfl rfl) (WL_cons rfl (WX_q rfl rfl (q_assign rfl rfl) (?_))))))))))))))
      refine WL_nil (hK16 _ ?_)
      clear hK16 K16
      refine W_seq (fun K17 hK17 => ?_)
      refine W_region (WL_cons rfl (WX_q rfl rfl (q_move rfl rfl) (WL_cons rfl (WX_q rfl rfl (q_move rfl rfl) (WL_cons rfl (?_))))))
      refine WX_q rfl rfl (q_eqv (v' := .bool false) (q_cmp rfl rfl rfl rfl) (by first | rfl | (simp; done) | (simp [eqCells, eqCell]; done))) ?_
      refine WL_cons rfl (WX_q rfl rfl (q_move rfl rfl) (WL_run rfl rfl rfl (WX_q rfl rfl (q_move rfl rfl) (WL_run rfl rfl rfl (WX_q rfl rfl (q_move rfl rfl) (WL_run rfl rfl rfl (?_)))))))
      refine WX_q rfl rfl (q_eqv (v' := .bool false) (q_cmp rfl rfl rfl rfl) (by first | rfl | (simp; done) | (simp [eqCells, eqCell]; done))) ?_
      refine WL_cons rfl (WX_q rfl rfl (q_pick_f rfl rfl rfl) (WL_cons rfl (WX_q rfl rfl (q_move rfl rfl) (WL_run rfl rfl rfl (WX_q rfl rfl (q_move rfl rfl) (WL_run rfl rfl rfl (WX_q rfl rfl (q_move rfl rfl) (WL_run rfl rfl rfl (?_)))))))))
      refine WX_q rfl rfl (q_eqv (v' := .bool false) (q_bne (G 4 _ rfl).1 rfl rfl rfl) (by first | rfl | (simp; done) | (simp [eqCells, eqCell]; done))) ?_
      refine WL_cons rfl (WX_q rfl rfl (q_pick_f rfl rfl rfl) (WL_cons rfl (WX_q rfl rfl (q_move rfl rfl) (WL_run rfl rfl rfl (WX_q rfl rfl (q_move rfl rfl) (WL_run rfl rfl rfl (WX_q rfl rfl (q_move rfl rfl) (WL_run rfl rfl rfl (?_)))))))))
      refine WX_q rfl rfl (q_eqv (v' := .bool false) (q_bne (G 4 _ rfl).1 rfl rfl rfl) (by first | rfl | (simp; done) | (simp [eqCells, eqCell]; done))) ?_
      refine WL_cons rfl (WX_q rfl rfl (q_pick_f rfl rfl rfl) (?_))
      refine WL_nil (hK17 _ ?_)
      clear hK17 K17
      refine W_false rfl ?_
      refine W_skip (hK15 _ ?_)
      clear hK15 K15
      refine W_join (nt := 216) (T1 := [(0, .lst 1 (l.map encU))]) (M1 := []) 120 [0] [] ?_ ?_
      · skip
        refine W_seq (fun K19 hK19 => ?_)
        refine W_region (WL_cons rfl (WX_q rfl rfl (q_move rfl rfl) (?_)))
        refine WL_nil (hK19 _ ?_)
        clear hK19 K19
        refine W_cond rfl (fun h3 => ?_) (fun h3 => ?_)
        · try rw [h3]
          try simp only [decide_eq_true_eq, decide_eq_false_iff_not, beq_iff_eq, bne_iff_ne, ne_eq, Bool.not_eq_true', Bool.not_eq_false', beq_eq_false_iff_ne, bne_eq_false_iff_eq, Bool.not_eq_true, Bool.not_eq_false, Int.not_lt, Int.not_le, gt_iff_lt, ge_iff_le, Bool.and_eq_true, Bool.and_eq_false_iff, Bool.or_eq_true, Bool.or_eq_false_iff] at h3
          have hm := mean_facts h3
          refine W_seq (fun K20 hK20 => ?_)
          refine W_region (WL_cons rfl (WX_q rfl rfl (q_move rfl rfl) (WL_cons rfl (?_))))
          refine WX_q rfl rfl (q_call rfl (ArgsOK.of rfl) (Ctr.eq (c_impl_DelayAt x1 100 (by have := hv1; omega)) (all_eq h3)) rfl) ?_
          refine WL_cons rfl (WX_q rfl rfl (q_move rfl rfl) (WL_cons rfl (WX_q rfl rfl (q_extract rfl rfl rfl) (WL_cons rfl (WX_q rfl rfl (q_extract rfl rfl rfl) (WL_cons rfl (WX_q rfl rfl (q_assign rfl rfl) (WL_cons rfl (WX_q rfl rfl (q_assign rfl rfl) (?_))))))))))
          refine WL_nil (hK20 _ ?_)
          clear hK20 K20
          refine W_seq (fun K21 hK21 => ?_)
          refine W_region (WL_cons rfl (WX_q rfl rfl (q_move rfl rfl) (WL_cons rfl (?_))))
          refine WX_q rfl rfl (q_call rfl (ArgsOK.of rfl) (Ctr.eq (c_impl_DelayAt x1 0 (by have := hv1; omega)) (none_eq h3)) rfl) ?_
          refine WL_cons rfl (WX_q rfl rfl (q_move rfl rfl) (WL_cons rfl (WX_q rfl rfl (q_extract rfl rfl rfl) (WL_cons rfl (WX_q rfl rfl (q_extract rfl rfl rfl) (WL_cons rfl (WX_q rfl rfl (q_assign rfl rfl) (WL_cons rfl (WX_q rfl rfl (q_assign rfl rfl) (?_))))))))))
          refine WL_nil (hK21 _ ?_)
          clear hK21 K21
          refine W_seq (fun K22 hK22 => ?_)
          refine W_region (WL_cons rfl (WX_q rfl rfl (q_move rfl rfl) (WL_cons rfl (WX_q rfl rfl (q_not_t rfl rfl) (WL_cons rfl (WX_q rfl rfl (q_move rfl rfl) (WL_run rfl rfl rfl (WX_q rfl rfl (q_move rfl rfl) (WL_run rfl rfl rfl (WX_q rfl rfl (q_not_t rfl rfl) (WL_cons rfl (WX_q rfl rfl (q_pick_f rfl rfl rfl) (WL_cons rfl (WX_q rfl rfl (q_move rfl rfl) (WL_run rfl rfl rfl (WX_q rfl rfl (q_move rfl rfl) (WL_run rfl rfl rfl (WX_q rfl rfl (q_move rfl rfl) (WL_run rfl rfl rfl (?_))))))))))))))))))))
          refine WX_q rfl rfl (q_eqv (v' := .bool false) (q_cmp rfl rfl rfl rfl) (by first | rfl | (simp; done) | exact congrArg Value.bool (decide_eq_false (by omega)))) ?_
          refine WL_cons rfl (WX_q rfl rfl (q_pick_f rfl rfl rfl) (WL_cons rfl (WX_q rfl rfl (q_move rfl rfl) (WL_run rfl rfl rfl (WX_q rfl rfl (q_move rfl rfl) (WL_run rfl rfl rfl (WX_q rfl rfl (q_move rfl rfl) (WL_run rfl rfl rfl (WX_q rfl rfl (q_move rfl rfl) (WL_run rfl rfl rfl (?_)))))))))))
          first | refine WX_q rfl rfl (q_arith rfl rfl rfl rfl (by omega) (by omega)) ?_ | refine WX_q rfl rfl (q_wrap rfl rfl rfl rfl) ?_
          refine WL_run rfl rfl rfl (?_)
          refine WX_q rfl rfl (q_eqv (v' := .bool false) (q_cmp rfl rfl rfl rfl) (by first | rfl | (simp; done) | exact congrArg Value.bool (decide_eq_false (by omega)))) ?_
          refine WL_cons rfl (WX_q rfl rfl (q_pick_f rfl rfl rfl) (WL_cons rfl (WX_q rfl rfl (q_move rfl rfl) (WL_run rfl rfl rfl (WX_q rfl rfl (q_move rfl rfl) (WL_run rfl rfl rfl (WX_q rfl rfl (q_move rfl rfl) (WL_run rfl rfl rfl (WX_q rfl rfl (q_move rfl rfl) (WL_run rfl rfl rfl (?_)))))))))))
          first | refine WX_q rfl rfl (q_arith rfl rfl rfl rfl (by omega) (by omega)) ?_ | refine WX_q rfl rfl (q_wrap rfl rfl rfl rfl) ?_
          refine WL_run rfl rfl rfl (?_)
          refine WX_q rfl rfl (q_eqv (v' := .bool false) (q_cmp rfl rfl rfl rfl) (by first | rfl | (simp; done) | exact congrArg Value.bool (decide_eq_false (by omega)))) ?_
          refine WL_cons rfl (WX_q rfl rfl (q_pick_f rfl rfl rfl) (?_))
          refine WL_nil (hK22 _ ?_)
          clear hK22 K22
          refine W_false rfl ?_
          exact W_skip ⟨rfl, rfl, rfl, rfl⟩
        · try rw [h3]
          try simp only [decide_eq_true_eq, decide_eq_false_iff_not, beq_iff_eq, bne_iff_ne, ne_eq, Bool.not_eq_true', Bool.not_eq_false', beq_eq_false_iff_ne, bne_eq_false_iff_eq, Bool.not_eq_true, Bool.not_eq_false, Int.not_lt, Int.not_le, gt_iff_lt, ge_iff_le, Bool.and_eq_true, Bool.and_eq_false_iff, Bool.or_eq_true, Bool.or_eq_false_iff] at h3
          exact W_skip ⟨rfl, rfl, rfl, rfl⟩
      · skip
        refine W_seq (fun K23 hK23 => ?_)
        refine W_region (WL_cons rfl (WX_q rfl rfl (q_move rfl rfl) (WL_cons rfl (?_))))
        refine WX_callx 121 [] rfl rfl rfl (c_spec_DrawDelayAt l hl) rfl RowsIn.nil rfl (fun _ => rfl) rfl (fun x2 ⟨hv2, hc2⟩ => ?_)
        refine WL_cons rfl (WX_q rfl rfl (q_move rfl rfl) (WL_cons rfl (WX_q rfl rfl (q_extract rfl rfl rfl) (WL_cons rfl (WX_q rfl rfl (q_extract rfl rfl rfl) (WL_cons rfl (WX_q rfl rfl (q_assign rfl rfl) (WL_cons rfl (WX_q rfl rfl (q_assign rfl rfl) (?_))))))))))
        refine WL_nil (hK23 _ ?_)
        clear hK23 K23
        refine W_seq (fun K24 hK24 => ?_)
        refine W_region (WL_cons rfl (WX_q rfl rfl (q_move rfl rfl) (WL_cons rfl (WX_q rfl rfl (q_move rfl rfl) (WL_cons rfl (?_))))))
        refine WX_q rfl rfl (q_call rfl (ArgsOK.of rfl) (c_impl_DelayAt _ _ (by have := hv2.1; omega)) rfl) ?_
        refine WL_cons rfl (WX_q rfl rfl (q_move rfl rfl) (WL_cons rfl (WX_q rfl rfl (q_extract rfl rfl rfl) (WL_cons rfl (WX_q rfl rfl (q_extract rfl rfl rfl) (WL_cons rfl (WX_q rfl rfl (q_assign rfl rfl) (WL_cons rfl (WX_q rfl rfl (q_assign rfl rfl) (?_))))))))))
        refine WL_nil (hK24 _ ?_)
        clear hK24 K24
        refine W_seq (fun K25 hK25 => ?_)
        refine W_seq (fun K26 hK26 => ?_)
        refine W_region (WL_cons rfl (WX_q rfl rfl (q_move rfl rfl) (WL_cons rfl (WX_q rfl rfl (q_move rfl rfl) (WL_cons rfl (?_))))))
        refine WX_q rfl rfl (q_call rfl (ArgsOK.of rfl) (c_spec_DelayAt _ _ (by have := hv2.1; omega)) rfl) ?_
        refine WL_cons rfl (WX_q rfl rfl (q_move rfl rfl) (WL_cons rfl (WX_q rfl rfl (q_extract rfl rfl rfl) (WL_cons rfl (WX_q rfl rfl (q_extract rfl rfl rfl) (WL_cons rfl (WX_q rfl rfl (q_assign rfl rfl) (WL_cons rfl (WX_q rfl rfl (q_assign rfl rfl) (?_))))))))))
        refine WL_nil (hK26 _ ?_)
        clear hK26 K26
        refine W_seq (fun K27 hK27 => ?_)
        refine W_region (WL_cons rfl (WX_q rfl rfl (q_move rfl rfl) (WL_cons rfl (WX_q rfl rfl (q_move rfl rfl) (WL_cons rfl (?_))))))
        refine WX_q rfl rfl (q_eqv (v' := .bool false) (q_cmp rfl rfl rfl rfl) (by first | rfl | (simp; done) | (simp [eqCells, eqCell]; done))) ?_
        refine WL_cons rfl (WX_q rfl rfl (q_move rfl rfl) (WL_run rfl rfl rfl (WX_q rfl rfl (q_move rfl rfl) (WL_run rfl rfl rfl (WX_q rfl rfl (q_move rfl rfl) (WL_run rfl rfl rfl (?_)))))))
        refine WX_q rfl rfl (q_eqv (v' := .bool false) (q_bne (G 4 _ rfl).1 rfl rfl rfl) (by first | rfl | (simp; done) | (simp [eqCells, eqCell]; done))) ?_
        refine WL_cons rfl (WX_q rfl rfl (q_pick_f rfl rfl rfl) (?_))
        refine WL_nil (hK27 _ ?_)
        clear hK27 K27
        refine W_false rfl ?_
        refine W_skip (hK25 _ ?_)
        clear hK25 K25
        refine W_seq (fun K28 hK28 => ?_)
        refine W_region (WL_cons rfl (WX_q rfl rfl (q_move rfl rfl) (WL_cons rfl (?_))))
        refine WX_callx 122 [] rfl rfl rfl (c_spec_DrawWithoutIrq l hl) rfl RowsIn.nil rfl (fun _ => rfl) rfl (fun x3 ⟨hv3, hc3⟩ => ?_)
        refine WL_cons rfl (WX_q rfl rfl (q_move rfl rfl) (WL_cons rfl (WX_q rfl rfl (q_extract rfl rfl rfl) (WL_cons rfl (WX_q rfl rfl (q_extract rfl rfl rfl) (WL_cons rfl (WX_q rfl rfl (q_assign rfl rfl) (WL_cons rfl (WX_q rfl rfl (q_assign rfl rfl) (?_))))))))))
        refine WL_nil (hK28 _ ?_)
        clear hK28 K28
        refine W_seq (fun K29 hK29 => ?_)
        refine W_region (WL_cons rfl (WX_q rfl rfl (q_move rfl rfl) (WL_cons rfl (WX_q rfl rfl (q_move rfl rfl) (WL_cons rfl (?_))))))
        refine WX_call 123 rfl rfl rfl (ArgsOK.of rfl) (c_impl_WithoutIrq _ _ (by have := hv3.1; omega)) rfl rfl ?_
        refine WL_cons rfl (WX_q rfl rfl (q_move rfl rfl) (WL_cons rfl (WX_q rfl rfl (q_extract rfl rfl rfl) (WL_cons rfl (WX_q rfl rfl (q_extract rfl rfl rfl) (WL_cons rfl (WX_q rfl rfl (q_assign rfl rfl) (WL_cons rfl (WX_q rfl rfl (q_assign rfl rfl) (?_))))))))))
        refine WL_nil (hK29 _ ?_)
        clear hK29 K29
        refine W_seq (fun K30 hK30 => ?_)
        refine W_region (WL_cons rfl (WX_q rfl rfl (q_move rfl rfl) (WL_cons rfl (WX_q rfl rfl (q_move rfl rfl) (WL_cons rfl (?_))))))
        refine WX_call 124 rfl rfl rfl (ArgsOK.of rfl) (c_spec_WithoutIrq _ _ (by have := hv3.1; omega)) rfl rfl ?_
        refine WL_cons rfl (WX_q rfl rfl (q_move rfl rfl) (WL_cons rfl (WX_q rfl rfl (q_extract rfl rfl rfl) (WL_cons rfl (WX_q rfl rfl (q_extract rfl rfl rfl) (WL_cons rfl (WX_q rfl rfl (q_assign rfl rfl) (WL_cons rfl (WX_q rfl rfl (q_assign rfl rfl) (?_))))))))))
        refine WL_nil (hK30 _ ?_)
        clear hK30 K30
        refine W_seq (fun K31 hK31 => ?_)
        refine W_region (WL_cons rfl (WX_q rfl rfl (q_move rfl rfl) (WL_cons rfl (WX_q rfl rfl (q_move rfl rfl) (WL_cons rfl (?_))))))
        refine WX_q rfl rfl (q_eqv (v' := .bool true) (q_beq (G 4 _ rfl).1 rfl rfl rfl) (by first | rfl | (simp; done) | (simp [eqCells, eqCell]; done))) ?_
        refine WL_cons rfl (WX_q rfl rfl (q_move rfl rfl) (WL_run rfl rfl rfl (WX_q rfl rfl (q_move rfl rfl) (WL_run rfl rfl rfl (WX_q rfl rfl (q_move rfl rfl) (WL_run rfl rfl rfl (?_)))))))
        refine WX_q rfl rfl (q_call rfl (ArgsOK.of rfl) (c_laws_rSamples _ (by have := woT_len (xs := x3.1) (q := x3.2); have := hv3.1; omega)) rfl) ?_
        refine WL_cons rfl (WX_q rfl rfl (q_pick_t rfl rfl rfl) (WL_cons rfl (WX_q rfl rfl (q_assign rfl rfl) (?_))))
        refine WL_nil (hK31 _ ?_)
        clear hK31 K31
        refine W_ret (fin_one rfl (rc_v ?_))
        all_goals (first | rfl | (simp_all; done))

end Go.Proofs.Ytbepplocdmnchaa
