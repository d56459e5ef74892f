/- Walks through functions of the program, one contract each (written by gen.py). -/
import Derived.Test.YteplehpcplbioaaW1
set_option maxRecDepth 20000
set_option linter.unusedVariables false
set_option linter.unusedSimpArgs false
namespace Go.Proofs.Yteplehpcplbioaa
open Go Go.Rf

theorem c_spec_l23At (x : Bucket) (t : Int) : Ctr Try.prog 69 [.v (encB x), .v (.int .i64 t)] (.one (.v (.bool (okAt x t)))) := by
  refine Ctr.of (n := 13) G Try.func69 rfl (by kernel_rfl) rfl rfl rfl (fun w0 => ?_)
  refine W_seq (fun K1 hK1 => ?_)
  refine W_region (WL_cons rfl (WX_box 1 rfl rfl rfl rfl rfl rfl rfl (WL_cons rfl (WX_q rfl rfl (q_assign rfl rfl) (?_)))))
  refine WL_nil (hK1 _ ?_)
  clear hK1 K1
  refine W_seq (fun K2 hK2 => ?_)
  refine W_region (WL_cons rfl (WX_q rfl rfl (q_load_box_struct G rfl rfl rfl rfl rfl rfl) (WL_cons rfl (?_))))
  refine WX_q rfl rfl (q_call rfl (ArgsOK.of rfl) (c_spec_l23One _) rfl) ?_
  refine WL_cons rfl (WX_q rfl rfl (q_move rfl rfl) (WL_part rfl rfl rfl (fun h1 => ?_) (fun h1 => ?_)))
  · try rw [h1]
    try simp only [decide_eq_true_eq, decide_eq_false_iff_not, beq_iff_eq, bne_iff_ne, ne_eq, Bool.not_eq_true', Bool.not_eq_false', beq_eq_false_iff_ne, bne_eq_false_iff_eq, Bool.not_eq_true, Bool.not_eq_false, Int.not_lt, Int.not_le, gt_iff_lt, ge_iff_le, Bool.and_eq_true, Bool.and_eq_false_iff, Bool.or_eq_true, Bool.or_eq_false_iff] at h1
    refine WL_run rfl rfl rfl (WX_q rfl rfl (q_move rfl rfl) (WL_run rfl rfl rfl (WX_q rfl rfl (q_field_ptr G rfl rfl rfl rfl) (WL_run rfl rfl rfl (WX_q rfl rfl (q_load_box G rfl rfl rfl rfl rfl rfl rfl) (WL_run rfl rfl rfl (?_)))))))
    refine WX_q rfl rfl (q_call rfl (ArgsOK.of rfl) (c_spec_l1In _ _ _) rfl) ?_
    refine WL_cons rfl (WX_q rfl rfl (q_pick_t rfl rfl rfl) (WL_cons rfl (WX_q rfl rfl (q_assign rfl rfl) (?_))))
    refine WL_nil (hK2 _ ?_)
    clear hK2 K2
    refine W_ret (fin_one rfl (rc_v ?_))
    all_goals (simp_all [okAt])
  · try rw [h1]
    try simp only [decide_eq_true_eq, decide_eq_false_iff_not, beq_iff_eq, bne_iff_ne, ne_eq, Bool.not_eq_true', Bool.not_eq_false', beq_eq_false_iff_ne, bne_eq_false_iff_eq, Bool.not_eq_true, Bool.not_eq_false, Int.not_lt, Int.not_le, gt_iff_lt, ge_iff_le, Bool.and_eq_true, Bool.and_eq_false_iff, Bool.or_eq_true, Bool.or_eq_false_iff] at h1
    refine WL_skip rfl rfl rfl rfl rfl rfl (WL_skip rfl rfl rfl rfl rfl rfl (WL_skip rfl rfl rfl rfl rfl rfl (WL_skip rfl rfl rfl rfl rfl rfl (WL_cons rfl (WX_q rfl rfl (q_pick_f rfl rfl rfl) (WL_cons rfl (WX_q rfl rfl (q_assign rfl rfl) (?_))))))))
    refine WL_nil (hK2 _ ?_)
    clear hK2 K2
    refine W_ret (fin_one rfl (rc_v ?_))
    all_goals (simp_all [okAt])

theorem c_spec_l1Least (a b : Int) : Ctr Try.prog 89 [.v (.int .i64 a), .v (.int .i64 b)] (.one (.v (.int .i64 (min a b)))) := by
  refine Ctr.of (n := 10) G Try.func89 rfl (by kernel_rfl) rfl rfl rfl (fun w0 => ?_)
  refine W_seq (fun K1 hK1 => ?_)
  refine W_region (WL_cons rfl (WX_q rfl rfl (q_assign rfl rfl) (?_)))
  refine WL_nil (hK1 _ ?_)
  clear hK1 K1
  refine W_seq (fun K2 hK2 => ?_)
  refine W_seq (fun K3 hK3 => ?_)
  refine W_region (WL_cons rfl (WX_q rfl rfl (q_move rfl rfl) (WL_cons rfl (WX_q rfl rfl (q_move rfl rfl) (WL_cons rfl (WX_q rfl rfl (q_cmp rfl rfl rfl rfl) (?_)))))))
  refine WL_nil (hK3 _ ?_)
  clear hK3 K3
  refine W_cond rfl (fun h1 => ?_) (fun h1 => ?_)
  · try rw [h1]
    try simp only [decide_eq_true_eq, decide_eq_false_iff_not, beq_iff_eq, bne_iff_ne, ne_eq, Bool.not_eq_true', Bool.not_eq_false', beq_eq_false_iff_ne, bne_eq_false_iff_eq, Bool.not_eq_true, Bool.not_eq_false, Int.not_lt, Int.not_le, gt_iff_lt, ge_iff_le, Bool.and_eq_true, Bool.and_eq_false_iff, Bool.or_eq_true, Bool.or_eq_false_iff] at h1
    refine W_seq (fun K4 hK4 => ?_)
    refine W_region (WL_cons rfl (WX_q rfl rfl (q_move rfl rfl) (WL_cons rfl (WX_q rfl rfl (q_assign rfl rfl) (?_)))))
    refine WL_nil (hK4 _ ?_)
    clear hK4 K4
    refine W_ret (fin_one rfl (rc_v ?_))
    all_goals clear hK2 K2
    all_goals (simp_all; omega)
  · try rw [h1]
    try simp only [decide_eq_true_eq, decide_eq_false_iff_not, beq_iff_eq, bne_iff_ne, ne_eq, Bool.not_eq_true', Bool.not_eq_false', beq_eq_false_iff_ne, bne_eq_false_iff_eq, Bool.not_eq_true, Bool.not_eq_false, Int.not_lt, Int.not_le, gt_iff_lt, ge_iff_le, Bool.and_eq_true, Bool.and_eq_false_iff, Bool.or_eq_true, Bool.or_eq_false_iff] at h1
    refine W_skip (hK2 _ ?_)
    clear hK2 K2
    refine W_seq (fun K5 hK5 => ?_)
    refine W_region (WL_cons rfl (WX_q rfl rfl (q_move rfl rfl) (WL_cons rfl (WX_q rfl rfl (q_assign rfl rfl) (?_)))))
    refine WL_nil (hK5 _ ?_)
    clear hK5 K5
    refine W_ret (fin_one rfl (rc_v ?_))
    all_goals (simp_all; omega)

theorem c_spec_l23Bring (x : Bucket) (t : Int) (h0 : okAt x t = true) : Ctr Try.prog 70 [.v (encB x), .v (.int .i64 t)] (.one (.v (encB (bringB x t)))) := by
  have hg := gain_le h0
  have ho := okAt_iff.mp h0
  refine Ctr.of (n := 22) G Try.func70 rfl (by kernel_rfl) rfl rfl rfl (fun w0 => ?_)
  refine W_seq (fun K1 hK1 => ?_)
  refine W_region (WL_cons rfl (WX_box 1 rfl rfl rfl rfl rfl rfl rfl (WL_cons rfl (WX_alloc_s G 2 rfl rfl rfl rfl rfl (?_)))))
  refine WL_nil (hK1 _ ?_)
  clear hK1 K1
  refine W_seq (fun K2 hK2 => ?_)
  refine W_region (WL_cons rfl (WX_q rfl rfl (q_field_ptr G rfl rfl rfl rfl) (WL_cons rfl (WX_q rfl rfl (q_load_box G rfl rfl rfl rfl rfl rfl rfl) (WL_cons rfl (WX_q rfl rfl (q_field_ptr G rfl rfl rfl rfl) (WL_cons rfl (WX_q rfl rfl (q_load_box G rfl rfl rfl rfl rfl rfl rfl) (WL_cons rfl (WX_q rfl rfl (q_field_ptr G rfl rfl rfl rfl) (WL_cons rfl (WX_q rfl rfl (q_load_box G rfl rfl rfl rfl rfl rfl rfl) (WL_cons rfl (WX_q rfl rfl (q_move rfl rfl) (WL_cons rfl (WX_q rfl rfl (q_field_ptr G rfl rfl rfl rfl) (WL_cons rfl (WX_q rfl rfl (q_load_box G rfl rfl rfl rfl rfl rfl rfl) (WL_cons rfl (?_))))))))))))))))))))
  first | refine WX_q rfl rfl (q_arith rfl rfl rfl rfl (by omega) (by omega)) ?_ | refine WX_q rfl rfl (q_wrap rfl rfl rfl rfl) ?_
  refine WL_cons rfl (?_)
  first | refine WX_q rfl rfl (q_arith rfl rfl rfl rfl (by omega) (by omega)) ?_ | refine WX_q rfl rfl (q_wrap rfl rfl rfl rfl) ?_
  refine WL_cons rfl (?_)
  first | refine WX_q rfl rfl (q_arith rfl rfl rfl rfl (by omega) (by omega)) ?_ | refine WX_q rfl rfl (q_wrap rfl rfl rfl rfl) ?_
  refine WL_cons rfl (?_)
  refine WX_q rfl rfl (q_call rfl (ArgsOK.of rfl) (c_spec_l1Least _ _) rfl) ?_
  refine WL_cons rfl (WX_q rfl rfl (q_field_ptr G rfl rfl rfl rfl) (WL_cons rfl (WX_store G rfl rfl rfl rfl rfl rfl rfl rfl rfl rfl rfl (?_))))
  refine WL_nil (hK2 _ ?_)
  clear hK2 K2
  refine W_seq (fun K3 hK3 => ?_)
  refine W_region (WL_cons rfl (WX_q rfl rfl (q_move rfl rfl) (WL_cons rfl (WX_q rfl rfl (q_field_ptr G rfl rfl rfl rfl) (WL_cons rfl (WX_store G rfl rfl rfl rfl rfl rfl rfl rfl rfl rfl rfl (?_)))))))
  refine WL_nil (hK3 _ ?_)
  clear hK3 K3
  refine W_seq (fun K4 hK4 => ?_)
  refine W_region (WL_cons rfl (WX_q rfl rfl (q_load_box_struct G rfl rfl rfl rfl rfl rfl) (WL_cons rfl (WX_store G rfl rfl rfl rfl rfl rfl rfl rfl rfl rfl rfl (?_)))))
  refine WL_nil (hK4 _ ?_)
  clear hK4 K4
  refine W_ret (fin_one rfl (rc_agg rfl ?_))
  all_goals (simp only [encB, encBc, bringB]; try rfl)

theorem c_impl_brought (x : Bucket) (t : Int) (h0 : okAt x t = true) : Ctr Try.prog 72 [.v (encB x), .v (.int .i64 t)] (.one (.v (encB (bringB x t)))) := by
  have hg := gain_le h0
  have ho := okAt_iff.mp h0
  refine Ctr.of (n := 22) G Try.func72 rfl (by kernel_rfl) rfl rfl rfl (fun w0 => ?_)
  refine W_seq (fun K1 hK1 => ?_)
  refine W_region (WL_cons rfl (WX_box 1 rfl rfl rfl rfl rfl rfl rfl (WL_cons rfl (WX_alloc_s G 2 rfl rfl rfl rfl rfl (?_)))))
  refine WL_nil (hK1 _ ?_)
  clear hK1 K1
  refine W_seq (fun K2 hK2 => ?_)
  refine W_region (WL_cons rfl (WX_q rfl rfl (q_field_ptr G rfl rfl rfl rfl) (WL_cons rfl (WX_q rfl rfl (q_load_box G rfl rfl rfl rfl rfl rfl rfl) (WL_cons rfl (WX_q rfl rfl (q_field_ptr G rfl rfl rfl rfl) (WL_cons rfl (WX_q rfl rfl (q_load_box G rfl rfl rfl rfl rfl rfl rfl) (WL_cons rfl (WX_q rfl rfl (q_field_ptr G rfl rfl rfl rfl) (WL_cons rfl (WX_q rfl rfl (q_load_box G rfl rfl rfl rfl rfl rfl rfl) (WL_cons rfl (WX_q rfl rfl (q_move rfl rfl) (WL_cons rfl (WX_q rfl rfl (q_field_ptr G rfl rfl rfl rfl) (WL_cons rfl (WX_q rfl rfl (q_load_box G rfl rfl rfl rfl rfl rfl rfl) (WL_cons rfl (?_))))))))))))))))))))
  first | refine WX_q rfl rfl (q_arith rfl rfl rfl rfl (by omega) (by omega)) ?_ | refine WX_q rfl rfl (q_wrap rfl rfl rfl rfl) ?_
  refine WL_cons rfl (?_)
  first | refine WX_q rfl rfl (q_arith rfl rfl rfl rfl (by omega) (by omega)) ?_ | refine WX_q rfl rfl (q_wrap rfl rfl rfl rfl) ?_
  refine WL_cons rfl (?_)
  first | refine WX_q rfl rfl (q_arith rfl rfl rfl rfl (by omega) (by omega)) ?_ | refine WX_q rfl rfl (q_wrap rfl rfl rfl rfl) ?_
  refine WL_cons rfl (WX_q rfl rfl (q_min' rfl rfl rfl) (WL_cons rfl (WX_q rfl rfl (q_field_ptr G rfl rfl rfl rfl) (WL_cons rfl (WX_store G rfl rfl rfl rfl rfl rfl rfl rfl rfl rfl rfl (?_))))))
  refine WL_nil (hK2 _ ?_)
  clear hK2 K2
  refine W_seq (fun K3 hK3 => ?_)
  refine W_region (WL_cons rfl (WX_q rfl rfl (q_move rfl rfl) (WL_cons rfl (WX_q rfl rfl (q_field_ptr G rfl rfl rfl rfl) (WL_cons rfl (WX_store G rfl rfl rfl rfl rfl rfl rfl rfl rfl rfl rfl (?_)))))))
  refine WL_nil (hK3 _ ?_)
  clear hK3 K3
  refine W_seq (fun K4 hK4 => ?_)
  refine W_region (WL_cons rfl (WX_q rfl rfl (q_load_box_struct G rfl rfl rfl rfl rfl rfl) (WL_cons rfl (WX_store G rfl rfl rfl rfl rfl rfl rfl rfl rfl rfl rfl (?_)))))
  refine WL_nil (hK4 _ ?_)
  clear hK4 K4
  refine W_ret (fin_one rfl (rc_agg rfl ?_))
  all_goals (simp only [encB, encBc, bringB]; try rfl)

theorem c_spec_BringTo (x : Bucket) (t : Int) : Ctr Try.prog 20 [.v (encB x), .v (.int .i64 t)] (.many [.v (encB (bringTo x t).1), .v (.bool (bringTo x t).2)]) := by
  refine Ctr.of (n := 14) G Try.func20 rfl (by kernel_rfl) rfl rfl rfl (fun w0 => ?_)
  refine W_seq (fun K1 hK1 => ?_)
  refine W_region (WL_cons rfl (WX_box 1 rfl rfl rfl rfl rfl rfl rfl (WL_cons rfl (WX_alloc_s G 2 rfl rfl rfl rfl rfl (WL_cons rfl (WX_q rfl rfl (q_assign rfl rfl) (?_)))))))
  refine WL_nil (hK1 _ ?_)
  clear hK1 K1
  refine W_seq (fun K2 hK2 => ?_)
  refine W_seq (fun K3 hK3 => ?_)
  refine W_region (WL_cons rfl (WX_q rfl rfl (q_load_box_struct G rfl rfl rfl rfl rfl rfl) (WL_cons rfl (WX_q rfl rfl (q_move rfl rfl) (WL_cons rfl (?_))))))
  refine WX_q rfl rfl (q_call rfl (ArgsOK.of rfl) (c_spec_l23At _ _) rfl) ?_
  refine WL_cons rfl (WX_q rfl rfl (q_not rfl rfl) (?_))
  refine WL_nil (hK3 _ ?_)
  clear hK3 K3
  refine W_cond rfl (fun h1 => ?_) (fun h1 => ?_)
  · try rw [h1]
    try simp only [decide_eq_true_eq, decide_eq_false_iff_not, beq_iff_eq, bne_iff_ne, ne_eq, Bool.not_eq_true', Bool.not_eq_false', beq_eq_false_iff_ne, bne_eq_false_iff_eq, Bool.not_eq_true, Bool.not_eq_false, Int.not_lt, Int.not_le, gt_iff_lt, ge_iff_le, Bool.and_eq_true, Bool.and_eq_false_iff, Bool.or_eq_true, Bool.or_eq_false_iff] at h1
    refine W_seq (fun K4 hK4 => ?_)
    refine W_region (WL_cons rfl (WX_q rfl rfl (q_build G rfl rfl rfl rfl) (WL_cons rfl (WX_store G rfl rfl rfl rfl rfl rfl rfl rfl rfl rfl rfl (WL_cons rfl (WX_q rfl rfl (q_assign rfl rfl) (?_)))))))
    refine WL_nil (hK4 _ ?_)
    clear hK4 K4
    refine W_ret (fin_many rfl rfl rfl rfl (rcs_cons (rc_agg rfl ?_) (rcs_cons (rc_v ?_) rcs_nil)))
    all_goals clear hK2 K2
    all_goals (first | rfl | (simp_all [bringTo, okAt, zeroB, encB, encBc]; done) | (cases hb0 : isBucket x <;> simp_all [bringTo, okAt, zeroB, encB, encBc]; done) | (simp_all [bringTo, okAt, zeroB, encB, encBc]; omega))
  · try rw [h1]
    try simp only [decide_eq_true_eq, decide_eq_false_iff_not, beq_iff_eq, bne_iff_ne, ne_eq, Bool.not_eq_true', Bool.not_eq_false', beq_eq_false_iff_ne, bne_eq_false_iff_eq, Bool.not_eq_true, Bool.not_eq_false, Int.not_lt, Int.not_le, gt_iff_lt, ge_iff_le, Bool.and_eq_true, Bool.and_eq_false_iff, Bool.or_eq_true, Bool.or_eq_false_iff] at h1
    refine W_skip (hK2 _ ?_)
    clear hK2 K2
    refine W_seq (fun K5 hK5 => ?_)
    refine W_region (WL_cons rfl (WX_q rfl rfl (q_load_box_struct G rfl rfl rfl rfl rfl rfl) (WL_cons rfl (WX_q rfl rfl (q_move rfl rfl) (WL_cons rfl (?_))))))
    refine WX_q rfl rfl (q_call rfl (ArgsOK.of rfl) (c_spec_l23Bring _ _ (by assumption)) rfl) ?_
    refine WL_cons rfl (WX_store G rfl rfl rfl rfl rfl rfl rfl rfl rfl rfl rfl (WL_cons rfl (WX_q rfl rfl (q_assign rfl rfl) (?_))))
    refine WL_nil (hK5 _ ?_)
    clear hK5 K5
    refine W_ret (fin_many rfl rfl rfl rfl (rcs_cons (rc_agg rfl ?_) (rcs_cons (rc_v ?_) rcs_nil)))
    all_goals (first | rfl | (simp_all [bringTo, okAt, zeroB, encB, encBc]; done) | (cases hb0 : isBucket x <;> simp_all [bringTo, okAt, zeroB, encB, encBc]; done) | (simp_all [bringTo, okAt, zeroB, encB, encBc]; omega))

theorem c_impl_BringTo (x : Bucket) (t : Int) : Ctr Try.prog 21 [.v (encB x), .v (.int .i64 t)] (.many [.v (encB (bringTo x t).1), .v (.bool (bringTo x t).2)]) := by
  refine Ctr.of (n := 20) G Try.func21 rfl (by kernel_rfl) rfl rfl rfl (fun w0 => ?_)
  refine W_seq (fun K1 hK1 => ?_)
  refine W_region (WL_cons rfl (WX_box 1 rfl rfl rfl rfl rfl rfl rfl (WL_cons rfl (WX_alloc_s G 2 rfl rfl rfl rfl rfl (WL_cons rfl (WX_q rfl rfl (q_assign rfl rfl) (?_)))))))
  refine WL_nil (hK1 _ ?_)
  clear hK1 K1
  refine W_seq (fun K2 hK2 => ?_)
  refine W_seq (fun K3 hK3 => ?_)
  refine W_region (WL_cons rfl (WX_q rfl rfl (q_load_box_struct G rfl rfl rfl rfl rfl rfl) (WL_cons rfl (?_))))
  refine WX_q rfl rfl (q_call rfl (ArgsOK.of rfl) (c_impl_IsBucket _) rfl) ?_
  refine WL_cons rfl (WX_q rfl rfl (q_not rfl rfl) (WL_cons rfl (WX_q rfl rfl (q_move rfl rfl) (WL_part rfl rfl rfl (fun h1 => ?_) (fun h1 => ?_)))))
  · try rw [h1]
    try simp only [decide_eq_true_eq, decide_eq_false_iff_not, beq_iff_eq, bne_iff_ne, ne_eq, Bool.not_eq_true', Bool.not_eq_false', beq_eq_false_iff_ne, bne_eq_false_iff_eq, Bool.not_eq_true, Bool.not_eq_false, Int.not_lt, Int.not_le, gt_iff_lt, ge_iff_le, Bool.and_eq_true, Bool.and_eq_false_iff, Bool.or_eq_true, Bool.or_eq_false_iff] at h1
    refine WL_skip rfl rfl rfl rfl rfl rfl (WL_skip rfl rfl rfl rfl rfl rfl (WL_skip rfl rfl rfl rfl rfl rfl (WL_skip rfl rfl rfl rfl rfl rfl (WL_skip rfl rfl rfl rfl rfl rfl (WL_cons rfl (WX_q rfl rfl (q_pick_t rfl rfl rfl) (?_)))))))
    refine WL_nil (hK3 _ ?_)
    clear hK3 K3
    refine W_true rfl ?_
    refine W_seq (fun K4 hK4 => ?_)
    refine W_region (WL_cons rfl (WX_q rfl rfl (q_build G rfl rfl rfl rfl) (WL_cons rfl (WX_store G rfl rfl rfl rfl rfl rfl rfl rfl rfl rfl rfl (WL_cons rfl (WX_q rfl rfl (q_assign rfl rfl) (?_)))))))
    refine WL_nil (hK4 _ ?_)
    clear hK4 K4
    refine W_ret (fin_many rfl rfl rfl rfl (rcs_cons (rc_agg rfl ?_) (rcs_cons (rc_v ?_) rcs_nil)))
    all_goals clear hK2 K2
    all_goals (first | rfl | (simp_all [bringTo, okAt, zeroB, encB, encBc]; done) | (cases hb0 : isBucket x <;> simp_all [bringTo, okAt, zeroB, encB, encBc]; done) | (simp_all [bringTo, okAt, zeroB, encB, encBc]; omega))
  · try rw [h1]
    try simp only [decide_eq_true_eq, decide_eq_false_iff_not, beq_iff_eq, bne_iff_ne, ne_eq, Bool.not_eq_true', Bool.not_eq_false', beq_eq_false_iff_ne, bne_eq_false_iff_eq, Bool.not_eq_true, Bool.not_eq_false, Int.not_lt, Int.not_le, gt_iff_lt, ge_iff_le, Bool.and_eq_true, Bool.and_eq_false_iff, Bool.or_eq_true, Bool.or_eq_false_iff] at h1
    refine WL_run rfl rfl rfl (WX_q rfl rfl (q_move rfl rfl) (WL_run rfl rfl rfl (WX_q rfl rfl (q_field_ptr G rfl rfl rfl rfl) (WL_run rfl rfl rfl (WX_q rfl rfl (q_load_box G rfl rfl rfl rfl rfl rfl rfl) (WL_run rfl rfl rfl (?_)))))))
    refine WX_q rfl rfl (q_call rfl (ArgsOK.of rfl) (c_impl_inside _ _ _) rfl) ?_
    refine WL_run rfl rfl rfl (WX_q rfl rfl (q_not rfl rfl) (WL_cons rfl (WX_q rfl rfl (q_pick_f rfl rfl rfl) (?_))))
    refine WL_nil (hK3 _ ?_)
    clear hK3 K3
    refine W_cond rfl (fun h2 => ?_) (fun h2 => ?_)
    · try rw [h2]
      try simp only [decide_eq_true_eq, decide_eq_false_iff_not, beq_iff_eq, bne_iff_ne, ne_eq, Bool.not_eq_true', Bool.not_eq_false', beq_eq_false_iff_ne, bne_eq_false_iff_eq, Bool.not_eq_true, Bool.not_eq_false, Int.not_lt, Int.not_le, gt_iff_lt, ge_iff_le, Bool.and_eq_true, Bool.and_eq_false_iff, Bool.or_eq_true, Bool.or_eq_false_iff] at h2
      refine W_seq (fun K5 hK5 => ?_)
      refine W_region (WL_cons rfl (WX_q rfl rfl (q_build G rfl rfl rfl rfl) (WL_cons rfl (WX_store G rfl rfl rfl rfl rfl rfl rfl rfl rfl rfl rfl (WL_cons rfl (WX_q rfl rfl (q_assign rfl rfl) (?_)))))))
      refine WL_nil (hK5 _ ?_)
      clear hK5 K5
      refine W_ret (fin_many rfl rfl rfl rfl (rcs_cons (rc_agg rfl ?_) (rcs_cons (rc_v ?_) rcs_nil)))
      all_goals clear hK2 K2
      all_goals (first | rfl | (simp_all [bringTo, okAt, zeroB, encB, encBc]; done) | (cases hb0 : isBucket x <;> simp_all [bringTo, okAt, zeroB, encB, encBc]; done) | (simp_all [bringTo, okAt, zeroB, encB, encBc]; omega))
    · try rw [h2]
      try simp only [decide_eq_true_eq, decide_eq_false_iff_not, beq_iff_eq, bne_iff_ne, ne_eq, Bool.not_eq_true', Bool.not_eq_false', beq_eq_false_iff_ne, bne_eq_false_iff_eq, Bool.not_eq_true, Bool.not_eq_false, Int.not_lt, Int.not_le, gt_iff_lt, ge_iff_le, Bool.and_eq_true, Bool.and_eq_false_iff, Bool.or_eq_true, Bool.or_eq_false_iff] at h2
      refine W_skip (hK2 _ ?_)
      clear hK2 K2
      refine W_seq (fun K6 hK6 => ?_)
      refine W_region (WL_cons rfl (WX_q rfl rfl (q_load_box_struct G rfl rfl rfl rfl rfl rfl) (WL_cons rfl (WX_q rfl rfl (q_move rfl rfl) (WL_cons rfl (?_))))))
      refine WX_q rfl rfl (q_call rfl (ArgsOK.of rfl) (c_impl_brought _ _ (by simp_all [okAt])) rfl) ?_
      refine WL_cons rfl (WX_store G rfl rfl rfl rfl rfl rfl rfl rfl rfl rfl rfl (WL_cons rfl (WX_q rfl rfl (q_assign rfl rfl) (?_))))
      refine WL_nil (hK6 _ ?_)
      clear hK6 K6
      refine W_ret (fin_many rfl rfl rfl rfl (rcs_cons (rc_agg rfl ?_) (rcs_cons (rc_v ?_) rcs_nil)))
      all_goals (first | rfl | (simp_all [bringTo, okAt, zeroB, encB, encBc]; done) | (cases hb0 : isBucket x <;> simp_all [bringTo, okAt, zeroB, encB, encBc]; done) | (simp_all [bringTo, okAt, zeroB, encB, encBc]; omega))

end Go.Proofs.Yteplehpcplbioaa
