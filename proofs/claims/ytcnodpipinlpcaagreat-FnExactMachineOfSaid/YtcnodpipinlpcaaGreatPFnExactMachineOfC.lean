/- Texts merged into one: M3, M4, M5. -/
import Derived.Test.YtcnodpipinlpcaaGreatPFnExactMachineOfB
/- Walks through functions of the program, one contract each (written by gen.py). -/
set_option maxRecDepth 20000
set_option linter.unusedVariables false
set_option linter.unusedSimpArgs false
namespace Go.Proofs.YtcnodpipinlpcaaGreat
open Go Go.Rf

theorem c_impl_isSettled (q : Que) (hl : q.sl.length ≤ 1048576) (hw : q.wa.length ≤ 1048576) (hd : difS q.sl) : Ctr Tryz.prog 209 [.agg [.lst 3 (q.sl.map encSl), .lst 2 (q.wa.map encWa)]] (.one (.v (.bool (setd q)))) := by
  have hbb := @bstS_bd q.sl false
  refine Ctr.of (n := 33) G Tryz.func209 rfl (by kernel_rfl) rfl rfl rfl (fun w0 => ?_)
  refine W_pinS 0 rfl (fun _ => rfl) (fun u0 => ?_)
  refine W_seq (fun K1 hK1 => ?_)
  refine W_region (WL_cons rfl (WX_box 1 rfl rfl rfl rfl rfl rfl rfl (WL_cons rfl (WX_q rfl rfl (q_assign rfl rfl) (?_)))))
  refine WL_nil (hK1 _ ?_)
  clear hK1 K1
  refine W_seq (fun K2 hK2 => ?_)
  refine W_seq (fun K3 hK3 => ?_)
  refine W_region (WL_cons rfl (WX_q rfl rfl (q_field_ptr G rfl rfl rfl rfl) (WL_cons rfl (WX_q rfl rfl (q_lst (q_load_box G rfl rfl rfl rfl rfl rfl rfl)) (WL_cons rfl (?_))))))
  first | refine WX_q rfl rfl (q_len' G rfl rfl rfl rfl (List.length_map _)) ?_ | refine WX_q rfl rfl (q_len G rfl rfl rfl rfl) ?_
  refine WL_cons rfl (WX_q rfl rfl (q_cmp rfl rfl rfl rfl) (?_))
  refine WL_nil (hK3 _ ?_)
  clear hK3 K3
  refine W_cond rfl (fun h1 => ?_) (fun h1 => ?_)
  · try rw [h1]
    try simp only [rfb] at h1
    refine W_seq (fun K4 hK4 => ?_)
    refine W_region (WL_cons rfl (WX_q rfl rfl (q_assign rfl rfl) (?_)))
    refine WL_nil (hK4 _ ?_)
    clear hK4 K4
    refine W_ret (fin_one rfl (rc_v ?_))
    all_goals clear hK2 K2
    all_goals (first | (rw [setd_0 (by omega)]; done) | (rw [setd_f (by omega) (by omega)]; done) | (rw [setd_b (by omega) (by omega)]; done) | (rw [setd_l (by omega) (by omega) (by omega)]; first | rfl | (exact congrArg Value.bool (by rw [Bool.eq_iff_iff, decide_eq_true_iff]; exact urg_pos))) | rfl)
  · try rw [h1]
    try simp only [rfb] at h1
    refine W_skip (hK2 _ ?_)
    clear hK2 K2
    refine W_seq (fun K5 hK5 => ?_)
    refine W_region (WL_cons rfl (WX_q rfl rfl (q_field_ptr G rfl rfl rfl rfl) (WL_cons rfl (WX_q rfl rfl (q_lst (q_load_box G rfl rfl rfl rfl rfl rfl rfl)) (WL_cons rfl (?_))))))
    refine WX_q rfl rfl (q_call rfl (ArgsOK.of rfl) (c_impl_pendingSlot q.sl false hl hd) rfl) ?_
    refine WL_cons rfl (WX_q rfl rfl (q_assign rfl rfl) (?_))
    refine WL_nil (hK5 _ ?_)
    clear hK5 K5
    refine W_seq (fun K6 hK6 => ?_)
    refine W_draws mixed (by kernel_rfl) (QL_cons rfl (QX_q rfl rfl (q_field_ptr G rfl rfl rfl rfl) (QL_cons rfl (QX_q rfl rfl (q_lst (q_load_box G rfl rfl rfl rfl rfl rfl rfl)) (QL_cons rfl (?_))))))
    refine QX_q rfl rfl (q_call rfl (ArgsOK.of rfl) (c_impl_firstEmpty q.sl hl) rfl) ?_
    refine QL_cons rfl (QX_q rfl rfl (q_cmp rfl rfl rfl rfl) (QL_cons rfl (QX_q rfl rfl (q_move rfl rfl) (QL_part rfl rfl rfl (fun h2 => ?_) (fun h2 => ?_)))))
    · try rw [h2]
      try simp only [rfb] at h2
      refine QL_run rfl rfl rfl (QX_q rfl rfl (q_move rfl rfl) (QL_run rfl rfl rfl (QX_q rfl rfl (q_cmp rfl rfl rfl rfl) (QL_run rfl rfl rfl (QX_q rfl rfl (q_move rfl rfl) (QL_part rfl rfl rfl (fun h3 => ?_) (fun h3 => ?_)))))))
      · try rw [h3]
        try simp only [rfb] at h3
        refine QL_skip rfl rfl rfl rfl rfl rfl (QL_skip rfl rfl rfl rfl rfl rfl (QL_skip rfl rfl rfl rfl rfl rfl (QL_skip rfl rfl rfl rfl rfl rfl (QL_skip rfl rfl rfl rfl rfl rfl (QL_skip rfl rfl rfl rfl rfl rfl (QL_skip rfl rfl rfl rfl rfl rfl (QL_skip rfl rfl rfl rfl rfl rfl (QL_skip rfl rfl rfl rfl rfl rfl (QL_skip rfl rfl rfl rfl rfl rfl (QL_skip rfl rfl rfl rfl rfl rfl (QL_skip rfl rfl rfl rfl rfl rfl (QL_run rfl rfl rfl (QX_q rfl rfl (q_pick_t rfl rfl rfl) (QL_cons rfl (QX_q rfl rfl (q_pick_t rfl rfl rfl) (QL_cons rfl (QX_q rfl rfl (q_assign rfl rfl) (?_))))))))))))))))))
        refine QL_nil (hK6 _ ?_)
        clear hK6 K6
        refine W_ret (fin_one rfl (rc_v ?_))
        all_goals (first | (rw [setd_0 (by omega)]; done) | (rw [setd_f (by omega) (by omega)]; done) | (rw [setd_b (by omega) (by omega)]; done) | (rw [setd_l (by omega) (by omega) (by omega)]; first | rfl | (exact congrArg Value.bool (by rw [Bool.eq_iff_iff, decide_eq_true_iff]; exact urg_pos))) | rfl)
      · try rw [h3]
        try simp only [rfb] at h3
        refine QL_run rfl rfl rfl (QX_q rfl rfl (q_field_ptr G rfl rfl rfl rfl) (QL_run rfl rfl rfl (QX_q rfl rfl (q_lst (q_load_box G rfl rfl rfl rfl rfl rfl rfl)) (QL_run rfl rfl rfl (?_)))))
        first | refine QX_q rfl rfl (q_index_lst G rfl rfl rfl rfl (by omega) (getN (by omega))) ?_ | refine QX_q rfl rfl (q_index_lst G rfl rfl rfl rfl (by omega) (getNI (by omega) (by omega))) ?_ | refine QX_q rfl rfl (q_index_lst G rfl rfl rfl rfl (by omega) (getM (by omega) (by omega))) ?_
        refine QL_run rfl rfl rfl (QX_q rfl rfl (q_load_ept_struct G rfl rfl rfl rfl) (QL_run rfl rfl rfl (QX_q rfl rfl (q_field_ptr G rfl rfl rfl rfl) (QL_run rfl rfl rfl (QX_q rfl rfl (q_lst (q_load_box G rfl rfl rfl rfl rfl rfl rfl)) (QL_run rfl rfl rfl (QX_q rfl rfl (q_move rfl rfl) (QL_run rfl rfl rfl (?_)))))))))
        first | refine QX_q rfl rfl (q_index_lst G rfl rfl rfl rfl (by omega) (getN (by omega))) ?_ | refine QX_q rfl rfl (q_index_lst G rfl rfl rfl rfl (by omega) (getNI (by omega) (by omega))) ?_ | refine QX_q rfl rfl (q_index_lst G rfl rfl rfl rfl (by omega) (getM (by omega) (by omega))) ?_
        refine QL_run rfl rfl rfl (QX_q rfl rfl (q_load_ept_struct G rfl rfl rfl rfl) (QL_run rfl rfl rfl (?_)))
        refine QX_q rfl rfl (q_call rfl (ArgsOK.of rfl) (c_impl_waiterOf _) rfl) ?_
        refine QL_run rfl rfl rfl (?_)
        refine QX_q rfl rfl (q_call rfl (ArgsOK.of rfl) (c_impl_compareUrgency _ _) rfl) ?_
        refine QL_run rfl rfl rfl (QX_q rfl rfl (q_cmp rfl rfl rfl rfl) (QL_run rfl rfl rfl (QX_q rfl rfl (q_pick_f rfl rfl rfl) (QL_cons rfl (QX_q rfl rfl (q_pick_t rfl rfl rfl) (QL_cons rfl (QX_q rfl rfl (q_assign rfl rfl) (?_))))))))
        refine QL_nil (hK6 _ ?_)
        clear hK6 K6
        refine W_ret (fin_one rfl (rc_v ?_))
        all_goals (first | (rw [setd_0 (by omega)]; done) | (rw [setd_f (by omega) (by omega)]; done) | (rw [setd_b (by omega) (by omega)]; done) | (rw [setd_l (by omega) (by omega) (by omega)]; first | rfl | (exact congrArg Value.bool (by rw [Bool.eq_iff_iff, decide_eq_true_iff]; exact urg_pos))) | rfl)
    · try rw [h2]
      try simp only [rfb] at h2
      refine QL_skip rfl rfl rfl rfl rfl rfl (QL_skip rfl rfl rfl rfl rfl rfl (QL_skip rfl rfl rfl rfl rfl rfl (QL_skip_u rfl rfl rfl rfl rfl (QL_skip_u rfl rfl rfl rfl rfl (QL_skip_u rfl rfl rfl rfl rfl (QL_skip_u rfl rfl rfl rfl rfl (QL_skip_u rfl rfl rfl rfl rfl (QL_skip_u rfl rfl rfl rfl rfl (QL_skip_u rfl rfl rfl rfl rfl (QL_skip_u rfl rfl rfl rfl rfl (QL_skip_u rfl rfl rfl rfl rfl (QL_skip_u rfl rfl rfl rfl rfl (QL_skip_u rfl rfl rfl rfl rfl (QL_skip_u rfl rfl rfl rfl rfl (QL_skip rfl rfl rfl rfl rfl rfl (QL_cons rfl (QX_q rfl rfl (q_pick_f rfl rfl rfl) (QL_cons rfl (QX_q rfl rfl (q_assign rfl rfl) (?_))))))))))))))))))))
      refine QL_nil (hK6 _ ?_)
      clear hK6 K6
      refine W_ret (fin_one rfl (rc_v ?_))
      all_goals (first | (rw [setd_0 (by omega)]; done) | (rw [setd_f (by omega) (by omega)]; done) | (rw [setd_b (by omega) (by omega)]; done) | (rw [setd_l (by omega) (by omega) (by omega)]; first | rfl | (exact congrArg Value.bool (by rw [Bool.eq_iff_iff, decide_eq_true_iff]; exact urg_pos))) | rfl)

theorem c_spec_l9Settled (q : Que) (hl : q.sl.length ≤ 1048576) (hw : q.wa.length ≤ 1048576) : Ctr Tryz.prog 219 [.agg [.lst 3 (q.sl.map encSl), .lst 2 (q.wa.map encWa)]] (.one (.v (.bool (setd q)))) := by
  have hbb := @bstS_bd q.sl false
  refine Ctr.of (n := 42) G Tryz.func219 rfl (by kernel_rfl) rfl rfl rfl (fun w0 => ?_)
  refine W_pinS 0 rfl (fun _ => rfl) (fun u0 => ?_)
  refine W_seq (fun K1 hK1 => ?_)
  refine W_region (WL_cons rfl (WX_box 1 rfl rfl rfl rfl rfl rfl rfl (WL_cons rfl (WX_q rfl rfl (q_assign rfl rfl) (?_)))))
  refine WL_nil (hK1 _ ?_)
  clear hK1 K1
  refine W_seq (fun K2 hK2 => ?_)
  refine W_seq (fun K3 hK3 => ?_)
  refine W_region (WL_cons rfl (WX_q rfl rfl (q_field_ptr G rfl rfl rfl rfl) (WL_cons rfl (WX_q rfl rfl (q_lst (q_load_box G rfl rfl rfl rfl rfl rfl rfl)) (WL_cons rfl (?_))))))
  first | refine WX_q rfl rfl (q_len' G rfl rfl rfl rfl (List.length_map _)) ?_ | refine WX_q rfl rfl (q_len G rfl rfl rfl rfl) ?_
  refine WL_cons rfl (WX_q rfl rfl (q_cmp rfl rfl rfl rfl) (?_))
  refine WL_nil (hK3 _ ?_)
  clear hK3 K3
  refine W_cond rfl (fun h1 => ?_) (fun h1 => ?_)
  · try rw [h1]
    try simp only [rfb] at h1
    refine W_seq (fun K4 hK4 => ?_)
    refine W_region (WL_cons rfl (WX_q rfl rfl (q_assign rfl rfl) (?_)))
    refine WL_nil (hK4 _ ?_)
    clear hK4 K4
    refine W_ret (fin_one rfl (rc_v ?_))
    all_goals clear hK2 K2
    all_goals (first | (rw [setd_0 (by omega)]; done) | (rw [setd_f (by omega) (by omega)]; done) | (rw [setd_b (by omega) (by omega)]; done) | (rw [setd_l (by omega) (by omega) (by omega)]; first | rfl | (exact congrArg Value.bool (by rw [Bool.eq_iff_iff, decide_eq_true_iff]; exact urg_pos))) | rfl)
  · try rw [h1]
    try simp only [rfb] at h1
    refine W_skip (hK2 _ ?_)
    clear hK2 K2
    refine W_seq (fun K5 hK5 => ?_)
    refine W_seq (fun K6 hK6 => ?_)
    refine W_region (WL_cons rfl (WX_q rfl rfl (q_field_ptr G rfl rfl rfl rfl) (WL_cons rfl (WX_q rfl rfl (q_lst (q_load_box G rfl rfl rfl rfl rfl rfl rfl)) (WL_cons rfl (?_))))))
    refine WX_q rfl rfl (q_call rfl (ArgsOK.of rfl) (c_spec_l8Free q.sl hl) rfl) ?_
    refine WL_cons rfl (WX_q rfl rfl (q_cmp rfl rfl rfl rfl) (?_))
    refine WL_nil (hK6 _ ?_)
    clear hK6 K6
    refine W_cond rfl (fun h2 => ?_) (fun h2 => ?_)
    · try rw [h2]
      try simp only [rfb] at h2
      refine W_seq (fun K7 hK7 => ?_)
      refine W_region (WL_cons rfl (WX_q rfl rfl (q_assign rfl rfl) (?_)))
      refine WL_nil (hK7 _ ?_)
      clear hK7 K7
      refine W_ret (fin_one rfl (rc_v ?_))
      all_goals clear hK5 K5
      all_goals (first | (rw [setd_0 (by omega)]; done) | (rw [setd_f (by omega) (by omega)]; done) | (rw [setd_b (by omega) (by omega)]; done) | (rw [setd_l (by omega) (by omega) (by omega)]; first | rfl | (exact congrArg Value.bool (by rw [Bool.eq_iff_iff, decide_eq_true_iff]; exact urg_pos))) | rfl)
    · try rw [h2]
      try simp only [rfb] at h2
      refine W_skip (hK5 _ ?_)
      clear hK5 K5
      refine W_seq (fun K8 hK8 => ?_)
      refine W_region (WL_cons rfl (WX_q rfl rfl (q_field_ptr G rfl rfl rfl rfl) (WL_cons rfl (WX_q rfl rfl (q_lst (q_load_box G rfl rfl rfl rfl rfl rfl rfl)) (WL_cons rfl (?_))))))
      refine WX_q rfl rfl (q_call rfl (ArgsOK.of rfl) (c_spec_l8Best_f q.sl hl) rfl) ?_
      refine WL_cons rfl (WX_q rfl rfl (q_assign rfl rfl) (?_))
      refine WL_nil (hK8 _ ?_)
      clear hK8 K8
      refine W_seq (fun K9 hK9 => ?_)
      refine W_draws mixed (by kernel_rfl) (QL_cons rfl (QX_q rfl rfl (q_move rfl rfl) (QL_cons rfl (QX_q rfl rfl (q_cmp rfl rfl rfl rfl) (QL_cons rfl (QX_q rfl rfl (q_move rfl rfl) (QL_part rfl rfl rfl (fun h3 => ?_) (fun h3 => ?_))))))))
      · try rw [h3]
        try simp only [rfb] at h3
        refine QL_skip rfl rfl rfl rfl rfl rfl (QL_skip rfl rfl rfl rfl rfl rfl (QL_skip rfl rfl rfl rfl rfl rfl (QL_skip rfl rfl rfl rfl rfl rfl (QL_skip rfl rfl rfl rfl rfl rfl (QL_skip rfl rfl rfl rfl rfl rfl (QL_skip rfl rfl rfl rfl rfl rfl (QL_skip rfl rfl rfl rfl rfl rfl (QL_skip rfl rfl rfl rfl rfl rfl (QL_skip rfl rfl rfl rfl rfl rfl (QL_skip rfl rfl rfl rfl rfl rfl (QL_skip rfl rfl rfl rfl rfl rfl (QL_skip rfl rfl rfl rfl rfl rfl (QL_skip rfl rfl rfl rfl rfl rfl (QL_skip rfl rfl rfl rfl rfl rfl (QL_skip rfl rfl rfl rfl rfl rfl (QL_skip rfl rfl rfl rfl rfl rfl (QL_skip rfl rfl rfl rfl rfl rfl (QL_skip rfl rfl rfl rfl rfl rfl (QL_skip rfl rfl rfl rfl rfl rfl (QL_skip rfl rfl rfl rfl rfl rfl (QL_skip rfl rfl rfl rfl rfl rfl (QL_skip rfl rfl rfl rfl rfl rfl (QL_cons rfl (QX_q rfl rfl (q_pick_t rfl rfl rfl) (QL_cons rfl (QX_q rfl rfl (q_assign rfl rfl) (?_)))))))))))))))))))))))))))
        refine QL_nil (hK9 _ ?_)
        clear hK9 K9
        refine W_ret (fin_one rfl (rc_v ?_))
        all_goals (first | (rw [setd_0 (by omega)]; done) | (rw [setd_f (by omega) (by omega)]; done) | (rw [setd_b (by omega) (by omega)]; done) | (rw [setd_l (by omega) (by omega) (by omega)]; first | rfl | (exact congrArg Value.bool (by rw [Bool.eq_iff_iff, decide_eq_true_iff]; exact urg_pos))) | rfl)
      · try rw [h3]
        try simp only [rfb] at h3
        refine QL_run rfl rfl rfl (QX_q rfl rfl (q_field_ptr G rfl rfl rfl rfl) (QL_run rfl rfl rfl (QX_q rfl rfl (q_lst (q_load_box G rfl rfl rfl rfl rfl rfl rfl)) (QL_run rfl rfl rfl (QX_q rfl rfl (q_move rfl rfl) (QL_run rfl rfl rfl (?_)))))))
        first | refine QX_q rfl rfl (q_index_lst G rfl rfl rfl rfl (by omega) (getN (by omega))) ?_ | refine QX_q rfl rfl (q_index_lst G rfl rfl rfl rfl (by omega) (getNI (by omega) (by omega))) ?_ | refine QX_q rfl rfl (q_index_lst G rfl rfl rfl rfl (by omega) (getM (by omega) (by omega))) ?_
        refine QL_run rfl rfl rfl (QX_q rfl rfl (q_field_ept G rfl rfl rfl rfl) (QL_run rfl rfl rfl (QX_q rfl rfl (q_load_ept G rfl rfl rfl rfl rfl) (QL_run rfl rfl rfl (QX_q rfl rfl (q_field_ptr G rfl rfl rfl rfl) (QL_run rfl rfl rfl (QX_q rfl rfl (q_lst (q_load_box G rfl rfl rfl rfl rfl rfl rfl)) (QL_run rfl rfl rfl (QX_q rfl rfl (q_move rfl rfl) (QL_run rfl rfl rfl (?_)))))))))))
        first | refine QX_q rfl rfl (q_index_lst G rfl rfl rfl rfl (by omega) (getN (by omega))) ?_ | refine QX_q rfl rfl (q_index_lst G rfl rfl rfl rfl (by omega) (getNI (by omega) (by omega))) ?_ | refine QX_q rfl rfl (q_index_lst G rfl rfl rfl rfl (by omega) (getM (by omega) (by omega))) ?_
        refine QL_run rfl rfl rfl (QX_q rfl rfl (q_field_ept G rfl rfl rfl rfl) (QL_run rfl rfl rfl (QX_q rfl rfl (q_load_ept G rfl rfl rfl rfl rfl) (QL_run rfl rfl rfl (QX_q rfl rfl (q_field_ptr G rfl rfl rfl rfl) (QL_run rfl rfl rfl (QX_q rfl rfl (q_lst (q_load_box G rfl rfl rfl rfl rfl rfl rfl)) (QL_run rfl rfl rfl (?_)))))))))
        first | refine QX_q rfl rfl (q_index_lst G rfl rfl rfl rfl (by omega) (getN (by omega))) ?_ | refine QX_q rfl rfl (q_index_lst G rfl rfl rfl rfl (by omega) (getNI (by omega) (by omega))) ?_ | refine QX_q rfl rfl (q_index_lst G rfl rfl rfl rfl (by omega) (getM (by omega) (by omega))) ?_
        refine QL_run rfl rfl rfl (QX_q rfl rfl (q_field_ept G rfl rfl rfl rfl) (QL_run rfl rfl rfl (QX_q rfl rfl (q_load_ept G rfl rfl rfl rfl rfl) (QL_run rfl rfl rfl (QX_q rfl rfl (q_field_ptr G rfl rfl rfl rfl) (QL_run rfl rfl rfl (QX_q rfl rfl (q_lst (q_load_box G rfl rfl rfl rfl rfl rfl rfl)) (QL_run rfl rfl rfl (?_)))))))))
        first | refine QX_q rfl rfl (q_index_lst G rfl rfl rfl rfl (by omega) (getN (by omega))) ?_ | refine QX_q rfl rfl (q_index_lst G rfl rfl rfl rfl (by omega) (getNI (by omega) (by omega))) ?_ | refine QX_q rfl rfl (q_index_lst G rfl rfl rfl rfl (by omega) (getM (by omega) (by omega))) ?_
        refine QL_run rfl rfl rfl (QX_q rfl rfl (q_field_ept G rfl rfl rfl rfl) (QL_run rfl rfl rfl (QX_q rfl rfl (q_load_ept G rfl rfl rfl rfl rfl) (QL_run rfl rfl rfl (?_)))))
        refine QX_q rfl rfl (q_call rfl (ArgsOK.of rfl) (c_spec_l8Less _ _ _ _) rfl) ?_
        refine QL_cons rfl (QX_q rfl rfl (q_pick_f rfl rfl rfl) (QL_cons rfl (QX_q rfl rfl (q_assign rfl rfl) (?_))))
        refine QL_nil (hK9 _ ?_)
        clear hK9 K9
        refine W_ret (fin_one rfl (rc_v ?_))
        all_goals (first | (rw [setd_0 (by omega)]; done) | (rw [setd_f (by omega) (by omega)]; done) | (rw [setd_b (by omega) (by omega)]; done) | (rw [setd_l (by omega) (by omega) (by omega)]; first | rfl | (exact congrArg Value.bool (by rw [Bool.eq_iff_iff, decide_eq_true_iff]; exact urg_pos))) | rfl)

theorem c_impl_newQueue (q : Que) (hl : q.sl.length ≤ 1048576) (hw : q.wa.length ≤ 1048576) : Ctr Tryz.prog 189 [.agg [.lst 3 (q.sl.map encSl), .lst 2 (q.wa.map encWa)]] (.shp true [some 2] [.fr 154 3 (q.sl.map encSl), .fr 183 2 (q.wa.map encWa) true]) := by
  refine Ctr.of (n := 12) G Tryz.func189 rfl (by kernel_rfl) rfl rfl rfl (fun w0 => ?_)
  refine W_pinS 0 rfl (fun _ => rfl) (fun u0 => ?_)
  refine W_seq (fun K1 hK1 => ?_)
  refine W_region (WL_cons rfl (WX_box 1 rfl rfl rfl rfl rfl rfl rfl (WL_cons rfl (WX_alloc_s G 2 rfl rfl rfl rfl rfl (?_)))))
  refine WL_nil (hK1 _ ?_)
  clear hK1 K1
  refine W_seq (fun K2 hK2 => ?_)
  refine W_drawsH 10 [0] mixed (by kernel_rfl) rfl rfl (fun r0 => ?_) (fun _ h => h)
  refine WA_take 1 rfl (by kernel_rfl) (by kernel_rfl) rfl rfl rfl rfl (q_field_ptr G rfl rfl rfl rfl) (WA_take 2 rfl (by kernel_rfl) (by kernel_rfl) rfl rfl rfl rfl (q_lst (q_load_box G rfl rfl rfl rfl rfl rfl rfl)) (WA_take 5 rfl (by kernel_rfl) (by kernel_rfl) rfl rfl rfl rfl (q_field_ptr G rfl rfl rfl rfl) (WA_take 6 rfl (by kernel_rfl) (by kernel_rfl) rfl rfl rfl rfl (q_lst (q_load_box G rfl rfl rfl rfl rfl rfl rfl)) (?_))))
  refine WA_more (N := 4) rfl (WAV_startH (fuel := 4) [⟨0, 3, 2, false, .row 154 3 []⟩, ⟨4, 7, 3, false, .row 183 2 []⟩] (AllVOK.cons (VOK.lit G rfl rfl rfl rfl rfl) (AllVOK.cons (VOK.lit G rfl rfl rfl rfl rfl) (AllVOK.nil))) (fun hok => ?_))
  refine WAV_go [(3, [0])] (by kernel_rfl) (by kernel_rfl) (fun e he => hok e he) (by kernel_rfl) (AllVS.cons ?_ AllVS.nil)
  refine VStep.mk1 [0] 3 (.own 2) 2 (.row 154 3 []) [⟨4, 7, 3, false, .row 183 2 []⟩] rfl rfl rfl rfl rfl (fun b1 _ hbn => WX_append G (by rw [hbn]; exact Nat.le_of_ble_eq_true rfl) rfl rfl rfl rfl rfl rfl rfl rfl rfl (by simp; omega) rfl rfl (WL_nil rfl)) (by kernel_rfl) (by kernel_rfl) (by kernel_rfl) (by kernel_rfl) ?_
  refine WAV_go [(7, [4])] (by kernel_rfl) (by kernel_rfl) (fun e he => hok e (vin (is := [0]) rfl he)) (by kernel_rfl) (AllVS.cons ?_ AllVS.nil)
  refine VStep.mk1 [0] 7 (.own 3) 3 (.row 183 2 []) [] rfl rfl rfl rfl rfl (fun b1 _ hbn => WX_append G (by rw [hbn]; exact Nat.le_of_ble_eq_true rfl) rfl rfl rfl rfl rfl rfl rfl rfl rfl (by simp; omega) rfl rfl (WL_nil rfl)) (by kernel_rfl) (by kernel_rfl) (by kernel_rfl) (by kernel_rfl) ?_
  refine WAV_nil ?_
  clear hok
  refine WA_branch (rs := [8]) (by kernel_rfl) rfl (AllB.cons ?_ AllB.nil)
  refine WB_run [0] rfl rfl (WX_q rfl rfl (q_build G rfl rfl rfl rfl) (WL_nil ⟨rfl, ?_⟩))
  refine WA_branch (rs := [9]) (by kernel_rfl) rfl (AllB.cons ?_ AllB.nil)
  refine WB_run [0] rfl rfl (WX_store G rfl rfl rfl rfl rfl rfl rfl rfl rfl rfl rfl (WL_nil ⟨rfl, ?_⟩))
  refine WA_end (by kernel_rfl) (hK2 _ ?_)
  clear hK2 K2
  refine W_ret (fin_shp rfl rfl rfl rfl (rcs_cons (rc_own rfl ?_) (rcs_cons (rc_own rfl ?_) rcs_nil)))
  all_goals (first | rfl | simp)

end Go.Proofs.YtcnodpipinlpcaaGreat

/- Walks through functions of the program, one contract each (written by gen.py). -/
set_option maxRecDepth 20000
set_option linter.unusedVariables false
set_option linter.unusedSimpArgs false
namespace Go.Proofs.YtcnodpipinlpcaaGreat
open Go Go.Rf

set_option maxHeartbeats 1600000 in
theorem c_slices_Insert_impl_Waiter_impl_Waiter (xs : List Wtr) (v : Wtr) (i : Nat) (hi : i ≤ xs.length) (hl : xs.length ≤ 100000) : CtrM Tryz.prog 227 [.own 0, .v (.int .i64 (i : Int)), .own 1] [.row 183 2 (xs.map encWa), .row 183 2 [encWa v]] (.one (.fr 183 2 ((xs.take i ++ [v] ++ xs.drop i).map encWa))) [none, some (.row 183 2 [encWa v])] := by
  refine CtrM.of (n := 95) (k := 2) G Tryz.func227 rfl (by kernel_rfl) rfl rfl rfl rfl rfl rfl rfl (fun w0 _ hpin => ?_)
  refine W_seq (fun K1 hK1 => ?_)
  refine W_region (WL_cons rfl (WX_q rfl rfl (q_assign rfl rfl) (?_)))
  refine WL_nil (hK1 _ ?_)
  clear hK1 K1
  refine W_seq (fun K2 hK2 => ?_)
  refine W_region (WL_cons rfl (WX_q rfl rfl (q_move rfl rfl) (WL_cons rfl (WX_q rfl rfl (q_move rfl rfl) (WL_cons rfl (?_))))))
  refine WX_q rfl rfl (q_cut_own G rfl rfl rfl rfl rfl rfl (by omega) (by first | omega | (simp; done) | (simp; omega)) (by first | omega | (simp; done) | (simp; omega))) ?_
  refine WL_nil (hK2 _ ?_)
  clear hK2 K2
  refine W_seq (fun K3 hK3 => ?_)
  refine W_region (WL_cons rfl (WX_q rfl rfl (q_move rfl rfl) (WL_cons rfl (?_))))
  first | refine WX_q rfl rfl (q_len' G rfl rfl rfl rfl (show List.length [_] = 1 from rfl)) ?_ | refine WX_q rfl rfl (q_len' G rfl rfl rfl rfl (List.length_map _)) ?_ | refine WX_q rfl rfl (q_len G rfl rfl rfl rfl) ?_
  refine WL_cons rfl (WX_q rfl rfl (q_assign rfl rfl) (?_))
  refine WL_nil (hK3 _ ?_)
  clear hK3 K3
  refine W_seq (fun K4 hK4 => ?_)
  refine W_seq (fun K5 hK5 => ?_)
  refine W_region (WL_cons rfl (WX_q rfl rfl (q_move rfl rfl) (WL_cons rfl (WX_q rfl rfl (q_cmp rfl rfl rfl rfl) (?_)))))
  refine WL_nil (hK5 _ ?_)
  clear hK5 K5
  refine W_cond rfl (fun h1 => ?_) (fun h1 => ?_)
  · try rw [h1]
    try simp only [rfb] at h1
    exact absurd h1 (by decide)
  · try rw [h1]
    try simp only [rfb] at h1
    refine W_skip (hK4 _ ?_)
    clear hK4 K4
    refine W_seq (fun K6 hK6 => ?_)
    refine W_region (WL_cons rfl (WX_q rfl rfl (q_move rfl rfl) (WL_cons rfl (?_))))
    first | refine WX_q rfl rfl (q_len' G rfl rfl rfl rfl (show List.length [_] = 1 from rfl)) ?_ | refine WX_q rfl rfl (q_len' G rfl rfl rfl rfl (List.length_map _)) ?_ | refine WX_q rfl rfl (q_len G rfl rfl rfl rfl) ?_
    refine WL_cons rfl (WX_q rfl rfl (q_assign rfl rfl) (?_))
    refine WL_nil (hK6 _ ?_)
    clear hK6 K6
    refine W_seq (fun K7 hK7 => ?_)
    refine W_seq (fun K8 hK8 => ?_)
    refine W_region (WL_cons rfl (WX_q rfl rfl (q_move rfl rfl) (WL_cons rfl (WX_q rfl rfl (q_move rfl rfl) (WL_cons rfl (WX_q rfl rfl (q_cmp rfl rfl rfl rfl) (?_)))))))
    refine WL_nil (hK8 _ ?_)
    clear hK8 K8
    refine W_cond rfl (fun h2 => ?_) (fun h2 => ?_)
    · try rw [h2]
      try simp only [rfb] at h2
      refine W_seq (fun K9 hK9 => ?_)
      refine W_region (WL_cons rfl (WX_q rfl rfl (q_move rfl rfl) (WL_cons rfl (WX_q rfl rfl (q_move rfl rfl) (WL_cons rfl (?_))))))
      refine WX_ren (tx := 23) 3 rfl rfl rfl rfl rfl <| WX_append G (by rw [hpin]; decide) rfl rfl rfl rfl rfl rfl rfl rfl rfl (by simp only [List.length_map, List.length_cons, List.length_nil]; omega) rfl rfl ?_
      refine WL_cons rfl (WX_q rfl rfl (q_assign rfl rfl) (?_))
      refine WL_nil (hK9 _ ?_)
      clear hK9 K9
      refine W_ret (finm_one rfl (rc_own rfl ?_) rfl (AftOK.gone (AftOK.stays rfl ?_ rfl AftOK.nil)))
      all_goals clear hK7 K7
      all_goals (first | rfl | (have e : i = xs.length := (by omega); subst e; simp; done) | (have ht1 : ((i : Int) + 1).toNat = i + 1 := (by omega); first | (rw [show List.take ((((xs.map encWa).length : Nat) : Int).toNat - ((i : Nat) : Int).toNat) (List.drop ((i : Nat) : Int).toNat (xs.map encWa)) = List.drop i (xs.map encWa) from List.take_of_length_le (by rw [List.length_drop, Int.toNat_natCast, Int.toNat_natCast]; exact Nat.le_refl _)]; simp only [Int.toNat_natCast, ht1, Int.toNat_zero, List.length_drop, List.length_cons, List.length_nil, Nat.zero_add, List.map_append, List.map_take, List.map_drop, List.map_cons, List.map_nil, Nat.sub_zero]; exact ins_grow (by rw [List.length_map]; exact hi) (by rw [List.length_replicate, List.length_map])) | (rw [show xs.length + 1 = (xs.map encWa).length + 1 from by rw [List.length_map]]; simp only [Int.toNat_natCast, ht1, Int.toNat_zero, List.length_drop, List.length_cons, List.length_nil, Nat.zero_add, List.map_append, List.map_take, List.map_drop, List.map_cons, List.map_nil, Nat.sub_zero]; exact ins_room (by rw [List.length_map]; exact hi) (by omega))))
    · try rw [h2]
      try simp only [rfb] at h2
      refine W_skip (hK7 _ ?_)
      clear hK7 K7
      refine W_seq (fun K10 hK10 => ?_)
      refine W_seq (fun K11 hK11 => ?_)
      refine W_region (WL_cons rfl (WX_q rfl rfl (q_move rfl rfl) (WL_cons rfl (WX_q rfl rfl (q_move rfl rfl) (WL_cons rfl (?_))))))
      first | refine WX_q rfl rfl (q_arith rfl rfl rfl rfl (by omega) (by omega)) ?_ | refine WX_q rfl rfl (q_wrap rfl rfl rfl rfl) ?_
      refine WL_cons rfl (WX_q rfl rfl (q_move rfl rfl) (WL_cons rfl (?_)))
      refine WX_cap G rfl rfl rfl rfl rfl rfl (by (try simp only [List.length_take, List.length_append, List.length_map, List.length_drop, List.length_cons, List.length_nil, List.length_replicate, Int.toNat_natCast]); omega) (fun gs hgs hall => ?_)
      simp only [List.length_map] at hgs
      refine WL_cons rfl (WX_q rfl rfl (q_cmp rfl rfl rfl rfl) (?_))
      refine WL_nil (hK11 _ ?_)
      clear hK11 K11
      refine W_cond rfl (fun h3 => ?_) (fun h3 => ?_)
      · try rw [h3]
        try simp only [rfb] at h3
        try simp only [List.length_map] at h3
        refine W_seq (fun K12 hK12 => ?_)
        refine W_region (WL_cons rfl (WX_q rfl rfl (q_move rfl rfl) (WL_cons rfl (WX_q rfl rfl (q_move rfl rfl) (WL_cons rfl (?_))))))
        refine WX_q rfl rfl (q_cut_spare G rfl rfl rfl rfl rfl rfl (by (try simp only [List.length_take, List.length_append, List.length_map, List.length_drop, List.length_cons, List.length_nil, List.length_replicate, Int.toNat_natCast]); omega) (by (try simp only [List.length_take, List.length_append, List.length_map, List.length_drop, List.length_cons, List.length_nil, List.length_replicate, Int.toNat_natCast]); omega) (by (try simp only [List.length_take, List.length_append, List.length_map, List.length_drop, List.length_cons, List.length_nil, List.length_replicate, Int.toNat_natCast]); omega) (by (try simp only [List.length_take, List.length_append, List.length_map, List.length_drop, List.length_cons, List.length_nil, List.length_replicate, Int.toNat_natCast]); omega)) ?_
        refine WL_cons rfl (WX_q rfl rfl (q_move rfl rfl) (WL_cons rfl (WX_q rfl rfl (q_move rfl rfl) (WL_cons rfl (?_)))))
        first | refine WX_q rfl rfl (q_arith rfl rfl rfl rfl (by omega) (by omega)) ?_ | refine WX_q rfl rfl (q_wrap rfl rfl rfl rfl) ?_
        refine WL_cons rfl (WX_q rfl rfl (q_move rfl rfl) (WL_cons rfl (?_)))
        first | refine WX_q rfl rfl (q_arith rfl rfl rfl rfl (by omega) (by omega)) ?_ | refine WX_q rfl rfl (q_wrap rfl rfl rfl rfl) ?_
        refine WL_cons rfl (?_)
        refine WX_growmake (k := (xs.length + 1 - i)) G 3 rfl rfl rfl rfl rfl rfl rfl rfl rfl (by (try simp only [List.length_take, List.length_append, List.length_map, List.length_drop, List.length_cons, List.length_nil, List.length_replicate, Int.toNat_natCast]); omega) (by (try simp only [List.length_take, List.length_append, List.length_map, List.length_drop, List.length_cons, List.length_nil, List.length_replicate, Int.toNat_natCast]); omega) (by (try simp only [List.length_take, List.length_append, List.length_map, List.length_drop, List.length_cons, List.length_nil, List.length_replicate, Int.toNat_natCast]); omega) (by (try simp only [List.length_take, List.length_append, List.length_map, List.length_drop, List.length_cons, List.length_nil, List.length_replicate, Int.toNat_natCast]); omega) (by (try simp only [List.length_take, List.length_append, List.length_map, List.length_drop, List.length_cons, List.length_nil, List.length_replicate, Int.toNat_natCast]); omega) (by (try simp only [List.length_take, List.length_append, List.length_map, List.length_drop, List.length_cons, List.length_nil, List.length_replicate, Int.toNat_natCast]); omega) (fun c hc => (hall c hc).2) (by (try simp only [List.length_take, List.length_append, List.length_map, List.length_drop, List.length_cons, List.length_nil, List.length_replicate, Int.toNat_natCast]); omega) ?_
        refine WL_cons rfl (WX_q rfl rfl (q_assign rfl rfl) (?_))
        refine WL_nil (hK12 _ ?_)
        clear hK12 K12
        refine W_seq (fun K13 hK13 => ?_)
        refine W_region (WL_cons rfl (WX_q rfl rfl (q_move rfl rfl) (WL_cons rfl (WX_q rfl rfl (q_move rfl rfl) (WL_cons rfl (?_))))))
        refine WX_q rfl rfl (q_cut_own G rfl rfl rfl rfl rfl rfl (by omega) (by first | omega | (simp; done) | (simp; omega)) (by first | omega | (simp; done) | (simp; omega))) ?_
        refine WL_cons rfl (WX_q rfl rfl (q_move rfl rfl) (WL_cons rfl (?_)))
        refine WX_copy_row G rfl rfl rfl rfl rfl rfl rfl (SrcOK.of (vs := [encWa v]) (by intro c hc; rw [List.mem_singleton.1 hc]; rfl) (ArgOK.of rfl) (by decide)) (by intro c hc; rw [List.mem_singleton.1 hc]; exact ⟨rfl, enc_oneW v⟩) (by (try simp only [List.length_take, List.length_append, List.length_map, List.length_drop, List.length_cons, List.length_nil, List.length_replicate, Int.toNat_natCast]); omega) (by (try simp only [List.length_take, List.length_append, List.length_map, List.length_drop, List.length_cons, List.length_nil, List.length_replicate, Int.toNat_natCast]); omega) (by (try simp only [List.length_take, List.length_append, List.length_map, List.length_drop, List.length_cons, List.length_nil, List.length_replicate, Int.toNat_natCast]); omega) ?_
        refine WL_nil (hK13 _ ?_)
        clear hK13 K13
        refine W_seq (fun K14 hK14 => ?_)
        refine W_drawsH 9 [0, 1] mixed (by kernel_rfl) rfl rfl (fun r0 => ?_) (fun _ h => h)
        refine WA_take 0 rfl (by kernel_rfl) (by kernel_rfl) rfl rfl rfl rfl (q_move rfl rfl) (WA_take 1 rfl (by kernel_rfl) (by kernel_rfl) rfl rfl rfl rfl (q_move rfl rfl) (WA_take 2 rfl (by kernel_rfl) (by kernel_rfl) rfl rfl rfl rfl (q_move rfl rfl) (?_)))
        first | refine WA_take 3 rfl (by kernel_rfl) (by kernel_rfl) rfl rfl rfl rfl (q_arith rfl rfl rfl rfl (by omega) (by omega)) ?_ | refine WA_take 3 rfl (by kernel_rfl) (by kernel_rfl) rfl rfl rfl rfl (q_wrap rfl rfl rfl rfl) ?_
        refine WA_take 5 rfl (by kernel_rfl) (by kernel_rfl) rfl rfl rfl rfl (q_move rfl rfl) (WA_take 6 rfl (by kernel_rfl) (by kernel_rfl) rfl rfl rfl rfl (q_move rfl rfl) (?_))
        refine WA_take 7 rfl (by kernel_rfl) (by kernel_rfl) rfl rfl rfl rfl (q_cut_spare G rfl rfl rfl rfl rfl rfl (by (try simp only [List.length_take, List.length_append, List.length_map, List.length_drop, List.length_cons, List.length_nil, List.length_replicate, Int.toNat_natCast]); omega) (by (try simp only [List.length_take, List.length_append, List.length_map, List.length_drop, List.length_cons, List.length_nil, List.length_replicate, Int.toNat_natCast]); omega) (by (try simp only [List.length_take, List.length_append, List.length_map, List.length_drop, List.length_cons, List.length_nil, List.length_replicate, Int.toNat_natCast]); omega) (by (try simp only [List.length_take, List.length_append, List.length_map, List.length_drop, List.length_cons, List.length_nil, List.length_replicate, Int.toNat_natCast]); omega)) ?_
        refine WA_branch (rs := [4]) (by kernel_rfl) rfl (AllB.cons ?_ AllB.nil)
        refine WB_run [0, 1] rfl rfl (WX_q rfl rfl (q_cut_own G rfl rfl rfl rfl rfl rfl (by omega) (by first | omega | (simp; done) | (simp; omega)) (by first | omega | (simp; done) | (simp; omega))) (WL_nil ⟨rfl, ?_⟩))
        refine WA_branch (rs := [8]) (by kernel_rfl) rfl (AllB.cons ?_ AllB.nil)
        refine WB_run [0, 1] rfl rfl (WX_copy_row G rfl rfl rfl rfl rfl rfl rfl (SrcOK.spare rfl (by (try simp only [List.length_take, List.length_append, List.length_map, List.length_drop, List.length_cons, List.length_nil, List.length_replicate, Int.toNat_natCast]); omega)) (fun c hc => hall c (List.mem_of_mem_drop (List.mem_of_mem_take hc))) (by (try simp only [List.length_take, List.length_append, List.length_map, List.length_drop, List.length_cons, List.length_nil, List.length_replicate, Int.toNat_natCast]); omega) (by (try simp only [List.length_take, List.length_append, List.length_map, List.length_drop, List.length_cons, List.length_nil, List.length_replicate, Int.toNat_natCast]); omega) (by (try simp only [List.length_take, List.length_append, List.length_map, List.length_drop, List.length_cons, List.length_nil, List.length_replicate, Int.toNat_natCast]); omega) (WL_nil ⟨rfl, ?_⟩))
        refine WA_end (by kernel_rfl) (hK14 _ ?_)
        clear hK14 K14
        refine W_seq (fun K15 hK15 => ?_)
        refine W_region (WL_cons rfl (WX_q rfl rfl (q_move rfl rfl) (WL_cons rfl (WX_q rfl rfl (q_assign rfl rfl) (?_)))))
        refine WL_nil (hK15 _ ?_)
        clear hK15 K15
        refine W_ret (finm_one rfl (rc_own rfl ?_) rfl (AftOK.gone (AftOK.stays rfl ?_ rfl AftOK.nil)))
        all_goals clear hK10 K10
        all_goals (first | rfl | (have e : i = xs.length := (by omega); subst e; simp; done) | (have ht1 : ((i : Int) + 1).toNat = i + 1 := (by omega); first | (rw [show List.take ((((xs.map encWa).length : Nat) : Int).toNat - ((i : Nat) : Int).toNat) (List.drop ((i : Nat) : Int).toNat (xs.map encWa)) = List.drop i (xs.map encWa) from List.take_of_length_le (by rw [List.length_drop, Int.toNat_natCast, Int.toNat_natCast]; exact Nat.le_refl _)]; simp only [Int.toNat_natCast, ht1, Int.toNat_zero, List.length_drop, List.length_cons, List.length_nil, Nat.zero_add, List.map_append, List.map_take, List.map_drop, List.map_cons, List.map_nil, Nat.sub_zero]; exact ins_grow (by rw [List.length_map]; exact hi) (by rw [List.length_replicate, List.length_map])) | (rw [show xs.length + 1 = (xs.map encWa).length + 1 from by rw [List.length_map]]; simp only [Int.toNat_natCast, ht1, Int.toNat_zero, List.length_drop, List.length_cons, List.length_nil, Nat.zero_add, List.map_append, List.map_take, List.map_drop, List.map_cons, List.map_nil, Nat.sub_zero]; exact ins_room (by rw [List.length_map]; exact hi) (by omega))))
      · try rw [h3]
        try simp only [rfb] at h3
        try simp only [List.length_map] at h3
        refine W_skip (hK10 _ ?_)
        clear hK10 K10
        refine W_seq (fun K16 hK16 => ?_)
        refine W_region (WL_cons rfl (WX_q rfl rfl (q_move rfl rfl) (WL_cons rfl (WX_q rfl rfl (q_move rfl rfl) (WL_cons rfl (WX_q rfl rfl (q_move rfl rfl) (WL_cons rfl (?_))))))))
        first | refine WX_q rfl rfl (q_arith rfl rfl rfl rfl (by omega) (by omega)) ?_ | refine WX_q rfl rfl (q_wrap rfl rfl rfl rfl) ?_
        refine WL_cons rfl (?_)
        refine WX_reslice (N := (xs.length + 1)) G 3 rfl rfl rfl rfl rfl rfl rfl rfl (by (try simp only [List.length_take, List.length_append, List.length_map, List.length_drop, List.length_cons, List.length_nil, List.length_replicate, Int.toNat_natCast]); omega) (by (try simp only [List.length_take, List.length_append, List.length_map, List.length_drop, List.length_cons, List.length_nil, List.length_replicate, Int.toNat_natCast]); omega) (by (try simp only [List.length_take, List.length_append, List.length_map, List.length_drop, List.length_cons, List.length_nil, List.length_replicate, Int.toNat_natCast]); omega) ?_
        refine WL_cons rfl (WX_q rfl rfl (q_assign rfl rfl) (?_))
        refine WL_nil (hK16 _ ?_)
        clear hK16 K16
        refine W_seq (fun K17 hK17 => ?_)
        refine W_seq (fun K18 hK18 => ?_)
        refine W_region (WL_cons rfl (WX_q rfl rfl (q_move rfl rfl) (WL_cons rfl (WX_q rfl rfl (q_move rfl rfl) (WL_cons rfl (WX_q rfl rfl (q_move rfl rfl) (WL_cons rfl (WX_q rfl rfl (q_move rfl rfl) (WL_cons rfl (?_))))))))))
        first | refine WX_q rfl rfl (q_arith rfl rfl rfl rfl (by omega) (by omega)) ?_ | refine WX_q rfl rfl (q_wrap rfl rfl rfl rfl) ?_
        refine WL_cons rfl (?_)
        refine WX_q rfl rfl (q_cut_spare G rfl rfl rfl rfl rfl rfl (by (try simp only [List.length_take, List.length_append, List.length_map, List.length_drop, List.length_cons, List.length_nil, List.length_replicate, Int.toNat_natCast]); omega) (by (try simp only [List.length_take, List.length_append, List.length_map, List.length_drop, List.length_cons, List.length_nil, List.length_replicate, Int.toNat_natCast]); omega) (by (try simp only [List.length_take, List.length_append, List.length_map, List.length_drop, List.length_cons, List.length_nil, List.length_replicate, Int.toNat_natCast]); omega) (by (try simp only [List.length_take, List.length_append, List.length_map, List.length_drop, List.length_cons, List.length_nil, List.length_replicate, Int.toNat_natCast]); omega)) ?_
        refine WL_cons rfl (?_)
        refine WX_q rfl rfl (q_overlaps (tr := 4) (t := 109) G Tryz.func257 (by kernel_rfl) (by kernel_rfl) (by kernel_rfl) (by kernel_rfl) rfl rfl rfl rfl (by (try simp only [List.length_take, List.length_append, List.length_map, List.length_drop, List.length_cons, List.length_nil, List.length_replicate, Int.toNat_natCast]); omega) rfl rfl rfl (by (try simp only [List.length_take, List.length_append, List.length_map, List.length_drop, List.length_cons, List.length_nil, List.length_replicate, Int.toNat_natCast]); omega) (by decide) (by (try simp only [List.length_take, List.length_append, List.length_map, List.length_drop, List.length_cons, List.length_nil, List.length_replicate, Int.toNat_natCast]); omega)) ?_
        refine WL_cons rfl (WX_q rfl rfl (q_not_f rfl rfl) (?_))
        refine WL_nil (hK18 _ ?_)
        clear hK18 K18
        refine W_true rfl ?_
        refine W_seq (fun K19 hK19 => ?_)
        apply W_drawsJ [0, 1, 2] [1, 2] 3 9 [1] mixed (by kernel_rfl) rfl rfl hK19
        · intro r0
          refine WA_take 0 rfl (by kernel_rfl) (by kernel_rfl) rfl rfl rfl rfl (q_move rfl rfl) (WA_take 1 rfl (by kernel_rfl) (by kernel_rfl) rfl rfl rfl rfl (q_move rfl rfl) (WA_take 2 rfl (by kernel_rfl) (by kernel_rfl) rfl rfl rfl rfl (q_move rfl rfl) (?_)))
          first | refine WA_take 3 rfl (by kernel_rfl) (by kernel_rfl) rfl rfl rfl rfl (q_arith rfl rfl rfl rfl (by omega) (by omega)) ?_ | refine WA_take 3 rfl (by kernel_rfl) (by kernel_rfl) rfl rfl rfl rfl (q_wrap rfl rfl rfl rfl) ?_
          refine WA_take 5 rfl (by kernel_rfl) (by kernel_rfl) rfl rfl rfl rfl (q_move rfl rfl) (WA_take 6 rfl (by kernel_rfl) (by kernel_rfl) rfl rfl rfl rfl (q_move rfl rfl) (?_))
          refine WA_branch (rs := [4, 7]) (by kernel_rfl) rfl (AllB.cons ?_ (AllB.cons ?_ AllB.nil))
          · refine WB_run [1] rfl rfl (WX_q rfl rfl (q_cut_spare G rfl rfl rfl rfl rfl rfl (by (try simp only [List.length_take, List.length_append, List.length_map, List.length_drop, List.length_cons, List.length_nil, List.length_replicate, Int.toNat_natCast]); omega) (by (try simp only [List.length_take, List.length_append, List.length_map, List.length_drop, List.length_cons, List.length_nil, List.length_replicate, Int.toNat_natCast]); omega) (by (try simp only [List.length_take, List.length_append, List.length_map, List.length_drop, List.length_cons, List.length_nil, List.length_replicate, Int.toNat_natCast]); omega) (by (try simp only [List.length_take, List.length_append, List.length_map, List.length_drop, List.length_cons, List.length_nil, List.length_replicate, Int.toNat_natCast]); omega)) (WL_nil ⟨rfl, ?_⟩))
            refine WA_branch (rs := [7]) (by kernel_rfl) rfl (AllB.cons ?_ AllB.nil)
            refine WB_run [1] rfl rfl (WX_q rfl rfl (q_cut_spare G rfl rfl rfl rfl rfl rfl (by (try simp only [List.length_take, List.length_append, List.length_map, List.length_drop, List.length_cons, List.length_nil, List.length_replicate, Int.toNat_natCast]); omega) (by (try simp only [List.length_take, List.length_append, List.length_map, List.length_drop, List.length_cons, List.length_nil, List.length_replicate, Int.toNat_natCast]); omega) (by (try simp only [List.length_take, List.length_append, List.length_map, List.length_drop, List.length_cons, List.length_nil, List.length_replicate, Int.toNat_natCast]); omega) (by (try simp only [List.length_take, List.length_append, List.length_map, List.length_drop, List.length_cons, List.length_nil, List.length_replicate, Int.toNat_natCast]); omega)) (WL_nil ⟨rfl, ?_⟩))
            refine WA_branch (rs := [8]) (by kernel_rfl) rfl (AllB.cons ?_ AllB.nil)
            refine WB_run [1] rfl rfl (WX_copy_spare G rfl rfl rfl rfl rfl rfl rfl (vs := (xs.map encWa).drop i) (SrcOK.spare rfl (by (try simp only [List.length_take, List.length_append, List.length_map, List.length_drop, List.length_cons, List.length_nil, List.length_replicate, Int.toNat_natCast]); omega)) (L := xs.length - i) (by simp only [List.length_take, List.length_append, List.length_map, List.length_drop, List.length_cons, List.length_nil, Int.toNat_natCast, Nat.min_def]; (repeat' split) <;> omega) (ins_src (by rw [List.length_map]; omega) (by omega) (by (try simp only [List.length_take, List.length_append, List.length_map, List.length_drop, List.length_cons, List.length_nil, List.length_replicate, Int.toNat_natCast]); omega) (by rw [List.length_map]) (by rw [List.length_map])) (fun c hc => (hall c (List.mem_of_mem_drop hc)).2) (fun c hc => (hall c (List.mem_of_mem_drop hc)).1) (by (try simp only [List.length_take, List.length_append, List.length_map, List.length_drop, List.length_cons, List.length_nil, List.length_replicate, Int.toNat_natCast]); omega) (by (try simp only [List.length_take, List.length_append, List.length_map, List.length_drop, List.length_cons, List.length_nil, List.length_replicate, Int.toNat_natCast]); omega) (WL_nil ⟨rfl, ?_⟩))
            exact WA_end (by kernel_rfl) (Meet.mk rfl rfl rfl rfl)
          · refine WB_run [1] rfl rfl (WX_q rfl rfl (q_cut_spare G rfl rfl rfl rfl rfl rfl (by (try simp only [List.length_take, List.length_append, List.length_map, List.length_drop, List.length_cons, List.length_nil, List.length_replicate, Int.toNat_natCast]); omega) (by (try simp only [List.length_take, List.length_append, List.length_map, List.length_drop, List.length_cons, List.length_nil, List.length_replicate, Int.toNat_natCast]); omega) (by (try simp only [List.length_take, List.length_append, List.length_map, List.length_drop, List.length_cons, List.length_nil, List.length_replicate, Int.toNat_natCast]); omega) (by (try simp only [List.length_take, List.length_append, List.length_map, List.length_drop, List.length_cons, List.length_nil, List.length_replicate, Int.toNat_natCast]); omega)) (WL_nil ⟨rfl, ?_⟩))
            refine WA_branch (rs := [4]) (by kernel_rfl) rfl (AllB.cons ?_ AllB.nil)
            refine WB_run [1] rfl rfl (WX_q rfl rfl (q_cut_spare G rfl rfl rfl rfl rfl rfl (by (try simp only [List.length_take, List.length_append, List.length_map, List.length_drop, List.length_cons, List.length_nil, List.length_replicate, Int.toNat_natCast]); omega) (by (try simp only [List.length_take, List.length_append, List.length_map, List.length_drop, List.length_cons, List.length_nil, List.length_replicate, Int.toNat_natCast]); omega) (by (try simp only [List.length_take, List.length_append, List.length_map, List.length_drop, List.length_cons, List.length_nil, List.length_replicate, Int.toNat_natCast]); omega) (by (try simp only [List.length_take, List.length_append, List.length_map, List.length_drop, List.length_cons, List.length_nil, List.length_replicate, Int.toNat_natCast]); omega)) (WL_nil ⟨rfl, ?_⟩))
            refine WA_branch (rs := [8]) (by kernel_rfl) rfl (AllB.cons ?_ AllB.nil)
            refine WB_run [1] rfl rfl (WX_copy_spare G rfl rfl rfl rfl rfl rfl rfl (vs := (xs.map encWa).drop i) (SrcOK.spare rfl (by (try simp only [List.length_take, List.length_append, List.length_map, List.length_drop, List.length_cons, List.length_nil, List.length_replicate, Int.toNat_natCast]); omega)) (L := xs.length - i) (by simp only [List.length_take, List.length_append, List.length_map, List.length_drop, List.length_cons, List.length_nil, Int.toNat_natCast, Nat.min_def]; (repeat' split) <;> omega) (ins_src (by rw [List.length_map]; omega) (by omega) (by (try simp only [List.length_take, List.length_append, List.length_map, List.length_drop, List.length_cons, List.length_nil, List.length_replicate, Int.toNat_natCast]); omega) (by rw [List.length_map]) (by rw [List.length_map])) (fun c hc => (hall c (List.mem_of_mem_drop hc)).2) (fun c hc => (hall c (List.mem_of_mem_drop hc)).1) (by (try simp only [List.length_take, List.length_append, List.length_map, List.length_drop, List.length_cons, List.length_nil, List.length_replicate, Int.toNat_natCast]); omega) (by (try simp only [List.length_take, List.length_append, List.length_map, List.length_drop, List.length_cons, List.length_nil, List.length_replicate, Int.toNat_natCast]); omega) (WL_nil ⟨rfl, ?_⟩))
            exact WA_end (by kernel_rfl) (Meet.mk rfl rfl rfl rfl)
        · clear hK19 K19
          refine W_seq (fun K20 hK20 => ?_)
          refine W_region (WL_cons rfl (WX_q rfl rfl (q_move rfl rfl) (WL_cons rfl (WX_q rfl rfl (q_move rfl rfl) (WL_cons rfl (?_))))))
          refine WX_q rfl rfl (q_cut_spare G rfl rfl rfl rfl rfl rfl (by (try simp only [List.length_take, List.length_append, List.length_map, List.length_drop, List.length_cons, List.length_nil, List.length_replicate, Int.toNat_natCast]); omega) (by (try simp only [List.length_take, List.length_append, List.length_map, List.length_drop, List.length_cons, List.length_nil, List.length_replicate, Int.toNat_natCast]); omega) (by (try simp only [List.length_take, List.length_append, List.length_map, List.length_drop, List.length_cons, List.length_nil, List.length_replicate, Int.toNat_natCast]); omega) (by (try simp only [List.length_take, List.length_append, List.length_map, List.length_drop, List.length_cons, List.length_nil, List.length_replicate, Int.toNat_natCast]); omega)) ?_
          refine WL_cons rfl (WX_q rfl rfl (q_move rfl rfl) (WL_cons rfl (?_)))
          refine WX_copy_spare G rfl rfl rfl rfl rfl rfl rfl (vs := [encWa v]) (SrcOK.of (vs := [encWa v]) (by intro c hc; rw [List.mem_singleton.1 hc]; rfl) (ArgOK.of rfl) (by decide)) (L := 1) (by simp only [List.length_take, List.length_append, List.length_map, List.length_drop, List.length_cons, List.length_nil, Int.toNat_natCast, Nat.min_def]; (repeat' split) <;> omega) rfl (by intro c hc; rw [List.mem_singleton.1 hc]; exact enc_oneW v) (by intro c hc; rw [List.mem_singleton.1 hc]; rfl) (by (try simp only [List.length_take, List.length_append, List.length_map, List.length_drop, List.length_cons, List.length_nil, List.length_replicate, Int.toNat_natCast]); omega) (by (try simp only [List.length_take, List.length_append, List.length_map, List.length_drop, List.length_cons, List.length_nil, List.length_replicate, Int.toNat_natCast]); omega) ?_
          refine WL_nil (hK20 _ ?_)
          clear hK20 K20
          refine W_seq (fun K21 hK21 => ?_)
          refine W_region (WL_cons rfl (WX_q rfl rfl (q_move rfl rfl) (WL_cons rfl (WX_q rfl rfl (q_assign rfl rfl) (?_)))))
          refine WL_nil (hK21 _ ?_)
          clear hK21 K21
          have ht1 : ((i : Int) + 1).toNat = i + 1 := by omega
          refine W_row (id := 2) rfl (of_eq (L0 := (xs.take i ++ [v] ++ xs.drop i).map encWa) (by (rw [show xs.length + 1 = (xs.map encWa).length + 1 from by rw [List.length_map]]; simp only [Int.toNat_natCast, ht1, Int.toNat_zero, List.length_drop, List.length_cons, List.length_nil, Nat.zero_add, List.map_append, List.map_take, List.map_drop, List.map_cons, List.map_nil, Nat.sub_zero]; exact ins_room (by rw [List.length_map]; exact hi) (by omega))) (fun c hc => (by obtain ⟨x, _, rfl⟩ := List.mem_map.1 hc; exact enc_oneW x))) ?_
          refine W_ret (finm_one rfl (rc_own rfl ?_) rfl (AftOK.gone (AftOK.stays rfl ?_ rfl AftOK.nil)))
          all_goals clear hK17 K17
          all_goals (first | rfl | (have e : i = xs.length := (by omega); subst e; simp; done) | (have ht1 : ((i : Int) + 1).toNat = i + 1 := (by omega); first | (rw [show List.take ((((xs.map encWa).length : Nat) : Int).toNat - ((i : Nat) : Int).toNat) (List.drop ((i : Nat) : Int).toNat (xs.map encWa)) = List.drop i (xs.map encWa) from List.take_of_length_le (by rw [List.length_drop, Int.toNat_natCast, Int.toNat_natCast]; exact Nat.le_refl _)]; simp only [Int.toNat_natCast, ht1, Int.toNat_zero, List.length_drop, List.length_cons, List.length_nil, Nat.zero_add, List.map_append, List.map_take, List.map_drop, List.map_cons, List.map_nil, Nat.sub_zero]; exact ins_grow (by rw [List.length_map]; exact hi) (by rw [List.length_replicate, List.length_map])) | (rw [show xs.length + 1 = (xs.map encWa).length + 1 from by rw [List.length_map]]; simp only [Int.toNat_natCast, ht1, Int.toNat_zero, List.length_drop, List.length_cons, List.length_nil, Nat.zero_add, List.map_append, List.map_take, List.map_drop, List.map_cons, List.map_nil, Nat.sub_zero]; exact ins_room (by rw [List.length_map]; exact hi) (by omega))))

theorem c_impl_withWaiter (wa : List Wtr) (w : Wtr) (hw : wa.length ≤ 100000) : Ctr Tryz.prog 193 [.lst 2 (wa.map encWa), .v (encWv w)] (.one (.fr 183 2 ((insW wa w).map encWa))) := by
  refine Ctr.of (n := 28) G Tryz.func193 rfl (by kernel_rfl) rfl rfl rfl (fun w0 => ?_)
  refine W_seq (fun K1 hK1 => ?_)
  refine W_region (WL_cons rfl (WX_box 1 rfl rfl rfl rfl rfl rfl rfl (WL_cons rfl (WX_q rfl rfl (q_assign rfl rfl) (?_)))))
  refine WL_nil (hK1 _ ?_)
  clear hK1 K1
  refine W_seq (fun K2 hK2 => ?_)
  refine W_region (WL_cons rfl (WX_q rfl rfl (q_assign rfl rfl) (?_)))
  refine WL_nil (hK2 _ ?_)
  clear hK2 K2
  refine W_seq (fun K3 hK3 => ?_)
  refine W_block ?_
  refine W_loopK [0, 3] [0] (fun (i : Nat) => [(5, .v (.int .i64 (i : Int)))]) (fun (i : Nat) => []) (fun (i : Nat) => i ≤ wa.length ∧ ∀ j, j < i → lessW (wa.getD j default) w = true) (fun (i : Nat) => wa.length - i) 0 rfl rfl ?_ ?_ ?_ ?_
  · exact ⟨Nat.zero_le _, fun j hj => by omega⟩
  · exact ⟨⟨_, rfl, by (first | rfl | (simp; done) | (simp; omega))⟩, rfl, trivial⟩
  · exact trivial
  · intro i hinv
    simp only [List.cons_append, List.nil_append]
    refine W_seq (fun K4 hK4 => ?_)
    refine W_seq (fun K5 hK5 => ?_)
    refine W_draws mixed (by kernel_rfl) (QL_cons rfl (QX_q rfl rfl (q_move rfl rfl) (QL_cons rfl (QX_q rfl rfl (q_move rfl rfl) (QL_cons rfl (?_))))))
    first | refine QX_q rfl rfl (q_len' G rfl rfl rfl rfl (List.length_map _)) ?_ | refine QX_q rfl rfl (q_len G rfl rfl rfl rfl) ?_
    refine QL_cons rfl (QX_q rfl rfl (q_cmp rfl rfl rfl rfl) (QL_cons rfl (QX_q rfl rfl (q_move rfl rfl) (QL_part rfl rfl rfl (fun h1 => ?_) (fun h1 => ?_)))))
    · try rw [h1]
      try simp only [rfb] at h1
      refine QL_run rfl rfl rfl (QX_q rfl rfl (q_move rfl rfl) (QL_run rfl rfl rfl (QX_q rfl rfl (q_move rfl rfl) (QL_run rfl rfl rfl (?_)))))
      refine QX_q rfl rfl (q_index_lst G rfl rfl rfl rfl (by omega) (getN (by omega))) ?_
      refine QL_run rfl rfl rfl (QX_q rfl rfl (q_load_ept_struct G rfl rfl rfl rfl) (QL_run rfl rfl rfl (QX_q rfl rfl (q_load_box_struct G rfl rfl rfl rfl rfl rfl) (QL_run rfl rfl rfl (?_)))))
      refine QX_q rfl rfl (q_call rfl (ArgsOK.of rfl) (c_impl_compareUrgency _ _) rfl) ?_
      refine QL_run rfl rfl rfl (QX_q rfl rfl (q_cmp rfl rfl rfl rfl) (QL_cons rfl (QX_q rfl rfl (q_pick_t rfl rfl rfl) (?_))))
      refine QL_nil (hK5 _ ?_)
      clear hK5 K5
      refine W_cond rfl (fun h2 => ?_) (fun h2 => ?_)
      · try rw [h2]
        try simp only [rfb] at h2
        refine W_skip (hK4 _ ?_)
        clear hK4 K4
        refine W_block ?_
        refine W_region (WL_cons rfl (WX_q rfl rfl (q_move rfl rfl) (WL_cons rfl (?_))))
        first | refine WX_q rfl rfl (q_arith rfl rfl rfl rfl (by omega) (by omega)) ?_ | refine WX_q rfl rfl (q_wrap rfl rfl rfl rfl) ?_
        refine WL_cons rfl (WX_q rfl rfl (q_assign rfl rfl) (?_))
        refine WL_nil ⟨(i + 1), ?_, ?_, ⟨⟨_, rfl, by rfl⟩, rfl, trivial⟩, trivial, rfl, rfl, rfl⟩
        · exact ⟨by omega, upto_succ hinv.2 (by first | assumption | exact urg_neg.mp (by assumption))⟩
        · omega
      · try rw [h2]
        try simp only [rfb] at h2
        refine W_exit (hK3 _ ?_)
        clear hK4 K4 hK3 K3
        refine W_seq (fun K6 hK6 => ?_)
        apply W_drawsJ [4] [3] 4 8 [0] mixed (by kernel_rfl) rfl rfl hK6
        · intro r0
          refine WA_take 1 rfl (by kernel_rfl) (by kernel_rfl) rfl rfl rfl rfl (q_move rfl rfl) (WA_take 3 rfl (by kernel_rfl) (by kernel_rfl) rfl rfl rfl rfl (q_move rfl rfl) (WA_take 4 rfl (by kernel_rfl) (by kernel_rfl) rfl rfl rfl rfl (q_load_box_struct G rfl rfl rfl rfl rfl rfl) (?_)))
          refine WA_more (N := 2) rfl (WAV_startH (fuel := 4) [⟨0, 21, 1, false, .row 183 2 []⟩] (AllVOK.cons (VOK.lit G rfl rfl rfl rfl rfl) (AllVOK.nil)) (fun hok => ?_))
          refine WAV_go [(2, [0]), (5, [])] (by kernel_rfl) (by kernel_rfl) (fun e he => hok e he) (by kernel_rfl) (AllVS.cons ?_ (AllVS.cons ?_ AllVS.nil))
          · refine VStep.mk1 [0] 21 (.own 1) 1 (.row 183 2 []) [] rfl rfl rfl rfl rfl (fun b1 _ hbn => WX_append G (by rw [hbn]; exact Nat.le_of_ble_eq_true rfl) rfl rfl rfl rfl rfl rfl rfl rfl rfl (by simp; omega) rfl rfl (WL_nil rfl)) (by kernel_rfl) (by kernel_rfl) (by kernel_rfl) (by kernel_rfl) ?_
            refine WAV_nil ?_
            clear hok
            refine WA_branch (rs := [5]) (by kernel_rfl) rfl (AllB.cons ?_ AllB.nil)
            refine WB_run [0] rfl rfl (WX_lit G 3 rfl rfl rfl rfl rfl rfl rfl rfl (WL_nil ⟨rfl, ?_⟩))
            refine WA_branch (rs := [6]) (by kernel_rfl) rfl (AllB.cons ?_ AllB.nil)
            refine WB_run [0] rfl rfl (WX_callm 4 [1, 2] rfl rfl rfl (c_slices_Insert_impl_Waiter_impl_Waiter wa w i (by omega) (by omega)) rfl (RowsIn.cons rfl (RowsIn.cons rfl RowsIn.nil)) rfl rfl rfl (WL_nil ⟨rfl, ?_⟩))
            refine WA_take 7 rfl (by kernel_rfl) (by kernel_rfl) rfl rfl rfl rfl (q_assign rfl rfl) (?_)
            exact WA_end (by kernel_rfl) (Meet.mk rfl rfl rfl rfl)
          · refine VStep.mk0 [0] rfl rfl (fun b1 _ hbn => WX_lit G 3 rfl rfl rfl rfl rfl rfl rfl rfl (WL_nil rfl)) (by kernel_rfl) (by kernel_rfl) (by kernel_rfl) (by kernel_rfl) ?_
            refine WAV_go [(2, [0])] (by kernel_rfl) (by kernel_rfl) (fun e he => hok e he) (by kernel_rfl) (AllVS.cons ?_ AllVS.nil)
            refine VStep.mk1 [0] 21 (.own 1) 1 (.row 183 2 []) [] rfl rfl rfl rfl rfl (fun b1 _ hbn => WX_append G (by rw [hbn]; exact Nat.le_of_ble_eq_true rfl) rfl rfl rfl rfl rfl rfl rfl rfl rfl (by simp; omega) rfl rfl (WL_nil rfl)) (by kernel_rfl) (by kernel_rfl) (by kernel_rfl) (by kernel_rfl) ?_
            refine WAV_nil ?_
            clear hok
            refine WA_branch (rs := [6]) (by kernel_rfl) rfl (AllB.cons ?_ AllB.nil)
            refine WB_run [0] rfl rfl (WX_callm 4 [1, 2] rfl rfl rfl (c_slices_Insert_impl_Waiter_impl_Waiter wa w i (by omega) (by omega)) rfl (RowsIn.cons rfl (RowsIn.cons rfl RowsIn.nil)) rfl rfl rfl (WL_nil ⟨rfl, ?_⟩))
            refine WA_take 7 rfl (by kernel_rfl) (by kernel_rfl) rfl rfl rfl rfl (q_assign rfl rfl) (?_)
            exact WA_end (by kernel_rfl) (Meet.mk rfl rfl rfl rfl)
        · clear hK6 K6
          refine W_ret (fin_one rfl (rc_own rfl ?_))
          all_goals (first | (rw [insW_at hinv.2 hinv.1 (by first | exact .inl (by omega) | exact .inr ⟨by omega, by first | assumption | (rw [← Bool.not_eq_true, ← urg_neg]; omega)⟩)]; done) | (rw [insW_at hinv.2 hinv.1 (by first | exact .inl (by omega) | exact .inr ⟨by omega, by first | assumption | (rw [← Bool.not_eq_true, ← urg_neg]; omega)⟩)]; rfl))
    · try rw [h1]
      try simp only [rfb] at h1
      refine QL_skip rfl rfl rfl rfl rfl rfl (QL_skip rfl rfl rfl rfl rfl rfl (QL_skip rfl rfl rfl rfl rfl rfl (QL_skip rfl rfl rfl rfl rfl rfl (QL_skip rfl rfl rfl rfl rfl rfl (QL_skip rfl rfl rfl rfl rfl rfl (QL_skip rfl rfl rfl rfl rfl rfl (QL_cons rfl (QX_q rfl rfl (q_pick_f rfl rfl rfl) (?_)))))))))
      refine QL_nil (hK5 _ ?_)
      clear hK5 K5
      refine W_false rfl ?_
      refine W_exit (hK3 _ ?_)
      clear hK4 K4 hK3 K3
      refine W_seq (fun K7 hK7 => ?_)
      apply W_drawsJ [4] [3] 4 8 [0] mixed (by kernel_rfl) rfl rfl hK7
      · intro r0
        refine WA_take 1 rfl (by kernel_rfl) (by kernel_rfl) rfl rfl rfl rfl (q_move rfl rfl) (WA_take 3 rfl (by kernel_rfl) (by kernel_rfl) rfl rfl rfl rfl (q_move rfl rfl) (WA_take 4 rfl (by kernel_rfl) (by kernel_rfl) rfl rfl rfl rfl (q_load_box_struct G rfl rfl rfl rfl rfl rfl) (?_)))
        refine WA_more (N := 2) rfl (WAV_startH (fuel := 4) [⟨0, 21, 1, false, .row 183 2 []⟩] (AllVOK.cons (VOK.lit G rfl rfl rfl rfl rfl) (AllVOK.nil)) (fun hok => ?_))
        refine WAV_go [(2, [0]), (5, [])] (by kernel_rfl) (by kernel_rfl) (fun e he => hok e he) (by kernel_rfl) (AllVS.cons ?_ (AllVS.cons ?_ AllVS.nil))
        · refine VStep.mk1 [0] 21 (.own 1) 1 (.row 183 2 []) [] rfl rfl rfl rfl rfl (fun b1 _ hbn => WX_append G (by rw [hbn]; exact Nat.le_of_ble_eq_true rfl) rfl rfl rfl rfl rfl rfl rfl rfl rfl (by simp; omega) rfl rfl (WL_nil rfl)) (by kernel_rfl) (by kernel_rfl) (by kernel_rfl) (by kernel_rfl) ?_
          refine WAV_nil ?_
          clear hok
          refine WA_branch (rs := [5]) (by kernel_rfl) rfl (AllB.cons ?_ AllB.nil)
          refine WB_run [0] rfl rfl (WX_lit G 3 rfl rfl rfl rfl rfl rfl rfl rfl (WL_nil ⟨rfl, ?_⟩))
          refine WA_branch (rs := [6]) (by kernel_rfl) rfl (AllB.cons ?_ AllB.nil)
          refine WB_run [0] rfl rfl (WX_callm 4 [1, 2] rfl rfl rfl (c_slices_Insert_impl_Waiter_impl_Waiter wa w i (by omega) (by omega)) rfl (RowsIn.cons rfl (RowsIn.cons rfl RowsIn.nil)) rfl rfl rfl (WL_nil ⟨rfl, ?_⟩))
          refine WA_take 7 rfl (by kernel_rfl) (by kernel_rfl) rfl rfl rfl rfl (q_assign rfl rfl) (?_)
          exact WA_end (by kernel_rfl) (Meet.mk rfl rfl rfl rfl)
        · refine VStep.mk0 [0] rfl rfl (fun b1 _ hbn => WX_lit G 3 rfl rfl rfl rfl rfl rfl rfl rfl (WL_nil rfl)) (by kernel_rfl) (by kernel_rfl) (by kernel_rfl) (by kernel_rfl) ?_
          refine WAV_go [(2, [0])] (by kernel_rfl) (by kernel_rfl) (fun e he => hok e he) (by kernel_rfl) (AllVS.cons ?_ AllVS.nil)
          refine VStep.mk1 [0] 21 (.own 1) 1 (.row 183 2 []) [] rfl rfl rfl rfl rfl (fun b1 _ hbn => WX_append G (by rw [hbn]; exact Nat.le_of_ble_eq_true rfl) rfl rfl rfl rfl rfl rfl rfl rfl rfl (by simp; omega) rfl rfl (WL_nil rfl)) (by kernel_rfl) (by kernel_rfl) (by kernel_rfl) (by kernel_rfl) ?_
          refine WAV_nil ?_
          clear hok
          refine WA_branch (rs := [6]) (by kernel_rfl) rfl (AllB.cons ?_ AllB.nil)
          refine WB_run [0] rfl rfl (WX_callm 4 [1, 2] rfl rfl rfl (c_slices_Insert_impl_Waiter_impl_Waiter wa w i (by omega) (by omega)) rfl (RowsIn.cons rfl (RowsIn.cons rfl RowsIn.nil)) rfl rfl rfl (WL_nil ⟨rfl, ?_⟩))
          refine WA_take 7 rfl (by kernel_rfl) (by kernel_rfl) rfl rfl rfl rfl (q_assign rfl rfl) (?_)
          exact WA_end (by kernel_rfl) (Meet.mk rfl rfl rfl rfl)
      · clear hK7 K7
        refine W_ret (fin_one rfl (rc_own rfl ?_))
        all_goals (first | (rw [insW_at hinv.2 hinv.1 (by first | exact .inl (by omega) | exact .inr ⟨by omega, by first | assumption | (rw [← Bool.not_eq_true, ← urg_neg]; omega)⟩)]; done) | (rw [insW_at hinv.2 hinv.1 (by first | exact .inl (by omega) | exact .inr ⟨by omega, by first | assumption | (rw [← Bool.not_eq_true, ← urg_neg]; omega)⟩)]; rfl))

theorem c_spec_l9Wait (wa : List Wtr) (w : Wtr) (hw : wa.length ≤ 100000) : Ctr Tryz.prog 187 [.lst 2 (wa.map encWa), .v (encWv w)] (.one (.fr 183 2 ((insW wa w).map encWa))) := by
  refine Ctr.of (n := 41) G Tryz.func187 rfl (by kernel_rfl) rfl rfl rfl (fun w0 => ?_)
  refine W_seq (fun K1 hK1 => ?_)
  refine W_region (WL_cons rfl (WX_box 1 rfl rfl rfl rfl rfl rfl rfl (WL_cons rfl (WX_q rfl rfl (q_assign rfl rfl) (?_)))))
  refine WL_nil (hK1 _ ?_)
  clear hK1 K1
  refine W_seq (fun K2 hK2 => ?_)
  refine W_region (WL_cons rfl (WX_q rfl rfl (q_assign rfl rfl) (?_)))
  refine WL_nil (hK2 _ ?_)
  clear hK2 K2
  refine W_seq (fun K3 hK3 => ?_)
  refine W_block ?_
  refine W_loopK [0, 3] [0] (fun (i : Nat) => [(5, .v (.int .i64 (i : Int)))]) (fun (i : Nat) => []) (fun (i : Nat) => i ≤ wa.length ∧ ∀ j, j < i → lessW (wa.getD j default) w = true) (fun (i : Nat) => wa.length - i) 0 rfl rfl ?_ ?_ ?_ ?_
  · exact ⟨Nat.zero_le _, fun j hj => by omega⟩
  · exact ⟨⟨_, rfl, by (first | rfl | (simp; done) | (simp; omega))⟩, rfl, trivial⟩
  · exact trivial
  · intro i hinv
    simp only [List.cons_append, List.nil_append]
    refine W_seq (fun K4 hK4 => ?_)
    refine W_seq (fun K5 hK5 => ?_)
    refine W_draws mixed (by kernel_rfl) (QL_cons rfl (QX_q rfl rfl (q_move rfl rfl) (QL_cons rfl (QX_q rfl rfl (q_move rfl rfl) (QL_cons rfl (?_))))))
    first | refine QX_q rfl rfl (q_len' G rfl rfl rfl rfl (List.length_map _)) ?_ | refine QX_q rfl rfl (q_len G rfl rfl rfl rfl) ?_
    refine QL_cons rfl (QX_q rfl rfl (q_cmp rfl rfl rfl rfl) (QL_cons rfl (QX_q rfl rfl (q_move rfl rfl) (QL_part rfl rfl rfl (fun h1 => ?_) (fun h1 => ?_)))))
    · try rw [h1]
      try simp only [rfb] at h1
      refine QL_run rfl rfl rfl (QX_q rfl rfl (q_move rfl rfl) (QL_run rfl rfl rfl (QX_q rfl rfl (q_move rfl rfl) (QL_run rfl rfl rfl (?_)))))
      refine QX_q rfl rfl (q_index_lst G rfl rfl rfl rfl (by omega) (getN (by omega))) ?_
      refine QL_run rfl rfl rfl (QX_q rfl rfl (q_field_ept G rfl rfl rfl rfl) (QL_run rfl rfl rfl (QX_q rfl rfl (q_load_ept G rfl rfl rfl rfl rfl) (QL_run rfl rfl rfl (QX_q rfl rfl (q_move rfl rfl) (QL_run rfl rfl rfl (QX_q rfl rfl (q_move rfl rfl) (QL_run rfl rfl rfl (?_)))))))))
      refine QX_q rfl rfl (q_index_lst G rfl rfl rfl rfl (by omega) (getN (by omega))) ?_
      refine QL_run rfl rfl rfl (QX_q rfl rfl (q_field_ept G rfl rfl rfl rfl) (QL_run rfl rfl rfl (QX_q rfl rfl (q_load_ept G rfl rfl rfl rfl rfl) (QL_run rfl rfl rfl (QX_q rfl rfl (q_field_ptr G rfl rfl rfl rfl) (QL_run rfl rfl rfl (QX_q rfl rfl (q_load_box G rfl rfl rfl rfl rfl rfl rfl) (QL_run rfl rfl rfl (QX_q rfl rfl (q_field_ptr G rfl rfl rfl rfl) (QL_run rfl rfl rfl (QX_q rfl rfl (q_load_box G rfl rfl rfl rfl rfl rfl rfl) (QL_run rfl rfl rfl (?_)))))))))))))
      refine QX_q rfl rfl (q_call rfl (ArgsOK.of rfl) (c_spec_l8Less _ _ _ _) rfl) ?_
      refine QL_cons rfl (QX_q rfl rfl (q_pick_t rfl rfl rfl) (?_))
      refine QL_nil (hK5 _ ?_)
      clear hK5 K5
      refine W_cond rfl (fun h2 => ?_) (fun h2 => ?_)
      · try rw [h2]
        try simp only [rfb] at h2
        refine W_skip (hK4 _ ?_)
        clear hK4 K4
        refine W_block ?_
        refine W_region (WL_cons rfl (WX_q rfl rfl (q_move rfl rfl) (WL_cons rfl (?_))))
        first | refine WX_q rfl rfl (q_arith rfl rfl rfl rfl (by omega) (by omega)) ?_ | refine WX_q rfl rfl (q_wrap rfl rfl rfl rfl) ?_
        refine WL_cons rfl (WX_q rfl rfl (q_assign rfl rfl) (?_))
        refine WL_nil ⟨(i + 1), ?_, ?_, ⟨⟨_, rfl, by rfl⟩, rfl, trivial⟩, trivial, rfl, rfl, rfl⟩
        · exact ⟨by omega, upto_succ hinv.2 (by first | assumption | exact urg_neg.mp (by assumption))⟩
        · omega
      · try rw [h2]
        try simp only [rfb] at h2
        refine W_exit (hK3 _ ?_)
        clear hK4 K4 hK3 K3
        refine W_seq (fun K6 hK6 => ?_)
        apply W_drawsJ [4] [1] 3 13 [0] mixed (by kernel_rfl) rfl rfl hK6
        · intro r0
          refine WA_take 1 rfl (by kernel_rfl) (by kernel_rfl) rfl rfl rfl rfl (q_move rfl rfl) (WA_take 2 rfl (by kernel_rfl) (by kernel_rfl) rfl rfl rfl rfl (q_move rfl rfl) (?_))
          first | refine WA_take 3 rfl (by kernel_rfl) (by kernel_rfl) rfl rfl rfl rfl (q_cut_lst G rfl rfl rfl rfl rfl (by omega) (by omega) (by omega)) ?_ | refine WA_take 3 rfl (by kernel_rfl) (by kernel_rfl) rfl rfl rfl rfl (q_cut_lst G rfl rfl rfl rfl rfl (by omega) (by first | (simp; done) | (simp; omega)) (by first | (simp; done) | (simp; omega))) ?_
          refine WA_take 5 rfl (by kernel_rfl) (by kernel_rfl) rfl rfl rfl rfl (q_load_box_struct G rfl rfl rfl rfl rfl rfl) (WA_take 8 rfl (by kernel_rfl) (by kernel_rfl) rfl rfl rfl rfl (q_move rfl rfl) (WA_take 9 rfl (by kernel_rfl) (by kernel_rfl) rfl rfl rfl rfl (q_move rfl rfl) (?_)))
          first | refine WA_take 10 rfl (by kernel_rfl) (by kernel_rfl) rfl rfl rfl rfl (q_cut_lst G rfl rfl rfl rfl rfl (by omega) (by omega) (by omega)) ?_ | refine WA_take 10 rfl (by kernel_rfl) (by kernel_rfl) rfl rfl rfl rfl (q_cut_lst G rfl rfl rfl rfl rfl (by omega) (by first | (simp; done) | (simp; omega)) (by first | (simp; done) | (simp; omega))) ?_
          refine WA_more (N := 2) rfl (WAV_startH (fuel := 5) [⟨0, 29, 1, false, .row 183 2 []⟩] (AllVOK.cons (VOK.lit G rfl rfl rfl rfl rfl) (AllVOK.nil)) (fun hok => ?_))
          refine WAV_go [(4, [0]), (6, [])] (by kernel_rfl) (by kernel_rfl) (fun e he => hok e he) (by kernel_rfl) (AllVS.cons ?_ (AllVS.cons ?_ AllVS.nil))
          · refine VStep.mk1 [0] 29 (.own 1) 1 (.row 183 2 []) [] rfl rfl rfl rfl rfl (fun b1 _ hbn => WX_append G (by rw [hbn]; exact Nat.le_of_ble_eq_true rfl) rfl rfl rfl rfl rfl rfl rfl rfl rfl (by first | (simp; omega) | (simp only [cut_take, cut_rest, List.length_append, List.length_map, List.length_take, List.length_drop, List.length_cons, List.length_nil]; omega)) rfl rfl (WL_nil rfl)) (by kernel_rfl) (by kernel_rfl) (by kernel_rfl) (by kernel_rfl) ?_
            refine WAV_nil ?_
            clear hok
            refine WA_branch (rs := [6]) (by kernel_rfl) rfl (AllB.cons ?_ AllB.nil)
            refine WB_run [0] rfl rfl (WX_lit G 3 rfl rfl rfl rfl rfl rfl rfl rfl (WL_nil ⟨rfl, ?_⟩))
            refine WA_branch (rs := [7]) (by kernel_rfl) rfl (AllB.cons ?_ AllB.nil)
            refine WB_run [0] rfl rfl (WX_append G (by exact Nat.le_of_ble_eq_true rfl) rfl rfl rfl rfl rfl rfl rfl rfl rfl (by first | (simp; omega) | (simp only [cut_take, cut_rest, List.length_append, List.length_map, List.length_take, List.length_drop, List.length_cons, List.length_nil]; omega)) rfl rfl (WL_nil ⟨rfl, ?_⟩))
            refine WA_branch (rs := [11]) (by kernel_rfl) rfl (AllB.cons ?_ AllB.nil)
            refine WB_run [0] rfl rfl (WX_append G (by exact Nat.le_of_ble_eq_true rfl) rfl rfl rfl rfl rfl rfl rfl rfl rfl (by first | (simp; omega) | (simp only [cut_take, cut_rest, List.length_append, List.length_map, List.length_take, List.length_drop, List.length_cons, List.length_nil]; omega)) rfl rfl (WL_nil ⟨rfl, ?_⟩))
            refine WA_take 12 rfl (by kernel_rfl) (by kernel_rfl) rfl rfl rfl rfl (q_assign rfl rfl) (?_)
            exact WA_end (by kernel_rfl) (Meet.mk rfl rfl rfl rfl)
          · refine VStep.mk0 [0] rfl rfl (fun b1 _ hbn => WX_lit G 3 rfl rfl rfl rfl rfl rfl rfl rfl (WL_nil rfl)) (by kernel_rfl) (by kernel_rfl) (by kernel_rfl) (by kernel_rfl) ?_
            refine WAV_go [(4, [0])] (by kernel_rfl) (by kernel_rfl) (fun e he => hok e he) (by kernel_rfl) (AllVS.cons ?_ AllVS.nil)
            refine VStep.mk1 [0] 29 (.own 1) 1 (.row 183 2 []) [] rfl rfl rfl rfl rfl (fun b1 _ hbn => WX_append G (by rw [hbn]; exact Nat.le_of_ble_eq_true rfl) rfl rfl rfl rfl rfl rfl rfl rfl rfl (by first | (simp; omega) | (simp only [cut_take, cut_rest, List.length_append, List.length_map, List.length_take, List.length_drop, List.length_cons, List.length_nil]; omega)) rfl rfl (WL_nil rfl)) (by kernel_rfl) (by kernel_rfl) (by kernel_rfl) (by kernel_rfl) ?_
            refine WAV_nil ?_
            clear hok
            refine WA_branch (rs := [7]) (by kernel_rfl) rfl (AllB.cons ?_ AllB.nil)
            refine WB_run [0] rfl rfl (WX_append G (by exact Nat.le_of_ble_eq_true rfl) rfl rfl rfl rfl rfl rfl rfl rfl rfl (by first | (simp; omega) | (simp only [cut_take, cut_rest, List.length_append, List.length_map, List.length_take, List.length_drop, List.length_cons, List.length_nil]; omega)) rfl rfl (WL_nil ⟨rfl, ?_⟩))
            refine WA_branch (rs := [11]) (by kernel_rfl) rfl (AllB.cons ?_ AllB.nil)
            refine WB_run [0] rfl rfl (WX_append G (by exact Nat.le_of_ble_eq_true rfl) rfl rfl rfl rfl rfl rfl rfl rfl rfl (by first | (simp; omega) | (simp only [cut_take, cut_rest, List.length_append, List.length_map, List.length_take, List.length_drop, List.length_cons, List.length_nil]; omega)) rfl rfl (WL_nil ⟨rfl, ?_⟩))
            refine WA_take 12 rfl (by kernel_rfl) (by kernel_rfl) rfl rfl rfl rfl (q_assign rfl rfl) (?_)
            exact WA_end (by kernel_rfl) (Meet.mk rfl rfl rfl rfl)
        · clear hK6 K6
          refine W_ret (fin_one rfl (rc_own rfl ?_))
          all_goals (first | (rw [insW_at hinv.2 hinv.1 (by first | exact .inl (by omega) | exact .inr ⟨by omega, by first | assumption | (rw [← Bool.not_eq_true, ← urg_neg]; omega)⟩), cut_take, cut_rest]; simp [encWa]; done))
    · try rw [h1]
      try simp only [rfb] at h1
      refine QL_skip rfl rfl rfl rfl rfl rfl (QL_skip rfl rfl rfl rfl rfl rfl (QL_skip rfl rfl rfl rfl rfl rfl (QL_skip rfl rfl rfl rfl rfl rfl (QL_skip rfl rfl rfl rfl rfl rfl (QL_skip rfl rfl rfl rfl rfl rfl (QL_skip rfl rfl rfl rfl rfl rfl (QL_skip rfl rfl rfl rfl rfl rfl (QL_skip rfl rfl rfl rfl rfl rfl (QL_skip rfl rfl rfl rfl rfl rfl (QL_skip rfl rfl rfl rfl rfl rfl (QL_skip rfl rfl rfl rfl rfl rfl (QL_skip rfl rfl rfl rfl rfl rfl (QL_skip rfl rfl rfl rfl rfl rfl (QL_skip rfl rfl rfl rfl rfl rfl (QL_cons rfl (QX_q rfl rfl (q_pick_f rfl rfl rfl) (?_)))))))))))))))))
      refine QL_nil (hK5 _ ?_)
      clear hK5 K5
      refine W_false rfl ?_
      refine W_exit (hK3 _ ?_)
      clear hK4 K4 hK3 K3
      refine W_seq (fun K7 hK7 => ?_)
      apply W_drawsJ [4] [1] 3 13 [0] mixed (by kernel_rfl) rfl rfl hK7
      · intro r0
        refine WA_take 1 rfl (by kernel_rfl) (by kernel_rfl) rfl rfl rfl rfl (q_move rfl rfl) (WA_take 2 rfl (by kernel_rfl) (by kernel_rfl) rfl rfl rfl rfl (q_move rfl rfl) (?_))
        first | refine WA_take 3 rfl (by kernel_rfl) (by kernel_rfl) rfl rfl rfl rfl (q_cut_lst G rfl rfl rfl rfl rfl (by omega) (by omega) (by omega)) ?_ | refine WA_take 3 rfl (by kernel_rfl) (by kernel_rfl) rfl rfl rfl rfl (q_cut_lst G rfl rfl rfl rfl rfl (by omega) (by first | (simp; done) | (simp; omega)) (by first | (simp; done) | (simp; omega))) ?_
        refine WA_take 5 rfl (by kernel_rfl) (by kernel_rfl) rfl rfl rfl rfl (q_load_box_struct G rfl rfl rfl rfl rfl rfl) (WA_take 8 rfl (by kernel_rfl) (by kernel_rfl) rfl rfl rfl rfl (q_move rfl rfl) (WA_take 9 rfl (by kernel_rfl) (by kernel_rfl) rfl rfl rfl rfl (q_move rfl rfl) (?_)))
        first | refine WA_take 10 rfl (by kernel_rfl) (by kernel_rfl) rfl rfl rfl rfl (q_cut_lst G rfl rfl rfl rfl rfl (by omega) (by omega) (by omega)) ?_ | refine WA_take 10 rfl (by kernel_rfl) (by kernel_rfl) rfl rfl rfl rfl (q_cut_lst G rfl rfl rfl rfl rfl (by omega) (by first | (simp; done) | (simp; omega)) (by first | (simp; done) | (simp; omega))) ?_
        refine WA_more (N := 2) rfl (WAV_startH (fuel := 5) [⟨0, 29, 1, false, .row 183 2 []⟩] (AllVOK.cons (VOK.lit G rfl rfl rfl rfl rfl) (AllVOK.nil)) (fun hok => ?_))
        refine WAV_go [(4, [0]), (6, [])] (by kernel_rfl) (by kernel_rfl) (fun e he => hok e he) (by kernel_rfl) (AllVS.cons ?_ (AllVS.cons ?_ AllVS.nil))
        · refine VStep.mk1 [0] 29 (.own 1) 1 (.row 183 2 []) [] rfl rfl rfl rfl rfl (fun b1 _ hbn => WX_append G (by rw [hbn]; exact Nat.le_of_ble_eq_true rfl) rfl rfl rfl rfl rfl rfl rfl rfl rfl (by first | (simp; omega) | (simp only [cut_take, cut_rest, List.length_append, List.length_map, List.length_take, List.length_drop, List.length_cons, List.length_nil]; omega)) rfl rfl (WL_nil rfl)) (by kernel_rfl) (by kernel_rfl) (by kernel_rfl) (by kernel_rfl) ?_
          refine WAV_nil ?_
          clear hok
          refine WA_branch (rs := [6]) (by kernel_rfl) rfl (AllB.cons ?_ AllB.nil)
          refine WB_run [0] rfl rfl (WX_lit G 3 rfl rfl rfl rfl rfl rfl rfl rfl (WL_nil ⟨rfl, ?_⟩))
          refine WA_branch (rs := [7]) (by kernel_rfl) rfl (AllB.cons ?_ AllB.nil)
          refine WB_run [0] rfl rfl (WX_append G (by exact Nat.le_of_ble_eq_true rfl) rfl rfl rfl rfl rfl rfl rfl rfl rfl (by first | (simp; omega) | (simp only [cut_take, cut_rest, List.length_append, List.length_map, List.length_take, List.length_drop, List.length_cons, List.length_nil]; omega)) rfl rfl (WL_nil ⟨rfl, ?_⟩))
          refine WA_branch (rs := [11]) (by kernel_rfl) rfl (AllB.cons ?_ AllB.nil)
          refine WB_run [0] rfl rfl (WX_append G (by exact Nat.le_of_ble_eq_true rfl) rfl rfl rfl rfl rfl rfl rfl rfl rfl (by first | (simp; omega) | (simp only [cut_take, cut_rest, List.length_append, List.length_map, List.length_take, List.length_drop, List.length_cons, List.length_nil]; omega)) rfl rfl (WL_nil ⟨rfl, ?_⟩))
          refine WA_take 12 rfl (by kernel_rfl) (by kernel_rfl) rfl rfl rfl rfl (q_assign rfl rfl) (?_)
          exact WA_end (by kernel_rfl) (Meet.mk rfl rfl rfl rfl)
        · refine VStep.mk0 [0] rfl rfl (fun b1 _ hbn => WX_lit G 3 rfl rfl rfl rfl rfl rfl rfl rfl (WL_nil rfl)) (by kernel_rfl) (by kernel_rfl) (by kernel_rfl) (by kernel_rfl) ?_
          refine WAV_go [(4, [0])] (by kernel_rfl) (by kernel_rfl) (fun e he => hok e he) (by kernel_rfl) (AllVS.cons ?_ AllVS.nil)
          refine VStep.mk1 [0] 29 (.own 1) 1 (.row 183 2 []) [] rfl rfl rfl rfl rfl (fun b1 _ hbn => WX_append G (by rw [hbn]; exact Nat.le_of_ble_eq_true rfl) rfl rfl rfl rfl rfl rfl rfl rfl rfl (by first | (simp; omega) | (simp only [cut_take, cut_rest, List.length_append, List.length_map, List.length_take, List.length_drop, List.length_cons, List.length_nil]; omega)) rfl rfl (WL_nil rfl)) (by kernel_rfl) (by kernel_rfl) (by kernel_rfl) (by kernel_rfl) ?_
          refine WAV_nil ?_
          clear hok
          refine WA_branch (rs := [7]) (by kernel_rfl) rfl (AllB.cons ?_ AllB.nil)
          refine WB_run [0] rfl rfl (WX_append G (by exact Nat.le_of_ble_eq_true rfl) rfl rfl rfl rfl rfl rfl rfl rfl rfl (by first | (simp; omega) | (simp only [cut_take, cut_rest, List.length_append, List.length_map, List.length_take, List.length_drop, List.length_cons, List.length_nil]; omega)) rfl rfl (WL_nil ⟨rfl, ?_⟩))
          refine WA_branch (rs := [11]) (by kernel_rfl) rfl (AllB.cons ?_ AllB.nil)
          refine WB_run [0] rfl rfl (WX_append G (by exact Nat.le_of_ble_eq_true rfl) rfl rfl rfl rfl rfl rfl rfl rfl rfl (by first | (simp; omega) | (simp only [cut_take, cut_rest, List.length_append, List.length_map, List.length_take, List.length_drop, List.length_cons, List.length_nil]; omega)) rfl rfl (WL_nil ⟨rfl, ?_⟩))
          refine WA_take 12 rfl (by kernel_rfl) (by kernel_rfl) rfl rfl rfl rfl (q_assign rfl rfl) (?_)
          exact WA_end (by kernel_rfl) (Meet.mk rfl rfl rfl rfl)
      · clear hK7 K7
        refine W_ret (fin_one rfl (rc_own rfl ?_))
        all_goals (first | (rw [insW_at hinv.2 hinv.1 (by first | exact .inl (by omega) | exact .inr ⟨by omega, by first | assumption | (rw [← Bool.not_eq_true, ← urg_neg]; omega)⟩), cut_take, cut_rest]; simp [encWa]; done))

end Go.Proofs.YtcnodpipinlpcaaGreat

/- Walks through functions of the program, one contract each (written by gen.py). -/
set_option maxRecDepth 20000
set_option linter.unusedVariables false
set_option linter.unusedSimpArgs false
namespace Go.Proofs.YtcnodpipinlpcaaGreat
open Go Go.Rf

set_option maxHeartbeats 1000000 in
theorem c_impl_settled (q : Que) (hF : QF q) : Ctr Tryz.prog 194 [.agg [.lst 3 (q.sl.map encSl), .lst 2 (q.wa.map encWa)]] (.shp true [some 2] [.fr 154 3 ((setl q).sl.map encSl), .fr 183 2 ((setl q).wa.map encWa) true]) := by
  have hq4 := hF.sl.len
  have hqw := hF.wn
  refine Ctr.of (n := 47) G Tryz.func194 rfl (by kernel_rfl) rfl rfl rfl (fun w0 => ?_)
  refine W_pinS 0 rfl (fun _ => rfl) (fun u0 => ?_)
  refine W_seq (fun K1 hK1 => ?_)
  refine W_region (WL_cons rfl (WX_box 1 rfl rfl rfl rfl rfl rfl rfl (WL_cons rfl (WX_alloc_s G 2 rfl rfl rfl rfl rfl (?_)))))
  refine WL_nil (hK1 _ ?_)
  clear hK1 K1
  refine W_seq (fun K2 hK2 => ?_)
  refine W_region (WL_cons rfl (WX_q rfl rfl (q_load_box_struct G rfl rfl rfl rfl rfl rfl) (WL_cons rfl (?_))))
  refine WX_call 4 rfl rfl rfl (ArgsOK.of rfl) (c_impl_newQueue q (by omega) (by omega)) rfl rfl ?_
  refine WL_cons rfl (WX_alloc_s G 5 rfl rfl rfl rfl rfl (WL_cons rfl (WX_store G rfl rfl rfl rfl rfl rfl rfl rfl rfl rfl rfl (?_))))
  refine WL_nil (hK2 _ ?_)
  clear hK2 K2
  refine W_seq (fun K3 hK3 => ?_)
  refine W_block ?_
  refine W_loopK [2, 3] [1, 4] (fun (x : Que) => []) (fun (x : Que) => [(2, some (.row 154 3 (x.sl.map encSl))), (3, some (.row 183 2 (x.wa.map encWa) true))]) (fun (x : Que) => QF x ∧ setl x = setl q) (fun (x : Que) => phi x) q rfl rfl ?_ ?_ ?_ ?_
  · exact ⟨hF, rfl⟩
  · exact trivial
  · exact ⟨⟨_, rfl, by rfl⟩, rfl, rfl, ⟨⟨_, rfl, by rfl⟩, rfl, rfl, trivial⟩⟩
  · intro x hinv
    have hFx := hinv.1
    have hl4 := hFx.sl.len
    have hwn := hFx.wn
    have hf := @fre_bd x.sl
    have hb := @bstS_bd x.sl false
    simp only [List.cons_append, List.nil_append]
    refine W_seq (fun K4 hK4 => ?_)
    refine W_seq (fun K5 hK5 => ?_)
    refine W_region (WL_cons rfl (WX_q rfl rfl (q_load_box_struct G rfl rfl rfl rfl rfl rfl) (WL_cons rfl (?_))))
    refine WX_q rfl rfl (q_call rfl (ArgsOK.of rfl) (c_impl_isSettled x (by omega) (by omega) hFx.sl.difS) rfl) ?_
    refine WL_cons rfl (WX_q rfl rfl (q_not rfl rfl) (?_))
    refine WL_nil (hK5 _ ?_)
    clear hK5 K5
    refine W_cond rfl (fun h1 => ?_) (fun h1 => ?_)
    · try rw [h1]
      try simp only [rfb] at h1
      obtain ⟨hw0, hbb⟩ := stQ_pos hFx h1
      have hnx := setl_step hFx h1
      obtain ⟨hF2, hphi⟩ := stQ_F hFx h1
      refine W_skip (hK4 _ ?_)
      clear hK4 K4
      refine W_block ?_
      refine W_seq (fun K6 hK6 => ?_)
      refine W_drawsH 10 [1, 2, 3, 4] mixed (by kernel_rfl) rfl rfl (fun r0 => ?_) (fun _ h => h)
      refine WA_take 0 rfl (by kernel_rfl) (by kernel_rfl) rfl rfl rfl rfl (q_field_ptr G rfl rfl rfl rfl) (WA_take 1 rfl (by kernel_rfl) (by kernel_rfl) rfl rfl rfl rfl (q_load_box G rfl rfl rfl rfl rfl rfl rfl) (?_))
      first | refine WA_take 2 rfl (by kernel_rfl) (by kernel_rfl) rfl rfl rfl rfl (q_index_own G rfl rfl rfl rfl rfl (by omega) (by omega)) ?_ | refine WA_take 2 rfl (by kernel_rfl) (by kernel_rfl) rfl rfl rfl rfl (q_index_own G rfl rfl rfl rfl rfl (by omega) (by simp; omega)) ?_
      first | refine WA_take 3 rfl (by kernel_rfl) (by kernel_rfl) rfl rfl rfl rfl (q_load_rpt_struct G rfl rfl rfl rfl (getN (by omega)) rfl) ?_ | refine WA_take 3 rfl (by kernel_rfl) (by kernel_rfl) rfl rfl rfl rfl (q_load_rpt_struct G rfl rfl rfl rfl (getNI (by omega) (by omega)) rfl) ?_ | refine WA_take 3 rfl (by kernel_rfl) (by kernel_rfl) rfl rfl rfl rfl (q_load_rpt_struct G rfl rfl rfl rfl (getM (by omega) (by omega)) rfl) ?_ | refine WA_take 3 rfl (by kernel_rfl) (by kernel_rfl) rfl rfl rfl rfl (q_load_rpt_struct G rfl rfl rfl rfl (getM (by omega) (by simp; omega)) rfl) ?_
      refine WA_take 4 rfl (by kernel_rfl) (by kernel_rfl) rfl rfl rfl rfl (q_field_ptr G rfl rfl rfl rfl) (WA_take 5 rfl (by kernel_rfl) (by kernel_rfl) rfl rfl rfl rfl (q_load_box G rfl rfl rfl rfl rfl rfl rfl) (?_))
      refine WA_more (N := 6) rfl (WAV_startH (fuel := 3) [⟨7, 4, 5, true, .box (avR [.int .i64 0, .int .i64 0] [])⟩] (AllVOK.cons (VOK.boxS G rfl rfl rfl rfl rfl) (AllVOK.nil)) (fun hok => ?_))
      refine WAV_go [(6, [])] (by kernel_rfl) (by kernel_rfl) (fun e he => hok e he) (by kernel_rfl) (AllVS.cons ?_ AllVS.nil)
      refine VStep.mk0 [1, 2, 3, 4] rfl rfl (fun b1 _ hbn => WX_q rfl rfl (q_call rfl (ArgsOK.of rfl) (c_impl_firstEmpty x.sl (by omega)) rfl) (WL_nil rfl)) (by kernel_rfl) (by kernel_rfl) (by kernel_rfl) (by kernel_rfl) ?_
      refine WAV_go [(8, [7])] (by kernel_rfl) (by kernel_rfl) (fun e he => hok e he) (by kernel_rfl) (AllVS.cons ?_ AllVS.nil)
      refine VStep.mk1 [1, 2, 3, 4] 4 (.ptr 5 0) 5 (.box (avR [.int .i64 0, .int .i64 0] [])) [] rfl rfl rfl rfl rfl (fun b1 _ hbn => WX_store G rfl rfl rfl rfl rfl rfl rfl rfl rfl rfl rfl (WL_nil rfl)) (by kernel_rfl) (by kernel_rfl) (by kernel_rfl) (by kernel_rfl) ?_
      refine WAV_nil ?_
      clear hok
      refine WA_take 9 rfl (by kernel_rfl) (by kernel_rfl) rfl rfl rfl rfl (q_assign rfl rfl) (?_)
      refine WA_end (by kernel_rfl) (hK6 _ ?_)
      clear hK6 K6
      refine W_seq (fun K7 hK7 => ?_)
      refine W_region (WL_cons rfl (WX_q rfl rfl (q_field_ptr G rfl rfl rfl rfl) (WL_cons rfl (WX_q rfl rfl (q_load_box G rfl rfl rfl rfl rfl rfl rfl) (WL_cons rfl (?_))))))
      refine WX_tail G 7 rfl rfl rfl rfl rfl rfl rfl rfl (by (try simp only [List.length_take, List.length_append, List.length_map, List.length_drop, List.length_cons, List.length_nil, List.length_replicate, Int.toNat_natCast]); omega) (by (try simp only [List.length_take, List.length_append, List.length_map, List.length_drop, List.length_cons, List.length_nil, List.length_replicate, Int.toNat_natCast]); omega) ?_
      refine WL_cons rfl (WX_q rfl rfl (q_field_ptr G rfl rfl rfl rfl) (WL_cons rfl (WX_store G rfl rfl rfl rfl rfl rfl rfl rfl rfl rfl rfl (?_))))
      refine WL_nil (hK7 _ ?_)
      clear hK7 K7
      refine W_seq (fun K8 hK8 => ?_)
      refine W_seq (fun K9 hK9 => ?_)
      refine W_region (WL_cons rfl (WX_q rfl rfl (q_move rfl rfl) (WL_cons rfl (WX_q rfl rfl (q_cmp rfl rfl rfl rfl) (?_)))))
      refine WL_nil (hK9 _ ?_)
      clear hK9 K9
      refine W_cond rfl (fun h2 => ?_) (fun h2 => ?_)
      · try rw [h2]
        try simp only [rfb] at h2
        refine W_seq (fun K10 hK10 => ?_)
        refine W_region (WL_cons rfl (WX_q rfl rfl (q_field_ptr G rfl rfl rfl rfl) (WL_cons rfl (WX_q rfl rfl (q_load_box G rfl rfl rfl rfl rfl rfl rfl) (WL_cons rfl (?_))))))
        refine WX_q rfl rfl (q_call rfl (ArgsOK.of rfl) (c_impl_pendingSlot x.sl false (by omega) hFx.sl.difS) rfl) ?_
        refine WL_cons rfl (WX_q rfl rfl (q_assign rfl rfl) (?_))
        refine WL_nil (hK10 _ ?_)
        clear hK10 K10
        apply W_drawsJ [2, 3, 4, 5] [1, 2, 4, 5, 7] 8 11 [1, 2, 5, 6] mixed (by kernel_rfl) rfl rfl hK8
        · intro r0
          refine WA_take 0 rfl (by kernel_rfl) (by kernel_rfl) rfl rfl rfl rfl (q_field_ptr G rfl rfl rfl rfl) (WA_take 2 rfl (by kernel_rfl) (by kernel_rfl) rfl rfl rfl rfl (q_field_ptr G rfl rfl rfl rfl) (WA_take 4 rfl (by kernel_rfl) (by kernel_rfl) rfl rfl rfl rfl (q_move rfl rfl) (?_)))
          refine WA_branch (rs := [1, 3]) (by kernel_rfl) rfl (AllB.cons ?_ (AllB.cons ?_ AllB.nil))
          · refine WB_run [1, 2, 5, 6] rfl rfl (WX_q rfl rfl (q_load_box G rfl rfl rfl rfl rfl rfl rfl) (WL_nil ⟨rfl, ?_⟩))
            refine WA_branch (rs := [3]) (by kernel_rfl) rfl (AllB.cons ?_ AllB.nil)
            refine WB_run [1, 2, 5, 6] rfl rfl (WX_q rfl rfl (q_load_box G rfl rfl rfl rfl rfl rfl rfl) (WL_nil ⟨rfl, ?_⟩))
            first | refine WA_take 5 rfl (by kernel_rfl) (by kernel_rfl) rfl rfl rfl rfl (q_index_own G rfl rfl rfl rfl rfl (by omega) (by omega)) ?_ | refine WA_take 5 rfl (by kernel_rfl) (by kernel_rfl) rfl rfl rfl rfl (q_index_own G rfl rfl rfl rfl rfl (by omega) (by simp; omega)) ?_
            first | refine WA_take 6 rfl (by kernel_rfl) (by kernel_rfl) rfl rfl rfl rfl (q_load_rpt_struct G rfl rfl rfl rfl (getN (by omega)) rfl) ?_ | refine WA_take 6 rfl (by kernel_rfl) (by kernel_rfl) rfl rfl rfl rfl (q_load_rpt_struct G rfl rfl rfl rfl (getNI (by omega) (by omega)) rfl) ?_ | refine WA_take 6 rfl (by kernel_rfl) (by kernel_rfl) rfl rfl rfl rfl (q_load_rpt_struct G rfl rfl rfl rfl (getM (by omega) (by omega)) rfl) ?_ | refine WA_take 6 rfl (by kernel_rfl) (by kernel_rfl) rfl rfl rfl rfl (q_load_rpt_struct G rfl rfl rfl rfl (getM (by omega) (by simp; omega)) rfl) ?_
            refine WA_branch (rs := [7]) (by kernel_rfl) rfl (AllB.cons ?_ AllB.nil)
            refine WB_run [1, 2, 5, 6] rfl rfl (WX_q rfl rfl (q_call rfl (ArgsOK.of rfl) (c_impl_waiterOf _) rfl) (WL_nil ⟨rfl, ?_⟩))
            refine WA_branch (rs := [8]) (by kernel_rfl) rfl (AllB.cons ?_ AllB.nil)
            refine WB_run [1, 2, 5, 6] rfl rfl (WX_call 8 rfl rfl rfl (ArgsOK.of (by rw [drop1]; rfl)) (c_impl_withWaiter (x.wa.drop 1) _ (by rw [List.length_drop]; omega)) rfl rfl (WL_nil ⟨rfl, ?_⟩))
            refine WA_take 9 rfl (by kernel_rfl) (by kernel_rfl) rfl rfl rfl rfl (q_field_ptr G rfl rfl rfl rfl) (?_)
            refine WA_branch (rs := [10]) (by kernel_rfl) rfl (AllB.cons ?_ AllB.nil)
            refine WB_run [1, 2, 5, 6] rfl rfl (WX_store G rfl rfl rfl rfl rfl rfl rfl rfl rfl rfl rfl (WL_nil ⟨rfl, ?_⟩))
            exact WA_end (by kernel_rfl) (Meet.mk rfl rfl rfl rfl)
          · refine WB_run [1, 2, 5, 6] rfl rfl (WX_q rfl rfl (q_load_box G rfl rfl rfl rfl rfl rfl rfl) (WL_nil ⟨rfl, ?_⟩))
            first | refine WA_take 5 rfl (by kernel_rfl) (by kernel_rfl) rfl rfl rfl rfl (q_index_own G rfl rfl rfl rfl rfl (by omega) (by omega)) ?_ | refine WA_take 5 rfl (by kernel_rfl) (by kernel_rfl) rfl rfl rfl rfl (q_index_own G rfl rfl rfl rfl rfl (by omega) (by simp; omega)) ?_
            first | refine WA_take 6 rfl (by kernel_rfl) (by kernel_rfl) rfl rfl rfl rfl (q_load_rpt_struct G rfl rfl rfl rfl (getN (by omega)) rfl) ?_ | refine WA_take 6 rfl (by kernel_rfl) (by kernel_rfl) rfl rfl rfl rfl (q_load_rpt_struct G rfl rfl rfl rfl (getNI (by omega) (by omega)) rfl) ?_ | refine WA_take 6 rfl (by kernel_rfl) (by kernel_rfl) rfl rfl rfl rfl (q_load_rpt_struct G rfl rfl rfl rfl (getM (by omega) (by omega)) rfl) ?_ | refine WA_take 6 rfl (by kernel_rfl) (by kernel_rfl) rfl rfl rfl rfl (q_load_rpt_struct G rfl rfl rfl rfl (getM (by omega) (by simp; omega)) rfl) ?_
            refine WA_branch (rs := [1, 7]) (by kernel_rfl) rfl (AllB.cons ?_ (AllB.cons ?_ AllB.nil))
            · refine WB_run [1, 2, 5, 6] rfl rfl (WX_q rfl rfl (q_load_box G rfl rfl rfl rfl rfl rfl rfl) (WL_nil ⟨rfl, ?_⟩))
              refine WA_branch (rs := [7]) (by kernel_rfl) rfl (AllB.cons ?_ AllB.nil)
              refine WB_run [1, 2, 5, 6] rfl rfl (WX_q rfl rfl (q_call rfl (ArgsOK.of rfl) (c_impl_waiterOf _) rfl) (WL_nil ⟨rfl, ?_⟩))
              refine WA_branch (rs := [8]) (by kernel_rfl) rfl (AllB.cons ?_ AllB.nil)
              refine WB_run [1, 2, 5, 6] rfl rfl (WX_call 8 rfl rfl rfl (ArgsOK.of (by rw [drop1]; rfl)) (c_impl_withWaiter (x.wa.drop 1) _ (by rw [List.length_drop]; omega)) rfl rfl (WL_nil ⟨rfl, ?_⟩))
              refine WA_take 9 rfl (by kernel_rfl) (by kernel_rfl) rfl rfl rfl rfl (q_field_ptr G rfl rfl rfl rfl) (?_)
              refine WA_branch (rs := [10]) (by kernel_rfl) rfl (AllB.cons ?_ AllB.nil)
              refine WB_run [1, 2, 5, 6] rfl rfl (WX_store G rfl rfl rfl rfl rfl rfl rfl rfl rfl rfl rfl (WL_nil ⟨rfl, ?_⟩))
              exact WA_end (by kernel_rfl) (Meet.mk rfl rfl rfl rfl)
            · refine WB_run [1, 2, 5, 6] rfl rfl (WX_q rfl rfl (q_call rfl (ArgsOK.of rfl) (c_impl_waiterOf _) rfl) (WL_nil ⟨rfl, ?_⟩))
              refine WA_branch (rs := [1]) (by kernel_rfl) rfl (AllB.cons ?_ AllB.nil)
              refine WB_run [1, 2, 5, 6] rfl rfl (WX_q rfl rfl (q_load_box G rfl rfl rfl rfl rfl rfl rfl) (WL_nil ⟨rfl, ?_⟩))
              refine WA_branch (rs := [8]) (by kernel_rfl) rfl (AllB.cons ?_ AllB.nil)
              refine WB_run [1, 2, 5, 6] rfl rfl (WX_call 8 rfl rfl rfl (ArgsOK.of (by rw [drop1]; rfl)) (c_impl_withWaiter (x.wa.drop 1) _ (by rw [List.length_drop]; omega)) rfl rfl (WL_nil ⟨rfl, ?_⟩))
              refine WA_take 9 rfl (by kernel_rfl) (by kernel_rfl) rfl rfl rfl rfl (q_field_ptr G rfl rfl rfl rfl) (?_)
              refine WA_branch (rs := [10]) (by kernel_rfl) rfl (AllB.cons ?_ AllB.nil)
              refine WB_run [1, 2, 5, 6] rfl rfl (WX_store G rfl rfl rfl rfl rfl rfl rfl rfl rfl rfl rfl (WL_nil ⟨rfl, ?_⟩))
              exact WA_end (by kernel_rfl) (Meet.mk rfl rfl rfl rfl)
        · clear hK8 K8
          refine W_gh (Gh.tl (id := 7) rfl) ?_
          refine W_region (WL_cons rfl (WX_q rfl rfl (q_field_ptr G rfl rfl rfl rfl) (WL_cons rfl (WX_q rfl rfl (q_load_box G rfl rfl rfl rfl rfl rfl rfl) (WL_cons rfl (WX_q rfl rfl (q_move rfl rfl) (WL_cons rfl (WX_q rfl rfl (q_field_ptr G rfl rfl rfl rfl) (WL_cons rfl (WX_q rfl rfl (q_load_box G rfl rfl rfl rfl rfl rfl rfl) (WL_cons rfl (WX_q rfl rfl (q_field_ptr G rfl rfl rfl rfl) (WL_cons rfl (WX_q rfl rfl (q_load_box G rfl rfl rfl rfl rfl rfl rfl) (WL_cons rfl (WX_q rfl rfl (q_build G rfl rfl rfl rfl) (WL_cons rfl (?_))))))))))))))))))
          first | refine WX_q rfl rfl (q_index_own G rfl rfl rfl rfl rfl (by omega) (by omega)) ?_ | refine WX_q rfl rfl (q_index_own G rfl rfl rfl rfl rfl (by omega) (by simp; omega)) ?_
          refine WL_cons rfl (?_)
          first | refine WX_store_row G rfl rfl rfl rfl rfl (getN (by omega)) rfl rfl rfl rfl rfl (Nat.le_of_ble_eq_true rfl) rfl ?_ | refine WX_store_row G rfl rfl rfl rfl rfl (getNI (by omega) (by omega)) rfl rfl rfl rfl rfl (Nat.le_of_ble_eq_true rfl) rfl ?_ | refine WX_store_row G rfl rfl rfl rfl rfl (getM (by omega) (by omega)) rfl rfl rfl rfl rfl (Nat.le_of_ble_eq_true rfl) rfl ?_ | refine WX_store_row G rfl rfl rfl rfl rfl (getM (by omega) (by simp; omega)) rfl rfl rfl rfl rfl (Nat.le_of_ble_eq_true rfl) rfl ?_
          refine WL_gh (Gh.sub 7 3 np rfl rfl rfl) ?_
          refine WL_nil ⟨(stQ x), ?_, ?_, trivial, ⟨⟨_, rfl, by (first | rfl | (rw [stQ_fre (q := x) (by omega)]; exact congrArg (fun z => Row.row _ _ z) (setG (f := encSl) (x := ⟨1, _, _⟩))) | (rw [stQ_bst (q := x) (by omega)]; exact congrArg (fun z => Row.row _ _ z) (setG (f := encSl) (x := ⟨1, _, _⟩))) | (rw [stQ_fre (q := x) (by omega)]; exact congrArg (fun z => Row.row _ _ z true) (List.map_drop).symm) | (rw [stQ_bst (q := x) (by omega)]; done) | (rw [stQ_bst (q := x) (by omega)]; rfl) | (rw [stQ_fre (q := x) (by omega)]; done) | (rw [stQ_fre (q := x) (by omega)]; rfl) | (rw [stQ_fre (q := x) (by omega)]; exact congrArg (fun z => Row.row _ _ z true) (by rw [List.nil_append, tail1]))| (rw [stQ_bst (q := x) (by omega)]; exact congrArg (fun z => Row.row _ _ z true) (by rw [List.nil_append, tail1])))⟩, rfl, rfl, ⟨⟨_, rfl, by (first | rfl | (rw [stQ_fre (q := x) (by omega)]; exact congrArg (fun z => Row.row _ _ z) (setG (f := encSl) (x := ⟨1, _, _⟩))) | (rw [stQ_bst (q := x) (by omega)]; exact congrArg (fun z => Row.row _ _ z) (setG (f := encSl) (x := ⟨1, _, _⟩))) | (rw [stQ_fre (q := x) (by omega)]; exact congrArg (fun z => Row.row _ _ z true) (List.map_drop).symm) | (rw [stQ_bst (q := x) (by omega)]; done) | (rw [stQ_bst (q := x) (by omega)]; rfl) | (rw [stQ_fre (q := x) (by omega)]; done) | (rw [stQ_fre (q := x) (by omega)]; rfl) | (rw [stQ_fre (q := x) (by omega)]; exact congrArg (fun z => Row.row _ _ z true) (by rw [List.nil_append, tail1]))| (rw [stQ_bst (q := x) (by omega)]; exact congrArg (fun z => Row.row _ _ z true) (by rw [List.nil_append, tail1])))⟩, rfl, rfl, trivial⟩⟩, rfl, rfl, rfl⟩
          · exact ⟨hF2, hnx ▸ hinv.2⟩
          · exact hphi
      · try rw [h2]
        try simp only [rfb] at h2
        refine W_skip (hK8 _ ?_)
        clear hK8 K8
        refine W_gh (Gh.tl (id := 6) rfl) ?_
        refine W_region (WL_cons rfl (WX_q rfl rfl (q_field_ptr G rfl rfl rfl rfl) (WL_cons rfl (WX_q rfl rfl (q_load_box G rfl rfl rfl rfl rfl rfl rfl) (WL_cons rfl (WX_q rfl rfl (q_move rfl rfl) (WL_cons rfl (WX_q rfl rfl (q_field_ptr G rfl rfl rfl rfl) (WL_cons rfl (WX_q rfl rfl (q_load_box G rfl rfl rfl rfl rfl rfl rfl) (WL_cons rfl (WX_q rfl rfl (q_field_ptr G rfl rfl rfl rfl) (WL_cons rfl (WX_q rfl rfl (q_load_box G rfl rfl rfl rfl rfl rfl rfl) (WL_cons rfl (WX_q rfl rfl (q_build G rfl rfl rfl rfl) (WL_cons rfl (?_))))))))))))))))))
        first | refine WX_q rfl rfl (q_index_own G rfl rfl rfl rfl rfl (by omega) (by omega)) ?_ | refine WX_q rfl rfl (q_index_own G rfl rfl rfl rfl rfl (by omega) (by simp; omega)) ?_
        refine WL_cons rfl (?_)
        first | refine WX_store_row G rfl rfl rfl rfl rfl (getN (by omega)) rfl rfl rfl rfl rfl (Nat.le_of_ble_eq_true rfl) rfl ?_ | refine WX_store_row G rfl rfl rfl rfl rfl (getNI (by omega) (by omega)) rfl rfl rfl rfl rfl (Nat.le_of_ble_eq_true rfl) rfl ?_ | refine WX_store_row G rfl rfl rfl rfl rfl (getM (by omega) (by omega)) rfl rfl rfl rfl rfl (Nat.le_of_ble_eq_true rfl) rfl ?_ | refine WX_store_row G rfl rfl rfl rfl rfl (getM (by omega) (by simp; omega)) rfl rfl rfl rfl rfl (Nat.le_of_ble_eq_true rfl) rfl ?_
        refine WL_gh (Gh.sub 6 3 np rfl rfl rfl) ?_
        refine WL_nil ⟨(stQ x), ?_, ?_, trivial, ⟨⟨_, rfl, by (first | rfl | (rw [stQ_fre (q := x) (by omega)]; exact congrArg (fun z => Row.row _ _ z) (setG (f := encSl) (x := ⟨1, _, _⟩))) | (rw [stQ_bst (q := x) (by omega)]; exact congrArg (fun z => Row.row _ _ z) (setG (f := encSl) (x := ⟨1, _, _⟩))) | (rw [stQ_fre (q := x) (by omega)]; exact congrArg (fun z => Row.row _ _ z true) (List.map_drop).symm) | (rw [stQ_bst (q := x) (by omega)]; done) | (rw [stQ_bst (q := x) (by omega)]; rfl) | (rw [stQ_fre (q := x) (by omega)]; done) | (rw [stQ_fre (q := x) (by omega)]; rfl) | (rw [stQ_fre (q := x) (by omega)]; exact congrArg (fun z => Row.row _ _ z true) (by rw [List.nil_append, tail1]))| (rw [stQ_bst (q := x) (by omega)]; exact congrArg (fun z => Row.row _ _ z true) (by rw [List.nil_append, tail1])))⟩, rfl, rfl, ⟨⟨_, rfl, by (first | rfl | (rw [stQ_fre (q := x) (by omega)]; exact congrArg (fun z => Row.row _ _ z) (setG (f := encSl) (x := ⟨1, _, _⟩))) | (rw [stQ_bst (q := x) (by omega)]; exact congrArg (fun z => Row.row _ _ z) (setG (f := encSl) (x := ⟨1, _, _⟩))) | (rw [stQ_fre (q := x) (by omega)]; exact congrArg (fun z => Row.row _ _ z true) (List.map_drop).symm) | (rw [stQ_bst (q := x) (by omega)]; done) | (rw [stQ_bst (q := x) (by omega)]; rfl) | (rw [stQ_fre (q := x) (by omega)]; done) | (rw [stQ_fre (q := x) (by omega)]; rfl) | (rw [stQ_fre (q := x) (by omega)]; exact congrArg (fun z => Row.row _ _ z true) (by rw [List.nil_append, tail1]))| (rw [stQ_bst (q := x) (by omega)]; exact congrArg (fun z => Row.row _ _ z true) (by rw [List.nil_append, tail1])))⟩, rfl, rfl, trivial⟩⟩, rfl, rfl, rfl⟩
        · exact ⟨hF2, hnx ▸ hinv.2⟩
        · exact hphi
    · try rw [h1]
      try simp only [rfb] at h1
      have hd := setl_done h1
      refine W_exit (hK3 _ ?_)
      clear hK4 K4 hK3 K3
      refine W_seq (fun K11 hK11 => ?_)
      refine W_region (WL_cons rfl (WX_q rfl rfl (q_load_box_struct G rfl rfl rfl rfl rfl rfl) (WL_cons rfl (WX_store G rfl rfl rfl rfl rfl rfl rfl rfl rfl rfl rfl (?_)))))
      refine WL_nil (hK11 _ ?_)
      clear hK11 K11
      refine W_ret (fin_shp rfl rfl rfl rfl (rcs_cons (rc_own rfl ?_) (rcs_cons (rc_own rfl ?_) rcs_nil)))
      all_goals ((rw [← hinv.2, hd]; done))

theorem c_spec_l9Own (q : Que) (hl : q.sl.length ≤ 1048576) (hw : q.wa.length ≤ 1048576) : Ctr Tryz.prog 218 [.agg [.lst 3 (q.sl.map encSl), .lst 2 (q.wa.map encWa)]] (.shp true [some 2] [.fr 154 3 (q.sl.map encSl), .fr 183 2 (q.wa.map encWa)]) := by
  refine Ctr.of (n := 12) G Tryz.func218 rfl (by kernel_rfl) rfl rfl rfl (fun w0 => ?_)
  refine W_pinS 0 rfl (fun _ => rfl) (fun u0 => ?_)
  refine W_seq (fun K1 hK1 => ?_)
  refine W_region (WL_cons rfl (WX_box 1 rfl rfl rfl rfl rfl rfl rfl (WL_cons rfl (WX_alloc_s G 2 rfl rfl rfl rfl rfl (?_)))))
  refine WL_nil (hK1 _ ?_)
  clear hK1 K1
  refine W_seq (fun K2 hK2 => ?_)
  refine W_drawsH 10 [0] mixed (by kernel_rfl) rfl rfl (fun r0 => ?_) (fun _ h => h)
  refine WA_take 1 rfl (by kernel_rfl) (by kernel_rfl) rfl rfl rfl rfl (q_field_ptr G rfl rfl rfl rfl) (WA_take 2 rfl (by kernel_rfl) (by kernel_rfl) rfl rfl rfl rfl (q_lst (q_load_box G rfl rfl rfl rfl rfl rfl rfl)) (WA_take 5 rfl (by kernel_rfl) (by kernel_rfl) rfl rfl rfl rfl (q_field_ptr G rfl rfl rfl rfl) (WA_take 6 rfl (by kernel_rfl) (by kernel_rfl) rfl rfl rfl rfl (q_lst (q_load_box G rfl rfl rfl rfl rfl rfl rfl)) (?_))))
  refine WA_more (N := 4) rfl (WAV_startH (fuel := 4) [⟨0, 3, 2, false, .row 154 3 []⟩, ⟨4, 7, 3, false, .row 183 2 []⟩] (AllVOK.cons (VOK.lit G rfl rfl rfl rfl rfl) (AllVOK.cons (VOK.lit G rfl rfl rfl rfl rfl) (AllVOK.nil))) (fun hok => ?_))
  refine WAV_go [(3, [0])] (by kernel_rfl) (by kernel_rfl) (fun e he => hok e he) (by kernel_rfl) (AllVS.cons ?_ AllVS.nil)
  refine VStep.mk1 [0] 3 (.own 2) 2 (.row 154 3 []) [⟨4, 7, 3, false, .row 183 2 []⟩] rfl rfl rfl rfl rfl (fun b1 _ hbn => WX_append G (by rw [hbn]; exact Nat.le_of_ble_eq_true rfl) rfl rfl rfl rfl rfl rfl rfl rfl rfl (by simp; omega) rfl rfl (WL_nil rfl)) (by kernel_rfl) (by kernel_rfl) (by kernel_rfl) (by kernel_rfl) ?_
  refine WAV_go [(7, [4])] (by kernel_rfl) (by kernel_rfl) (fun e he => hok e (vin (is := [0]) rfl he)) (by kernel_rfl) (AllVS.cons ?_ AllVS.nil)
  refine VStep.mk1 [0] 7 (.own 3) 3 (.row 183 2 []) [] rfl rfl rfl rfl rfl (fun b1 _ hbn => WX_append G (by rw [hbn]; exact Nat.le_of_ble_eq_true rfl) rfl rfl rfl rfl rfl rfl rfl rfl rfl (by simp; omega) rfl rfl (WL_nil rfl)) (by kernel_rfl) (by kernel_rfl) (by kernel_rfl) (by kernel_rfl) ?_
  refine WAV_nil ?_
  clear hok
  refine WA_branch (rs := [8]) (by kernel_rfl) rfl (AllB.cons ?_ AllB.nil)
  refine WB_run [0] rfl rfl (WX_q rfl rfl (q_build G rfl rfl rfl rfl) (WL_nil ⟨rfl, ?_⟩))
  refine WA_branch (rs := [9]) (by kernel_rfl) rfl (AllB.cons ?_ AllB.nil)
  refine WB_run [0] rfl rfl (WX_store G rfl rfl rfl rfl rfl rfl rfl rfl rfl rfl rfl (WL_nil ⟨rfl, ?_⟩))
  refine WA_end (by kernel_rfl) (hK2 _ ?_)
  clear hK2 K2
  refine W_ret (fin_shp rfl rfl rfl rfl (rcs_cons (rc_own rfl ?_) (rcs_cons (rc_own rfl ?_) rcs_nil)))
  all_goals (first | rfl | simp)

end Go.Proofs.YtcnodpipinlpcaaGreat
