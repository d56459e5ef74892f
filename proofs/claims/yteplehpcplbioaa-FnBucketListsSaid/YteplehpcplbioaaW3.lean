/- Walks through functions of the program, one contract each (written by gen.py). -/
import Derived.Test.YteplehpcplbioaaW2
set_option maxRecDepth 20000
set_option linter.unusedVariables false
set_option linter.unusedSimpArgs false
namespace Go.Proofs.Yteplehpcplbioaa
open Go Go.Rf

theorem c_spec_TokensBy (x : Bucket) (t : Int) : Ctr Try.prog 18 [.v (encB x), .v (.int .i64 t)] (.many [.v (.int .i64 (tokens x t).1), .v (.bool (tokens x t).2)]) := by
  refine Ctr.of (n := 17) G Try.func18 rfl (by kernel_rfl) rfl rfl rfl (fun w0 => ?_)
  refine W_seq (fun K1 hK1 => ?_)
  refine W_region (WL_cons rfl (WX_box 1 rfl rfl rfl rfl rfl rfl rfl (WL_cons rfl (WX_q rfl rfl (q_assign rfl rfl) (WL_cons rfl (WX_q rfl rfl (q_assign rfl rfl) (?_)))))))
  refine WL_nil (hK1 _ ?_)
  clear hK1 K1
  refine W_seq (fun K2 hK2 => ?_)
  refine W_seq (fun K3 hK3 => ?_)
  refine W_region (WL_cons rfl (WX_q rfl rfl (q_load_box_struct G rfl rfl rfl rfl rfl rfl) (WL_cons rfl (WX_q rfl rfl (q_move rfl rfl) (WL_cons rfl (?_))))))
  refine WX_q rfl rfl (q_call rfl (ArgsOK.of rfl) (c_spec_l23At _ _) rfl) ?_
  refine WL_cons rfl (WX_q rfl rfl (q_not rfl rfl) (?_))
  refine WL_nil (hK3 _ ?_)
  clear hK3 K3
  refine W_cond rfl (fun h1 => ?_) (fun h1 => ?_)
  · try rw [h1]
    try simp only [decide_eq_true_eq, decide_eq_false_iff_not, beq_iff_eq, bne_iff_ne, ne_eq, Bool.not_eq_true', Bool.not_eq_false', beq_eq_false_iff_ne, bne_eq_false_iff_eq, Bool.not_eq_true, Bool.not_eq_false, Int.not_lt, Int.not_le, gt_iff_lt, ge_iff_le, Bool.and_eq_true, Bool.and_eq_false_iff, Bool.or_eq_true, Bool.or_eq_false_iff] at h1
    refine W_seq (fun K4 hK4 => ?_)
    refine W_region (WL_cons rfl (WX_q rfl rfl (q_assign rfl rfl) (WL_cons rfl (WX_q rfl rfl (q_assign rfl rfl) (?_)))))
    refine WL_nil (hK4 _ ?_)
    clear hK4 K4
    refine W_ret (fin_many rfl rfl rfl rfl (rcs_cons (rc_v ?_) (rcs_cons (rc_v ?_) rcs_nil)))
    all_goals clear hK2 K2
    all_goals ((first | rfl | (simp_all [tokens, bringTo, bringB_h]; done) | ((simp only [tokens, bringTo, bringB_h]; repeat' split) <;> (first | rfl | ((try simp_all []) <;> omega) | (exfalso; (try simp_all []) <;> omega)))))
  · try rw [h1]
    try simp only [decide_eq_true_eq, decide_eq_false_iff_not, beq_iff_eq, bne_iff_ne, ne_eq, Bool.not_eq_true', Bool.not_eq_false', beq_eq_false_iff_ne, bne_eq_false_iff_eq, Bool.not_eq_true, Bool.not_eq_false, Int.not_lt, Int.not_le, gt_iff_lt, ge_iff_le, Bool.and_eq_true, Bool.and_eq_false_iff, Bool.or_eq_true, Bool.or_eq_false_iff] at h1
    try simp only [Bool.not_eq_false', Bool.not_eq_true] at h1
    have h0 : okAt x t = true := by first | exact h1 | (unfold bringTo at h1; split at h1 <;> simp_all)
    have hg := gain_le h0
    have ho := okAt_iff.mp h0
    have he : (bringTo x t).1.h = min x.b (x.h + x.r * (t - x.t)) := by simp [bringTo, h0, bringB_h]
    have he2 := bringB_h x t
    refine W_skip (hK2 _ ?_)
    clear hK2 K2
    refine W_seq (fun K5 hK5 => ?_)
    refine W_draws mixed (by kernel_rfl) (QL_cons rfl (QX_q rfl rfl (q_load_box_struct G rfl rfl rfl rfl rfl rfl) (QL_cons rfl (QX_q rfl rfl (q_move rfl rfl) (QL_cons rfl (?_))))))
    refine QX_q rfl rfl (q_call rfl (ArgsOK.of rfl) (c_spec_l23Bring _ _ h0) rfl) ?_
    refine QL_cons rfl (QX_q rfl rfl (q_field_v G rfl rfl rfl rfl rfl rfl rfl) (QL_cons rfl (QX_q rfl rfl (q_field_ptr G rfl rfl rfl rfl) (QL_cons rfl (QX_q rfl rfl (q_load_box G rfl rfl rfl rfl rfl rfl rfl) (QL_cons rfl (?_)))))))
    first | refine QX_q rfl rfl (q_arith rfl rfl rfl rfl (by omega) (by omega)) ?_ | refine QX_q rfl rfl (q_wrap rfl rfl rfl rfl) ?_
    refine QL_cons rfl (QX_q rfl rfl (q_assign rfl rfl) (QL_cons rfl (QX_q rfl rfl (q_assign rfl rfl) (?_))))
    refine QL_nil (hK5 _ ?_)
    clear hK5 K5
    refine W_ret (fin_many rfl rfl rfl rfl (rcs_cons (rc_v ?_) (rcs_cons (rc_v ?_) rcs_nil)))
    all_goals ((first | rfl | (simp_all [tokens, bringTo, bringB_h]; done) | ((simp only [tokens, bringTo, bringB_h]; repeat' split) <;> (first | rfl | ((try simp_all []) <;> omega) | (exfalso; (try simp_all []) <;> omega)))))

theorem c_impl_TokensBy (x : Bucket) (t : Int) : Ctr Try.prog 19 [.v (encB x), .v (.int .i64 t)] (.many [.v (.int .i64 (tokens x t).1), .v (.bool (tokens x t).2)]) := by
  refine Ctr.of (n := 21) G Try.func19 rfl (by kernel_rfl) rfl rfl rfl (fun w0 => ?_)
  refine W_seq (fun K1 hK1 => ?_)
  refine W_region (WL_cons rfl (WX_box 1 rfl rfl rfl rfl rfl rfl rfl (WL_cons rfl (WX_q rfl rfl (q_assign rfl rfl) (WL_cons rfl (WX_q rfl rfl (q_assign rfl rfl) (?_)))))))
  refine WL_nil (hK1 _ ?_)
  clear hK1 K1
  refine W_seq (fun K2 hK2 => ?_)
  refine W_region (WL_cons rfl (WX_q rfl rfl (q_load_box_struct G rfl rfl rfl rfl rfl rfl) (WL_cons rfl (WX_q rfl rfl (q_move rfl rfl) (WL_cons rfl (?_))))))
  refine WX_q rfl rfl (q_call rfl (ArgsOK.of rfl) (c_impl_BringTo _ _) rfl) ?_
  refine WL_cons rfl (WX_q rfl rfl (q_move rfl rfl) (WL_cons rfl (WX_q rfl rfl (q_extract rfl rfl rfl) (WL_cons rfl (WX_q rfl rfl (q_extract rfl rfl rfl) (WL_cons rfl (WX_alloc_s G 2 rfl rfl rfl rfl rfl (WL_cons rfl (WX_store G rfl rfl rfl rfl rfl rfl rfl rfl rfl rfl rfl (WL_cons rfl (WX_q rfl rfl (q_assign rfl rfl) (?_))))))))))))
  refine WL_nil (hK2 _ ?_)
  clear hK2 K2
  refine W_seq (fun K3 hK3 => ?_)
  refine W_seq (fun K4 hK4 => ?_)
  refine W_region (WL_cons rfl (WX_q rfl rfl (q_move rfl rfl) (WL_cons rfl (WX_q rfl rfl (q_not rfl rfl) (?_)))))
  refine WL_nil (hK4 _ ?_)
  clear hK4 K4
  refine W_cond rfl (fun h1 => ?_) (fun h1 => ?_)
  · try rw [h1]
    try simp only [decide_eq_true_eq, decide_eq_false_iff_not, beq_iff_eq, bne_iff_ne, ne_eq, Bool.not_eq_true', Bool.not_eq_false', beq_eq_false_iff_ne, bne_eq_false_iff_eq, Bool.not_eq_true, Bool.not_eq_false, Int.not_lt, Int.not_le, gt_iff_lt, ge_iff_le, Bool.and_eq_true, Bool.and_eq_false_iff, Bool.or_eq_true, Bool.or_eq_false_iff] at h1
    refine W_seq (fun K5 hK5 => ?_)
    refine W_region (WL_cons rfl (WX_q rfl rfl (q_assign rfl rfl) (WL_cons rfl (WX_q rfl rfl (q_assign rfl rfl) (?_)))))
    refine WL_nil (hK5 _ ?_)
    clear hK5 K5
    refine W_ret (fin_many rfl rfl rfl rfl (rcs_cons (rc_v ?_) (rcs_cons (rc_v ?_) rcs_nil)))
    all_goals clear hK3 K3
    all_goals (simp only [tokens, bringTo, bringB_h] at *; cases hk : okAt x t <;> simp_all)
  · try rw [h1]
    try simp only [decide_eq_true_eq, decide_eq_false_iff_not, beq_iff_eq, bne_iff_ne, ne_eq, Bool.not_eq_true', Bool.not_eq_false', beq_eq_false_iff_ne, bne_eq_false_iff_eq, Bool.not_eq_true, Bool.not_eq_false, Int.not_lt, Int.not_le, gt_iff_lt, ge_iff_le, Bool.and_eq_true, Bool.and_eq_false_iff, Bool.or_eq_true, Bool.or_eq_false_iff] at h1
    try simp only [Bool.not_eq_false', Bool.not_eq_true] at h1
    have h0 : okAt x t = true := by first | exact h1 | (unfold bringTo at h1; split at h1 <;> simp_all)
    have hg := gain_le h0
    have ho := okAt_iff.mp h0
    have he : (bringTo x t).1.h = min x.b (x.h + x.r * (t - x.t)) := by simp [bringTo, h0, bringB_h]
    have he2 := bringB_h x t
    refine W_skip (hK3 _ ?_)
    clear hK3 K3
    refine W_seq (fun K6 hK6 => ?_)
    refine W_region (WL_cons rfl (WX_q rfl rfl (q_field_ptr G rfl rfl rfl rfl) (WL_cons rfl (WX_q rfl rfl (q_load_box G rfl rfl rfl rfl rfl rfl rfl) (WL_cons rfl (WX_q rfl rfl (q_field_ptr G rfl rfl rfl rfl) (WL_cons rfl (WX_q rfl rfl (q_load_box G rfl rfl rfl rfl rfl rfl rfl) (WL_cons rfl (?_))))))))))
    first | refine WX_q rfl rfl (q_arith rfl rfl rfl rfl (by omega) (by omega)) ?_ | refine WX_q rfl rfl (q_wrap rfl rfl rfl rfl) ?_
    refine WL_cons rfl (WX_q rfl rfl (q_assign rfl rfl) (WL_cons rfl (WX_q rfl rfl (q_assign rfl rfl) (?_))))
    refine WL_nil (hK6 _ ?_)
    clear hK6 K6
    refine W_ret (fin_many rfl rfl rfl rfl (rcs_cons (rc_v ?_) (rcs_cons (rc_v ?_) rcs_nil)))
    all_goals (simp only [tokens, bringTo, bringB_h] at *; cases hk : okAt x t <;> simp_all)

theorem c_spec_NextAllowed (x : Bucket) (c : Int) : Ctr Try.prog 15 [.v (encB x), .v (.int .i64 c)] (.many [.v (.int .i64 (nextA x c).1), .v (.bool (nextA x c).2)]) := by
  refine Ctr.of (n := 47) G Try.func15 rfl (by kernel_rfl) rfl rfl rfl (fun w0 => ?_)
  refine W_seq (fun K1 hK1 => ?_)
  refine W_region (WL_cons rfl (WX_box 1 rfl rfl rfl rfl rfl rfl rfl (WL_cons rfl (WX_q rfl rfl (q_assign rfl rfl) (WL_cons rfl (WX_q rfl rfl (q_assign rfl rfl) (?_)))))))
  refine WL_nil (hK1 _ ?_)
  clear hK1 K1
  refine W_seq (fun K2 hK2 => ?_)
  refine W_seq (fun K3 hK3 => ?_)
  refine W_region (WL_cons rfl (WX_q rfl rfl (q_load_box_struct G rfl rfl rfl rfl rfl rfl) (WL_cons rfl (?_))))
  refine WX_q rfl rfl (q_call rfl (ArgsOK.of rfl) (c_spec_l23One _) rfl) ?_
  refine WL_cons rfl (WX_q rfl rfl (q_not rfl rfl) (WL_cons rfl (WX_q rfl rfl (q_move rfl rfl) (WL_part rfl rfl rfl (fun h1 => ?_) (fun h1 => ?_)))))
  · try rw [h1]
    try simp only [decide_eq_true_eq, decide_eq_false_iff_not, beq_iff_eq, bne_iff_ne, ne_eq, Bool.not_eq_true', Bool.not_eq_false', beq_eq_false_iff_ne, bne_eq_false_iff_eq, Bool.not_eq_true, Bool.not_eq_false, Int.not_lt, Int.not_le, gt_iff_lt, ge_iff_le, Bool.and_eq_true, Bool.and_eq_false_iff, Bool.or_eq_true, Bool.or_eq_false_iff] at h1
    refine WL_skip rfl rfl rfl rfl rfl rfl (WL_skip rfl rfl rfl rfl rfl rfl (WL_skip rfl rfl rfl rfl rfl rfl (WL_cons rfl (WX_q rfl rfl (q_pick_t rfl rfl rfl) (WL_cons rfl (WX_q rfl rfl (q_move rfl rfl) (WL_skip rfl rfl rfl rfl rfl rfl (WL_skip rfl rfl rfl rfl rfl rfl (WL_skip rfl rfl rfl rfl rfl rfl (WL_skip rfl rfl rfl rfl rfl rfl (WL_cons rfl (WX_q rfl rfl (q_pick_t rfl rfl rfl) (?_)))))))))))))
    refine WL_nil (hK3 _ ?_)
    clear hK3 K3
    refine W_true rfl ?_
    refine W_seq (fun K4 hK4 => ?_)
    refine W_region (WL_cons rfl (WX_q rfl rfl (q_assign rfl rfl) (WL_cons rfl (WX_q rfl rfl (q_assign rfl rfl) (?_)))))
    refine WL_nil (hK4 _ ?_)
    clear hK4 K4
    refine W_ret (fin_many rfl rfl rfl rfl (rcs_cons (rc_v ?_) (rcs_cons (rc_v ?_) rcs_nil)))
    all_goals clear hK2 K2
    all_goals ((try clear hm2) <;> (try clear hm) <;> (first | rfl | (simp_all [nextA]; done) | ((simp only [nextA]; repeat' split) <;> (first | rfl | ((try simp_all [inside_f, inside_t]) <;> omega) | (exfalso; (try simp_all [inside_f, inside_t]) <;> omega)))))
  · try rw [h1]
    try simp only [decide_eq_true_eq, decide_eq_false_iff_not, beq_iff_eq, bne_iff_ne, ne_eq, Bool.not_eq_true', Bool.not_eq_false', beq_eq_false_iff_ne, bne_eq_false_iff_eq, Bool.not_eq_true, Bool.not_eq_false, Int.not_lt, Int.not_le, gt_iff_lt, ge_iff_le, Bool.and_eq_true, Bool.and_eq_false_iff, Bool.or_eq_true, Bool.or_eq_false_iff] at h1
    refine WL_run rfl rfl rfl (WX_q rfl rfl (q_move rfl rfl) (WL_run rfl rfl rfl (?_)))
    refine WX_q rfl rfl (q_call rfl (ArgsOK.of rfl) (c_spec_l23Cost _) rfl) ?_
    refine WL_run rfl rfl rfl (WX_q rfl rfl (q_not rfl rfl) (WL_cons rfl (WX_q rfl rfl (q_pick_f rfl rfl rfl) (WL_cons rfl (WX_q rfl rfl (q_move rfl rfl) (WL_part rfl rfl rfl (fun h2 => ?_) (fun h2 => ?_)))))))
    · try rw [h2]
      try simp only [decide_eq_true_eq, decide_eq_false_iff_not, beq_iff_eq, bne_iff_ne, ne_eq, Bool.not_eq_true', Bool.not_eq_false', beq_eq_false_iff_ne, bne_eq_false_iff_eq, Bool.not_eq_true, Bool.not_eq_false, Int.not_lt, Int.not_le, gt_iff_lt, ge_iff_le, Bool.and_eq_true, Bool.and_eq_false_iff, Bool.or_eq_true, Bool.or_eq_false_iff] at h2
      refine WL_skip rfl rfl rfl rfl rfl rfl (WL_skip rfl rfl rfl rfl rfl rfl (WL_skip rfl rfl rfl rfl rfl rfl (WL_skip rfl rfl rfl rfl rfl rfl (WL_cons rfl (WX_q rfl rfl (q_pick_t rfl rfl rfl) (?_))))))
      refine WL_nil (hK3 _ ?_)
      clear hK3 K3
      refine W_true rfl ?_
      refine W_seq (fun K5 hK5 => ?_)
      refine W_region (WL_cons rfl (WX_q rfl rfl (q_assign rfl rfl) (WL_cons rfl (WX_q rfl rfl (q_assign rfl rfl) (?_)))))
      refine WL_nil (hK5 _ ?_)
      clear hK5 K5
      refine W_ret (fin_many rfl rfl rfl rfl (rcs_cons (rc_v ?_) (rcs_cons (rc_v ?_) rcs_nil)))
      all_goals clear hK2 K2
      all_goals ((try clear hm2) <;> (try clear hm) <;> (first | rfl | (simp_all [nextA]; done) | ((simp only [nextA]; repeat' split) <;> (first | rfl | ((try simp_all [inside_f, inside_t]) <;> omega) | (exfalso; (try simp_all [inside_f, inside_t]) <;> omega)))))
    · try rw [h2]
      try simp only [decide_eq_true_eq, decide_eq_false_iff_not, beq_iff_eq, bne_iff_ne, ne_eq, Bool.not_eq_true', Bool.not_eq_false', beq_eq_false_iff_ne, bne_eq_false_iff_eq, Bool.not_eq_true, Bool.not_eq_false, Int.not_lt, Int.not_le, gt_iff_lt, ge_iff_le, Bool.and_eq_true, Bool.and_eq_false_iff, Bool.or_eq_true, Bool.or_eq_false_iff] at h2
      refine WL_run rfl rfl rfl (WX_q rfl rfl (q_move rfl rfl) (WL_run rfl rfl rfl (WX_q rfl rfl (q_field_ptr G rfl rfl rfl rfl) (WL_run rfl rfl rfl (WX_q rfl rfl (q_load_box G rfl rfl rfl rfl rfl rfl rfl) (WL_run rfl rfl rfl (WX_q rfl rfl (q_cmp rfl rfl rfl rfl) (WL_cons rfl (WX_q rfl rfl (q_pick_f rfl rfl rfl) (?_))))))))))
      refine WL_nil (hK3 _ ?_)
      clear hK3 K3
      refine W_cond rfl (fun h3 => ?_) (fun h3 => ?_)
      · try rw [h3]
        try simp only [decide_eq_true_eq, decide_eq_false_iff_not, beq_iff_eq, bne_iff_ne, ne_eq, Bool.not_eq_true', Bool.not_eq_false', beq_eq_false_iff_ne, bne_eq_false_iff_eq, Bool.not_eq_true, Bool.not_eq_false, Int.not_lt, Int.not_le, gt_iff_lt, ge_iff_le, Bool.and_eq_true, Bool.and_eq_false_iff, Bool.or_eq_true, Bool.or_eq_false_iff] at h3
        refine W_seq (fun K6 hK6 => ?_)
        refine W_region (WL_cons rfl (WX_q rfl rfl (q_assign rfl rfl) (WL_cons rfl (WX_q rfl rfl (q_assign rfl rfl) (?_)))))
        refine WL_nil (hK6 _ ?_)
        clear hK6 K6
        refine W_ret (fin_many rfl rfl rfl rfl (rcs_cons (rc_v ?_) (rcs_cons (rc_v ?_) rcs_nil)))
        all_goals clear hK2 K2
        all_goals ((try clear hm2) <;> (try clear hm) <;> (first | rfl | (simp_all [nextA]; done) | ((simp only [nextA]; repeat' split) <;> (first | rfl | ((try simp_all [inside_f, inside_t]) <;> omega) | (exfalso; (try simp_all [inside_f, inside_t]) <;> omega)))))
      · try rw [h3]
        try simp only [decide_eq_true_eq, decide_eq_false_iff_not, beq_iff_eq, bne_iff_ne, ne_eq, Bool.not_eq_true', Bool.not_eq_false', beq_eq_false_iff_ne, bne_eq_false_iff_eq, Bool.not_eq_true, Bool.not_eq_false, Int.not_lt, Int.not_le, gt_iff_lt, ge_iff_le, Bool.and_eq_true, Bool.and_eq_false_iff, Bool.or_eq_true, Bool.or_eq_false_iff] at h3
        have hb := isB_iff.mp h1
        have hc := inside_t.mp h2
        refine W_skip (hK2 _ ?_)
        clear hK2 K2
        refine W_seq (fun K7 hK7 => ?_)
        refine W_seq (fun K8 hK8 => ?_)
        refine W_region (WL_cons rfl (WX_q rfl rfl (q_field_ptr G rfl rfl rfl rfl) (WL_cons rfl (WX_q rfl rfl (q_load_box G rfl rfl rfl rfl rfl rfl rfl) (WL_cons rfl (WX_q rfl rfl (q_move rfl rfl) (WL_cons rfl (WX_q rfl rfl (q_cmp rfl rfl rfl rfl) (?_)))))))))
        refine WL_nil (hK8 _ ?_)
        clear hK8 K8
        refine W_cond rfl (fun h4 => ?_) (fun h4 => ?_)
        · try rw [h4]
          try simp only [decide_eq_true_eq, decide_eq_false_iff_not, beq_iff_eq, bne_iff_ne, ne_eq, Bool.not_eq_true', Bool.not_eq_false', beq_eq_false_iff_ne, bne_eq_false_iff_eq, Bool.not_eq_true, Bool.not_eq_false, Int.not_lt, Int.not_le, gt_iff_lt, ge_iff_le, Bool.and_eq_true, Bool.and_eq_false_iff, Bool.or_eq_true, Bool.or_eq_false_iff] at h4
          refine W_seq (fun K9 hK9 => ?_)
          refine W_region (WL_cons rfl (WX_q rfl rfl (q_field_ptr G rfl rfl rfl rfl) (WL_cons rfl (WX_q rfl rfl (q_load_box G rfl rfl rfl rfl rfl rfl rfl) (WL_cons rfl (WX_q rfl rfl (q_assign rfl rfl) (WL_cons rfl (WX_q rfl rfl (q_assign rfl rfl) (?_)))))))))
          refine WL_nil (hK9 _ ?_)
          clear hK9 K9
          refine W_ret (fin_many rfl rfl rfl rfl (rcs_cons (rc_v ?_) (rcs_cons (rc_v ?_) rcs_nil)))
          all_goals clear hK7 K7
          all_goals ((try clear hm2) <;> (try clear hm) <;> (first | rfl | (simp_all [nextA]; done) | ((simp only [nextA]; repeat' split) <;> (first | rfl | ((try simp_all [inside_f, inside_t]) <;> omega) | (exfalso; (try simp_all [inside_f, inside_t]) <;> omega)))))
        · try rw [h4]
          try simp only [decide_eq_true_eq, decide_eq_false_iff_not, beq_iff_eq, bne_iff_ne, ne_eq, Bool.not_eq_true', Bool.not_eq_false', beq_eq_false_iff_ne, bne_eq_false_iff_eq, Bool.not_eq_true, Bool.not_eq_false, Int.not_lt, Int.not_le, gt_iff_lt, ge_iff_le, Bool.and_eq_true, Bool.and_eq_false_iff, Bool.or_eq_true, Bool.or_eq_false_iff] at h4
          refine W_skip (hK7 _ ?_)
          clear hK7 K7
          refine W_seq (fun K10 hK10 => ?_)
          refine W_seq (fun K11 hK11 => ?_)
          refine W_region (WL_cons rfl (WX_q rfl rfl (q_field_ptr G rfl rfl rfl rfl) (WL_cons rfl (WX_q rfl rfl (q_load_box G rfl rfl rfl rfl rfl rfl rfl) (WL_cons rfl (WX_q rfl rfl (q_cmp rfl rfl rfl rfl) (?_)))))))
          refine WL_nil (hK11 _ ?_)
          clear hK11 K11
          refine W_cond rfl (fun h5 => ?_) (fun h5 => ?_)
          · try rw [h5]
            try simp only [decide_eq_true_eq, decide_eq_false_iff_not, beq_iff_eq, bne_iff_ne, ne_eq, Bool.not_eq_true', Bool.not_eq_false', beq_eq_false_iff_ne, bne_eq_false_iff_eq, Bool.not_eq_true, Bool.not_eq_false, Int.not_lt, Int.not_le, gt_iff_lt, ge_iff_le, Bool.and_eq_true, Bool.and_eq_false_iff, Bool.or_eq_true, Bool.or_eq_false_iff] at h5
            refine W_seq (fun K12 hK12 => ?_)
            refine W_region (WL_cons rfl (WX_q rfl rfl (q_assign rfl rfl) (WL_cons rfl (WX_q rfl rfl (q_assign rfl rfl) (?_)))))
            refine WL_nil (hK12 _ ?_)
            clear hK12 K12
            refine W_ret (fin_many rfl rfl rfl rfl (rcs_cons (rc_v ?_) (rcs_cons (rc_v ?_) rcs_nil)))
            all_goals clear hK10 K10
            all_goals ((try clear hm2) <;> (try clear hm) <;> (first | rfl | (simp_all [nextA]; done) | ((simp only [nextA]; repeat' split) <;> (first | rfl | ((try simp_all [inside_f, inside_t]) <;> omega) | (exfalso; (try simp_all [inside_f, inside_t]) <;> omega)))))
          · try rw [h5]
            try simp only [decide_eq_true_eq, decide_eq_false_iff_not, beq_iff_eq, bne_iff_ne, ne_eq, Bool.not_eq_true', Bool.not_eq_false', beq_eq_false_iff_ne, bne_eq_false_iff_eq, Bool.not_eq_true, Bool.not_eq_false, Int.not_lt, Int.not_le, gt_iff_lt, ge_iff_le, Bool.and_eq_true, Bool.and_eq_false_iff, Bool.or_eq_true, Bool.or_eq_false_iff] at h5
            have hd := div_le h1 h2 (by omega) h5
            refine W_skip (hK10 _ ?_)
            clear hK10 K10
            refine W_seq (fun K13 hK13 => ?_)
            refine W_draws mixed (by kernel_rfl) (QL_cons rfl (QX_q rfl rfl (q_field_ptr G rfl rfl rfl rfl) (QL_cons rfl (QX_q rfl rfl (q_load_box G rfl rfl rfl rfl rfl rfl rfl) (QL_cons rfl (QX_q rfl rfl (q_move rfl rfl) (QL_cons rfl (QX_q rfl rfl (q_field_ptr G rfl rfl rfl rfl) (QL_cons rfl (QX_q rfl rfl (q_load_box G rfl rfl rfl rfl rfl rfl rfl) (QL_cons rfl (?_))))))))))))
            first | refine QX_q rfl rfl (q_arith rfl rfl rfl rfl (by omega) (by omega)) ?_ | refine QX_q rfl rfl (q_wrap rfl rfl rfl rfl) ?_
            refine QL_cons rfl (QX_q rfl rfl (q_field_ptr G rfl rfl rfl rfl) (QL_cons rfl (QX_q rfl rfl (q_load_box G rfl rfl rfl rfl rfl rfl rfl) (QL_cons rfl (?_)))))
            first | refine QX_q rfl rfl (q_arith rfl rfl rfl rfl (by omega) (by omega)) ?_ | refine QX_q rfl rfl (q_wrap rfl rfl rfl rfl) ?_
            refine QL_cons rfl (?_)
            first | refine QX_q rfl rfl (q_arith rfl rfl rfl rfl (by omega) (by omega)) ?_ | refine QX_q rfl rfl (q_wrap rfl rfl rfl rfl) ?_
            refine QL_cons rfl (QX_q rfl rfl (q_field_ptr G rfl rfl rfl rfl) (QL_cons rfl (QX_q rfl rfl (q_load_box G rfl rfl rfl rfl rfl rfl rfl) (QL_cons rfl (?_)))))
            first | refine QX_q rfl rfl (q_quo_pos rfl rfl rfl (by omega) (by omega) (by omega)) ?_ | refine QX_q rfl rfl (q_quo rfl rfl rfl (by omega)) ?_
            refine QL_cons rfl (?_)
            first | refine QX_q rfl rfl (q_arith rfl rfl rfl rfl (by omega) (by omega)) ?_ | refine QX_q rfl rfl (q_wrap rfl rfl rfl rfl) ?_
            refine QL_cons rfl (QX_q rfl rfl (q_assign rfl rfl) (?_))
            refine QL_nil (hK13 _ ?_)
            clear hK13 K13
            refine W_seq (fun K14 hK14 => ?_)
            refine W_seq (fun K15 hK15 => ?_)
            refine W_region (WL_cons rfl (WX_q rfl rfl (q_move rfl rfl) (WL_cons rfl (WX_q rfl rfl (q_cmp rfl rfl rfl rfl) (?_)))))
            refine WL_nil (hK15 _ ?_)
            clear hK15 K15
            refine W_cond rfl (fun h6 => ?_) (fun h6 => ?_)
            · try rw [h6]
              try simp only [decide_eq_true_eq, decide_eq_false_iff_not, beq_iff_eq, bne_iff_ne, ne_eq, Bool.not_eq_true', Bool.not_eq_false', beq_eq_false_iff_ne, bne_eq_false_iff_eq, Bool.not_eq_true, Bool.not_eq_false, Int.not_lt, Int.not_le, gt_iff_lt, ge_iff_le, Bool.and_eq_true, Bool.and_eq_false_iff, Bool.or_eq_true, Bool.or_eq_false_iff] at h6
              refine W_seq (fun K16 hK16 => ?_)
              refine W_region (WL_cons rfl (WX_q rfl rfl (q_assign rfl rfl) (WL_cons rfl (WX_q rfl rfl (q_assign rfl rfl) (?_)))))
              refine WL_nil (hK16 _ ?_)
              clear hK16 K16
              refine W_ret (fin_many rfl rfl rfl rfl (rcs_cons (rc_v ?_) (rcs_cons (rc_v ?_) rcs_nil)))
              all_goals clear hK14 K14
              all_goals ((try clear hm2) <;> (try clear hm) <;> (first | rfl | (simp_all [nextA]; done) | ((simp only [nextA]; repeat' split) <;> (first | rfl | ((try simp_all [inside_f, inside_t]) <;> omega) | (exfalso; (try simp_all [inside_f, inside_t]) <;> omega)))))
            · try rw [h6]
              try simp only [decide_eq_true_eq, decide_eq_false_iff_not, beq_iff_eq, bne_iff_ne, ne_eq, Bool.not_eq_true', Bool.not_eq_false', beq_eq_false_iff_ne, bne_eq_false_iff_eq, Bool.not_eq_true, Bool.not_eq_false, Int.not_lt, Int.not_le, gt_iff_lt, ge_iff_le, Bool.and_eq_true, Bool.and_eq_false_iff, Bool.or_eq_true, Bool.or_eq_false_iff] at h6
              refine W_skip (hK14 _ ?_)
              clear hK14 K14
              refine W_seq (fun K17 hK17 => ?_)
              refine W_region (WL_cons rfl (WX_q rfl rfl (q_move rfl rfl) (WL_cons rfl (WX_q rfl rfl (q_assign rfl rfl) (WL_cons rfl (WX_q rfl rfl (q_assign rfl rfl) (?_)))))))
              refine WL_nil (hK17 _ ?_)
              clear hK17 K17
              refine W_ret (fin_many rfl rfl rfl rfl (rcs_cons (rc_v ?_) (rcs_cons (rc_v ?_) rcs_nil)))
              all_goals ((try clear hm2) <;> (try clear hm) <;> (first | rfl | (simp_all [nextA]; done) | ((simp only [nextA]; repeat' split) <;> (first | rfl | ((try simp_all [inside_f, inside_t]) <;> omega) | (exfalso; (try simp_all [inside_f, inside_t]) <;> omega)))))

theorem c_impl_NextAllowed (x : Bucket) (c : Int) : Ctr Try.prog 17 [.v (encB x), .v (.int .i64 c)] (.many [.v (.int .i64 (nextA x c).1), .v (.bool (nextA x c).2)]) := by
  refine Ctr.of (n := 52) G Try.func17 rfl (by kernel_rfl) rfl rfl rfl (fun w0 => ?_)
  refine W_seq (fun K1 hK1 => ?_)
  refine W_region (WL_cons rfl (WX_box 1 rfl rfl rfl rfl rfl rfl rfl (WL_cons rfl (WX_q rfl rfl (q_assign rfl rfl) (WL_cons rfl (WX_q rfl rfl (q_assign rfl rfl) (?_)))))))
  refine WL_nil (hK1 _ ?_)
  clear hK1 K1
  refine W_seq (fun K2 hK2 => ?_)
  refine W_seq (fun K3 hK3 => ?_)
  refine W_region (WL_cons rfl (WX_q rfl rfl (q_load_box_struct G rfl rfl rfl rfl rfl rfl) (WL_cons rfl (?_))))
  refine WX_q rfl rfl (q_call rfl (ArgsOK.of rfl) (c_impl_IsBucket _) rfl) ?_
  refine WL_cons rfl (WX_q rfl rfl (q_not rfl rfl) (WL_cons rfl (WX_q rfl rfl (q_move rfl rfl) (WL_part rfl rfl rfl (fun h1 => ?_) (fun h1 => ?_)))))
  · try rw [h1]
    try simp only [decide_eq_true_eq, decide_eq_false_iff_not, beq_iff_eq, bne_iff_ne, ne_eq, Bool.not_eq_true', Bool.not_eq_false', beq_eq_false_iff_ne, bne_eq_false_iff_eq, Bool.not_eq_true, Bool.not_eq_false, Int.not_lt, Int.not_le, gt_iff_lt, ge_iff_le, Bool.and_eq_true, Bool.and_eq_false_iff, Bool.or_eq_true, Bool.or_eq_false_iff] at h1
    refine WL_skip rfl rfl rfl rfl rfl rfl (WL_skip rfl rfl rfl rfl rfl rfl (WL_skip rfl rfl rfl rfl rfl rfl (WL_cons rfl (WX_q rfl rfl (q_pick_t rfl rfl rfl) (WL_cons rfl (WX_q rfl rfl (q_move rfl rfl) (WL_skip rfl rfl rfl rfl rfl rfl (WL_skip rfl rfl rfl rfl rfl rfl (WL_skip rfl rfl rfl rfl rfl rfl (WL_skip rfl rfl rfl rfl rfl rfl (WL_cons rfl (WX_q rfl rfl (q_pick_t rfl rfl rfl) (?_)))))))))))))
    refine WL_nil (hK3 _ ?_)
    clear hK3 K3
    refine W_true rfl ?_
    refine W_seq (fun K4 hK4 => ?_)
    refine W_region (WL_cons rfl (WX_q rfl rfl (q_assign rfl rfl) (WL_cons rfl (WX_q rfl rfl (q_assign rfl rfl) (?_)))))
    refine WL_nil (hK4 _ ?_)
    clear hK4 K4
    refine W_ret (fin_many rfl rfl rfl rfl (rcs_cons (rc_v ?_) (rcs_cons (rc_v ?_) rcs_nil)))
    all_goals clear hK2 K2
    all_goals ((try clear hm2) <;> (try clear hm) <;> (first | rfl | (simp_all [nextA]; done) | ((simp only [nextA]; repeat' split) <;> (first | rfl | ((try simp_all [inside_f, inside_t]) <;> omega) | (exfalso; (try simp_all [inside_f, inside_t]) <;> omega)))))
  · try rw [h1]
    try simp only [decide_eq_true_eq, decide_eq_false_iff_not, beq_iff_eq, bne_iff_ne, ne_eq, Bool.not_eq_true', Bool.not_eq_false', beq_eq_false_iff_ne, bne_eq_false_iff_eq, Bool.not_eq_true, Bool.not_eq_false, Int.not_lt, Int.not_le, gt_iff_lt, ge_iff_le, Bool.and_eq_true, Bool.and_eq_false_iff, Bool.or_eq_true, Bool.or_eq_false_iff] at h1
    refine WL_run rfl rfl rfl (WX_q rfl rfl (q_move rfl rfl) (WL_run rfl rfl rfl (?_)))
    refine WX_q rfl rfl (q_call rfl (ArgsOK.of rfl) (c_impl_isCost _) rfl) ?_
    refine WL_run rfl rfl rfl (WX_q rfl rfl (q_not rfl rfl) (WL_cons rfl (WX_q rfl rfl (q_pick_f rfl rfl rfl) (WL_cons rfl (WX_q rfl rfl (q_move rfl rfl) (WL_part rfl rfl rfl (fun h2 => ?_) (fun h2 => ?_)))))))
    · try rw [h2]
      try simp only [decide_eq_true_eq, decide_eq_false_iff_not, beq_iff_eq, bne_iff_ne, ne_eq, Bool.not_eq_true', Bool.not_eq_false', beq_eq_false_iff_ne, bne_eq_false_iff_eq, Bool.not_eq_true, Bool.not_eq_false, Int.not_lt, Int.not_le, gt_iff_lt, ge_iff_le, Bool.and_eq_true, Bool.and_eq_false_iff, Bool.or_eq_true, Bool.or_eq_false_iff] at h2
      refine WL_skip rfl rfl rfl rfl rfl rfl (WL_skip rfl rfl rfl rfl rfl rfl (WL_skip rfl rfl rfl rfl rfl rfl (WL_skip rfl rfl rfl rfl rfl rfl (WL_cons rfl (WX_q rfl rfl (q_pick_t rfl rfl rfl) (?_))))))
      refine WL_nil (hK3 _ ?_)
      clear hK3 K3
      refine W_true rfl ?_
      refine W_seq (fun K5 hK5 => ?_)
      refine W_region (WL_cons rfl (WX_q rfl rfl (q_assign rfl rfl) (WL_cons rfl (WX_q rfl rfl (q_assign rfl rfl) (?_)))))
      refine WL_nil (hK5 _ ?_)
      clear hK5 K5
      refine W_ret (fin_many rfl rfl rfl rfl (rcs_cons (rc_v ?_) (rcs_cons (rc_v ?_) rcs_nil)))
      all_goals clear hK2 K2
      all_goals ((try clear hm2) <;> (try clear hm) <;> (first | rfl | (simp_all [nextA]; done) | ((simp only [nextA]; repeat' split) <;> (first | rfl | ((try simp_all [inside_f, inside_t]) <;> omega) | (exfalso; (try simp_all [inside_f, inside_t]) <;> omega)))))
    · try rw [h2]
      try simp only [decide_eq_true_eq, decide_eq_false_iff_not, beq_iff_eq, bne_iff_ne, ne_eq, Bool.not_eq_true', Bool.not_eq_false', beq_eq_false_iff_ne, bne_eq_false_iff_eq, Bool.not_eq_true, Bool.not_eq_false, Int.not_lt, Int.not_le, gt_iff_lt, ge_iff_le, Bool.and_eq_true, Bool.and_eq_false_iff, Bool.or_eq_true, Bool.or_eq_false_iff] at h2
      refine WL_run rfl rfl rfl (WX_q rfl rfl (q_move rfl rfl) (WL_run rfl rfl rfl (WX_q rfl rfl (q_field_ptr G rfl rfl rfl rfl) (WL_run rfl rfl rfl (WX_q rfl rfl (q_load_box G rfl rfl rfl rfl rfl rfl rfl) (WL_run rfl rfl rfl (WX_q rfl rfl (q_cmp rfl rfl rfl rfl) (WL_cons rfl (WX_q rfl rfl (q_pick_f rfl rfl rfl) (?_))))))))))
      refine WL_nil (hK3 _ ?_)
      clear hK3 K3
      refine W_cond rfl (fun h3 => ?_) (fun h3 => ?_)
      · try rw [h3]
        try simp only [decide_eq_true_eq, decide_eq_false_iff_not, beq_iff_eq, bne_iff_ne, ne_eq, Bool.not_eq_true', Bool.not_eq_false', beq_eq_false_iff_ne, bne_eq_false_iff_eq, Bool.not_eq_true, Bool.not_eq_false, Int.not_lt, Int.not_le, gt_iff_lt, ge_iff_le, Bool.and_eq_true, Bool.and_eq_false_iff, Bool.or_eq_true, Bool.or_eq_false_iff] at h3
        refine W_seq (fun K6 hK6 => ?_)
        refine W_region (WL_cons rfl (WX_q rfl rfl (q_assign rfl rfl) (WL_cons rfl (WX_q rfl rfl (q_assign rfl rfl) (?_)))))
        refine WL_nil (hK6 _ ?_)
        clear hK6 K6
        refine W_ret (fin_many rfl rfl rfl rfl (rcs_cons (rc_v ?_) (rcs_cons (rc_v ?_) rcs_nil)))
        all_goals clear hK2 K2
        all_goals ((try clear hm2) <;> (try clear hm) <;> (first | rfl | (simp_all [nextA]; done) | ((simp only [nextA]; repeat' split) <;> (first | rfl | ((try simp_all [inside_f, inside_t]) <;> omega) | (exfalso; (try simp_all [inside_f, inside_t]) <;> omega)))))
      · try rw [h3]
        try simp only [decide_eq_true_eq, decide_eq_false_iff_not, beq_iff_eq, bne_iff_ne, ne_eq, Bool.not_eq_true', Bool.not_eq_false', beq_eq_false_iff_ne, bne_eq_false_iff_eq, Bool.not_eq_true, Bool.not_eq_false, Int.not_lt, Int.not_le, gt_iff_lt, ge_iff_le, Bool.and_eq_true, Bool.and_eq_false_iff, Bool.or_eq_true, Bool.or_eq_false_iff] at h3
        have hb := isB_iff.mp h1
        have hc := inside_t.mp h2
        refine W_skip (hK2 _ ?_)
        clear hK2 K2
        refine W_seq (fun K7 hK7 => ?_)
        refine W_region (WL_cons rfl (WX_q rfl rfl (q_move rfl rfl) (WL_cons rfl (WX_q rfl rfl (q_field_ptr G rfl rfl rfl rfl) (WL_cons rfl (WX_q rfl rfl (q_load_box G rfl rfl rfl rfl rfl rfl rfl) (WL_cons rfl (?_))))))))
        first | refine WX_q rfl rfl (q_arith rfl rfl rfl rfl (by omega) (by omega)) ?_ | refine WX_q rfl rfl (q_wrap rfl rfl rfl rfl) ?_
        refine WL_cons rfl (WX_q rfl rfl (q_max' rfl rfl rfl) (WL_cons rfl (WX_q rfl rfl (q_assign rfl rfl) (?_))))
        refine WL_nil (hK7 _ ?_)
        clear hK7 K7
        refine W_seq (fun K8 hK8 => ?_)
        refine W_seq (fun K9 hK9 => ?_)
        refine W_region (WL_cons rfl (WX_q rfl rfl (q_move rfl rfl) (WL_cons rfl (WX_q rfl rfl (q_cmp rfl rfl rfl rfl) (WL_cons rfl (WX_q rfl rfl (q_move rfl rfl) (WL_part rfl rfl rfl (fun h4 => ?_) (fun h4 => ?_))))))))
        · try rw [h4]
          try simp only [decide_eq_true_eq, decide_eq_false_iff_not, beq_iff_eq, bne_iff_ne, ne_eq, Bool.not_eq_true', Bool.not_eq_false', beq_eq_false_iff_ne, bne_eq_false_iff_eq, Bool.not_eq_true, Bool.not_eq_false, Int.not_lt, Int.not_le, gt_iff_lt, ge_iff_le, Bool.and_eq_true, Bool.and_eq_false_iff, Bool.or_eq_true, Bool.or_eq_false_iff] at h4
          have hm : max (c - x.h) 0 = c - x.h := by omega
          have hm2 : (if c - x.h ≤ 0 then (0 : Int) else c - x.h) = c - x.h := by split <;> omega
          try simp only [hm, hm2] at h4
          try simp only [hm, hm2]
          refine WL_run rfl rfl rfl (WX_q rfl rfl (q_field_ptr G rfl rfl rfl rfl) (WL_run rfl rfl rfl (WX_q rfl rfl (q_load_box G rfl rfl rfl rfl rfl rfl rfl) (WL_run rfl rfl rfl (WX_q rfl rfl (q_cmp rfl rfl rfl rfl) (WL_cons rfl (WX_q rfl rfl (q_pick_t rfl rfl rfl) (?_))))))))
          refine WL_nil (hK9 _ ?_)
          clear hK9 K9
          refine W_cond rfl (fun h5 => ?_) (fun h5 => ?_)
          · try rw [h5]
            try simp only [decide_eq_true_eq, decide_eq_false_iff_not, beq_iff_eq, bne_iff_ne, ne_eq, Bool.not_eq_true', Bool.not_eq_false', beq_eq_false_iff_ne, bne_eq_false_iff_eq, Bool.not_eq_true, Bool.not_eq_false, Int.not_lt, Int.not_le, gt_iff_lt, ge_iff_le, Bool.and_eq_true, Bool.and_eq_false_iff, Bool.or_eq_true, Bool.or_eq_false_iff] at h5
            refine W_seq (fun K10 hK10 => ?_)
            refine W_region (WL_cons rfl (WX_q rfl rfl (q_assign rfl rfl) (WL_cons rfl (WX_q rfl rfl (q_assign rfl rfl) (?_)))))
            refine WL_nil (hK10 _ ?_)
            clear hK10 K10
            refine W_ret (fin_many rfl rfl rfl rfl (rcs_cons (rc_v ?_) (rcs_cons (rc_v ?_) rcs_nil)))
            all_goals clear hK8 K8
            all_goals ((try clear hm2) <;> (try clear hm) <;> (first | rfl | (simp_all [nextA]; done) | ((simp only [nextA]; repeat' split) <;> (first | rfl | ((try simp_all [inside_f, inside_t]) <;> omega) | (exfalso; (try simp_all [inside_f, inside_t]) <;> omega)))))
          · try rw [h5]
            try simp only [decide_eq_true_eq, decide_eq_false_iff_not, beq_iff_eq, bne_iff_ne, ne_eq, Bool.not_eq_true', Bool.not_eq_false', beq_eq_false_iff_ne, bne_eq_false_iff_eq, Bool.not_eq_true, Bool.not_eq_false, Int.not_lt, Int.not_le, gt_iff_lt, ge_iff_le, Bool.and_eq_true, Bool.and_eq_false_iff, Bool.or_eq_true, Bool.or_eq_false_iff] at h5
            have hd := div_le h1 h2 (by omega) h5
            refine W_skip (hK8 _ ?_)
            clear hK8 K8
            refine W_seq (fun K11 hK11 => ?_)
            refine W_region (WL_cons rfl (WX_q rfl rfl (q_field_ptr G rfl rfl rfl rfl) (WL_cons rfl (WX_q rfl rfl (q_load_box G rfl rfl rfl rfl rfl rfl rfl) (WL_cons rfl (WX_q rfl rfl (q_assign rfl rfl) (?_)))))))
            refine WL_nil (hK11 _ ?_)
            clear hK11 K11
            refine W_seq (fun K12 hK12 => ?_)
            refine W_seq (fun K13 hK13 => ?_)
            refine W_region (WL_cons rfl (WX_q rfl rfl (q_move rfl rfl) (WL_cons rfl (WX_q rfl rfl (q_cmp rfl rfl rfl rfl) (?_)))))
            refine WL_nil (hK13 _ ?_)
            clear hK13 K13
            refine W_cond rfl (fun h6 => ?_) (fun h6 => ?_)
            · try rw [h6]
              try simp only [decide_eq_true_eq, decide_eq_false_iff_not, beq_iff_eq, bne_iff_ne, ne_eq, Bool.not_eq_true', Bool.not_eq_false', beq_eq_false_iff_ne, bne_eq_false_iff_eq, Bool.not_eq_true, Bool.not_eq_false, Int.not_lt, Int.not_le, gt_iff_lt, ge_iff_le, Bool.and_eq_true, Bool.and_eq_false_iff, Bool.or_eq_true, Bool.or_eq_false_iff] at h6
              refine W_region (WL_cons rfl (WX_q rfl rfl (q_move rfl rfl) (WL_cons rfl (WX_q rfl rfl (q_move rfl rfl) (WL_cons rfl (WX_q rfl rfl (q_field_ptr G rfl rfl rfl rfl) (WL_cons rfl (WX_q rfl rfl (q_load_box G rfl rfl rfl rfl rfl rfl rfl) (WL_cons rfl (?_))))))))))
              first | refine WX_q rfl rfl (q_arith rfl rfl rfl rfl (by omega) (by omega)) ?_ | refine WX_q rfl rfl (q_wrap rfl rfl rfl rfl) ?_
              refine WL_cons rfl (?_)
              first | refine WX_q rfl rfl (q_arith rfl rfl rfl rfl (by omega) (by omega)) ?_ | refine WX_q rfl rfl (q_wrap rfl rfl rfl rfl) ?_
              refine WL_cons rfl (WX_q rfl rfl (q_field_ptr G rfl rfl rfl rfl) (WL_cons rfl (WX_q rfl rfl (q_load_box G rfl rfl rfl rfl rfl rfl rfl) (WL_cons rfl (?_)))))
              first | refine WX_q rfl rfl (q_quo_pos rfl rfl rfl (by omega) (by omega) (by omega)) ?_ | refine WX_q rfl rfl (q_quo rfl rfl rfl (by omega)) ?_
              refine WL_cons rfl (?_)
              first | refine WX_q rfl rfl (q_arith rfl rfl rfl rfl (by omega) (by omega)) ?_ | refine WX_q rfl rfl (q_wrap rfl rfl rfl rfl) ?_
              refine WL_cons rfl (WX_q rfl rfl (q_assign rfl rfl) (?_))
              refine WL_nil (hK12 _ ?_)
              clear hK12 K12
              refine W_seq (fun K14 hK14 => ?_)
              refine W_seq (fun K15 hK15 => ?_)
              refine W_region (WL_cons rfl (WX_q rfl rfl (q_move rfl rfl) (WL_cons rfl (?_))))
              refine WX_q rfl rfl (q_call rfl (ArgsOK.of rfl) (c_impl_isTick _) rfl) ?_
              refine WL_cons rfl (WX_q rfl rfl (q_not rfl rfl) (?_))
              refine WL_nil (hK15 _ ?_)
              clear hK15 K15
              refine W_cond rfl (fun h7 => ?_) (fun h7 => ?_)
              · try rw [h7]
                try simp only [decide_eq_true_eq, decide_eq_false_iff_not, beq_iff_eq, bne_iff_ne, ne_eq, Bool.not_eq_true', Bool.not_eq_false', beq_eq_false_iff_ne, bne_eq_false_iff_eq, Bool.not_eq_true, Bool.not_eq_false, Int.not_lt, Int.not_le, gt_iff_lt, ge_iff_le, Bool.and_eq_true, Bool.and_eq_false_iff, Bool.or_eq_true, Bool.or_eq_false_iff] at h7
                refine W_seq (fun K16 hK16 => ?_)
                refine W_region (WL_cons rfl (WX_q rfl rfl (q_assign rfl rfl) (WL_cons rfl (WX_q rfl rfl (q_assign rfl rfl) (?_)))))
                refine WL_nil (hK16 _ ?_)
                clear hK16 K16
                refine W_ret (fin_many rfl rfl rfl rfl (rcs_cons (rc_v ?_) (rcs_cons (rc_v ?_) rcs_nil)))
                all_goals clear hK14 K14
                all_goals ((try clear hm2) <;> (try clear hm) <;> (first | rfl | (simp_all [nextA]; done) | ((simp only [nextA]; repeat' split) <;> (first | rfl | ((try simp_all [inside_f, inside_t]) <;> omega) | (exfalso; (try simp_all [inside_f, inside_t]) <;> omega)))))
              · try rw [h7]
                try simp only [decide_eq_true_eq, decide_eq_false_iff_not, beq_iff_eq, bne_iff_ne, ne_eq, Bool.not_eq_true', Bool.not_eq_false', beq_eq_false_iff_ne, bne_eq_false_iff_eq, Bool.not_eq_true, Bool.not_eq_false, Int.not_lt, Int.not_le, gt_iff_lt, ge_iff_le, Bool.and_eq_true, Bool.and_eq_false_iff, Bool.or_eq_true, Bool.or_eq_false_iff] at h7
                refine W_skip (hK14 _ ?_)
                clear hK14 K14
                refine W_seq (fun K17 hK17 => ?_)
                refine W_region (WL_cons rfl (WX_q rfl rfl (q_move rfl rfl) (WL_cons rfl (WX_q rfl rfl (q_assign rfl rfl) (WL_cons rfl (WX_q rfl rfl (q_assign rfl rfl) (?_)))))))
                refine WL_nil (hK17 _ ?_)
                clear hK17 K17
                refine W_ret (fin_many rfl rfl rfl rfl (rcs_cons (rc_v ?_) (rcs_cons (rc_v ?_) rcs_nil)))
                all_goals ((try clear hm2) <;> (try clear hm) <;> (first | rfl | (simp_all [nextA]; done) | ((simp only [nextA]; repeat' split) <;> (first | rfl | ((try simp_all [inside_f, inside_t]) <;> omega) | (exfalso; (try simp_all [inside_f, inside_t]) <;> omega)))))
            · try rw [h6]
              try simp only [decide_eq_true_eq, decide_eq_false_iff_not, beq_iff_eq, bne_iff_ne, ne_eq, Bool.not_eq_true', Bool.not_eq_false', beq_eq_false_iff_ne, bne_eq_false_iff_eq, Bool.not_eq_true, Bool.not_eq_false, Int.not_lt, Int.not_le, gt_iff_lt, ge_iff_le, Bool.and_eq_true, Bool.and_eq_false_iff, Bool.or_eq_true, Bool.or_eq_false_iff] at h6
              refine W_skip (hK12 _ ?_)
              clear hK12 K12
              refine W_seq (fun K18 hK18 => ?_)
              refine W_seq (fun K19 hK19 => ?_)
              refine W_region (WL_cons rfl (WX_q rfl rfl (q_move rfl rfl) (WL_cons rfl (?_))))
              refine WX_q rfl rfl (q_call rfl (ArgsOK.of rfl) (c_impl_isTick _) rfl) ?_
              refine WL_cons rfl (WX_q rfl rfl (q_not rfl rfl) (?_))
              refine WL_nil (hK19 _ ?_)
              clear hK19 K19
              refine W_cond rfl (fun h8 => ?_) (fun h8 => ?_)
              · try rw [h8]
                try simp only [decide_eq_true_eq, decide_eq_false_iff_not, beq_iff_eq, bne_iff_ne, ne_eq, Bool.not_eq_true', Bool.not_eq_false', beq_eq_false_iff_ne, bne_eq_false_iff_eq, Bool.not_eq_true, Bool.not_eq_false, Int.not_lt, Int.not_le, gt_iff_lt, ge_iff_le, Bool.and_eq_true, Bool.and_eq_false_iff, Bool.or_eq_true, Bool.or_eq_false_iff] at h8
                refine W_seq (fun K20 hK20 => ?_)
                refine W_region (WL_cons rfl (WX_q rfl rfl (q_assign rfl rfl) (WL_cons rfl (WX_q rfl rfl (q_assign rfl rfl) (?_)))))
                refine WL_nil (hK20 _ ?_)
                clear hK20 K20
                refine W_ret (fin_many rfl rfl rfl rfl (rcs_cons (rc_v ?_) (rcs_cons (rc_v ?_) rcs_nil)))
                all_goals clear hK18 K18
                all_goals ((try clear hm2) <;> (try clear hm) <;> (first | rfl | (simp_all [nextA]; done) | ((simp only [nextA]; repeat' split) <;> (first | rfl | ((try simp_all [inside_f, inside_t]) <;> omega) | (exfalso; (try simp_all [inside_f, inside_t]) <;> omega)))))
              · try rw [h8]
                try simp only [decide_eq_true_eq, decide_eq_false_iff_not, beq_iff_eq, bne_iff_ne, ne_eq, Bool.not_eq_true', Bool.not_eq_false', beq_eq_false_iff_ne, bne_eq_false_iff_eq, Bool.not_eq_true, Bool.not_eq_false, Int.not_lt, Int.not_le, gt_iff_lt, ge_iff_le, Bool.and_eq_true, Bool.and_eq_false_iff, Bool.or_eq_true, Bool.or_eq_false_iff] at h8
                refine W_skip (hK18 _ ?_)
                clear hK18 K18
                refine W_seq (fun K21 hK21 => ?_)
                refine W_region (WL_cons rfl (WX_q rfl rfl (q_move rfl rfl) (WL_cons rfl (WX_q rfl rfl (q_assign rfl rfl) (WL_cons rfl (WX_q rfl rfl (q_assign rfl rfl) (?_)))))))
                refine WL_nil (hK21 _ ?_)
                clear hK21 K21
                refine W_ret (fin_many rfl rfl rfl rfl (rcs_cons (rc_v ?_) (rcs_cons (rc_v ?_) rcs_nil)))
                all_goals ((try clear hm2) <;> (try clear hm) <;> (first | rfl | (simp_all [nextA]; done) | ((simp only [nextA]; repeat' split) <;> (first | rfl | ((try simp_all [inside_f, inside_t]) <;> omega) | (exfalso; (try simp_all [inside_f, inside_t]) <;> omega)))))
        · try rw [h4]
          try simp only [decide_eq_true_eq, decide_eq_false_iff_not, beq_iff_eq, bne_iff_ne, ne_eq, Bool.not_eq_true', Bool.not_eq_false', beq_eq_false_iff_ne, bne_eq_false_iff_eq, Bool.not_eq_true, Bool.not_eq_false, Int.not_lt, Int.not_le, gt_iff_lt, ge_iff_le, Bool.and_eq_true, Bool.and_eq_false_iff, Bool.or_eq_true, Bool.or_eq_false_iff] at h4
          have hch : c ≤ x.h := by omega
          have hm : max (c - x.h) 0 = 0 := by omega
          have hm2 : (if c - x.h ≤ 0 then (0 : Int) else c - x.h) = 0 := by split <;> omega
          try simp only [hm, hm2] at h4
          try simp only [hm, hm2]
          refine WL_skip rfl rfl rfl rfl rfl rfl (WL_skip rfl rfl rfl rfl rfl rfl (WL_skip rfl rfl rfl rfl rfl rfl (WL_cons rfl (WX_q rfl rfl (q_pick_f rfl rfl rfl) (?_)))))
          refine WL_nil (hK9 _ ?_)
          clear hK9 K9
          refine W_false rfl ?_
          refine W_skip (hK8 _ ?_)
          clear hK8 K8
          refine W_seq (fun K22 hK22 => ?_)
          refine W_region (WL_cons rfl (WX_q rfl rfl (q_field_ptr G rfl rfl rfl rfl) (WL_cons rfl (WX_q rfl rfl (q_load_box G rfl rfl rfl rfl rfl rfl rfl) (WL_cons rfl (WX_q rfl rfl (q_assign rfl rfl) (?_)))))))
          refine WL_nil (hK22 _ ?_)
          clear hK22 K22
          refine W_seq (fun K23 hK23 => ?_)
          refine W_seq (fun K24 hK24 => ?_)
          refine W_region (WL_cons rfl (WX_q rfl rfl (q_move rfl rfl) (WL_cons rfl (WX_q rfl rfl (q_cmp rfl rfl rfl rfl) (?_)))))
          refine WL_nil (hK24 _ ?_)
          clear hK24 K24
          refine W_cond rfl (fun h9 => ?_) (fun h9 => ?_)
          · try rw [h9]
            try simp only [decide_eq_true_eq, decide_eq_false_iff_not, beq_iff_eq, bne_iff_ne, ne_eq, Bool.not_eq_true', Bool.not_eq_false', beq_eq_false_iff_ne, bne_eq_false_iff_eq, Bool.not_eq_true, Bool.not_eq_false, Int.not_lt, Int.not_le, gt_iff_lt, ge_iff_le, Bool.and_eq_true, Bool.and_eq_false_iff, Bool.or_eq_true, Bool.or_eq_false_iff] at h9
            refine W_region (WL_cons rfl (WX_q rfl rfl (q_move rfl rfl) (WL_cons rfl (WX_q rfl rfl (q_move rfl rfl) (WL_cons rfl (WX_q rfl rfl (q_field_ptr G rfl rfl rfl rfl) (WL_cons rfl (WX_q rfl rfl (q_load_box G rfl rfl rfl rfl rfl rfl rfl) (WL_cons rfl (?_))))))))))
            first | refine WX_q rfl rfl (q_arith rfl rfl rfl rfl (by omega) (by omega)) ?_ | refine WX_q rfl rfl (q_wrap rfl rfl rfl rfl) ?_
            refine WL_cons rfl (?_)
            first | refine WX_q rfl rfl (q_arith rfl rfl rfl rfl (by omega) (by omega)) ?_ | refine WX_q rfl rfl (q_wrap rfl rfl rfl rfl) ?_
            refine WL_cons rfl (WX_q rfl rfl (q_field_ptr G rfl rfl rfl rfl) (WL_cons rfl (WX_q rfl rfl (q_load_box G rfl rfl rfl rfl rfl rfl rfl) (WL_cons rfl (?_)))))
            first | refine WX_q rfl rfl (q_quo_pos rfl rfl rfl (by omega) (by omega) (by omega)) ?_ | refine WX_q rfl rfl (q_quo rfl rfl rfl (by omega)) ?_
            refine WL_cons rfl (?_)
            first | refine WX_q rfl rfl (q_arith rfl rfl rfl rfl (by omega) (by omega)) ?_ | refine WX_q rfl rfl (q_wrap rfl rfl rfl rfl) ?_
            refine WL_cons rfl (WX_q rfl rfl (q_assign rfl rfl) (?_))
            refine WL_nil (hK23 _ ?_)
            clear hK23 K23
            refine W_seq (fun K25 hK25 => ?_)
            refine W_seq (fun K26 hK26 => ?_)
            refine W_region (WL_cons rfl (WX_q rfl rfl (q_move rfl rfl) (WL_cons rfl (?_))))
            refine WX_q rfl rfl (q_call rfl (ArgsOK.of rfl) (c_impl_isTick _) rfl) ?_
            refine WL_cons rfl (WX_q rfl rfl (q_not rfl rfl) (?_))
            refine WL_nil (hK26 _ ?_)
            clear hK26 K26
            refine W_cond rfl (fun h10 => ?_) (fun h10 => ?_)
            · try rw [h10]
              try simp only [decide_eq_true_eq, decide_eq_false_iff_not, beq_iff_eq, bne_iff_ne, ne_eq, Bool.not_eq_true', Bool.not_eq_false', beq_eq_false_iff_ne, bne_eq_false_iff_eq, Bool.not_eq_true, Bool.not_eq_false, Int.not_lt, Int.not_le, gt_iff_lt, ge_iff_le, Bool.and_eq_true, Bool.and_eq_false_iff, Bool.or_eq_true, Bool.or_eq_false_iff] at h10
              refine W_seq (fun K27 hK27 => ?_)
              refine W_region (WL_cons rfl (WX_q rfl rfl (q_assign rfl rfl) (WL_cons rfl (WX_q rfl rfl (q_assign rfl rfl) (?_)))))
              refine WL_nil (hK27 _ ?_)
              clear hK27 K27
              refine W_ret (fin_many rfl rfl rfl rfl (rcs_cons (rc_v ?_) (rcs_cons (rc_v ?_) rcs_nil)))
              all_goals clear hK25 K25
              all_goals ((try clear hm2) <;> (try clear hm) <;> (first | rfl | (simp_all [nextA]; done) | ((simp only [nextA]; repeat' split) <;> (first | rfl | ((try simp_all [inside_f, inside_t]) <;> omega) | (exfalso; (try simp_all [inside_f, inside_t]) <;> omega)))))
            · try rw [h10]
              try simp only [decide_eq_true_eq, decide_eq_false_iff_not, beq_iff_eq, bne_iff_ne, ne_eq, Bool.not_eq_true', Bool.not_eq_false', beq_eq_false_iff_ne, bne_eq_false_iff_eq, Bool.not_eq_true, Bool.not_eq_false, Int.not_lt, Int.not_le, gt_iff_lt, ge_iff_le, Bool.and_eq_true, Bool.and_eq_false_iff, Bool.or_eq_true, Bool.or_eq_false_iff] at h10
              refine W_skip (hK25 _ ?_)
              clear hK25 K25
              refine W_seq (fun K28 hK28 => ?_)
              refine W_region (WL_cons rfl (WX_q rfl rfl (q_move rfl rfl) (WL_cons rfl (WX_q rfl rfl (q_assign rfl rfl) (WL_cons rfl (WX_q rfl rfl (q_assign rfl rfl) (?_)))))))
              refine WL_nil (hK28 _ ?_)
              clear hK28 K28
              refine W_ret (fin_many rfl rfl rfl rfl (rcs_cons (rc_v ?_) (rcs_cons (rc_v ?_) rcs_nil)))
              all_goals ((try clear hm2) <;> (try clear hm) <;> (first | rfl | (simp_all [nextA]; done) | ((simp only [nextA]; repeat' split) <;> (first | rfl | ((try simp_all [inside_f, inside_t]) <;> omega) | (exfalso; (try simp_all [inside_f, inside_t]) <;> omega)))))
          · try rw [h9]
            try simp only [decide_eq_true_eq, decide_eq_false_iff_not, beq_iff_eq, bne_iff_ne, ne_eq, Bool.not_eq_true', Bool.not_eq_false', beq_eq_false_iff_ne, bne_eq_false_iff_eq, Bool.not_eq_true, Bool.not_eq_false, Int.not_lt, Int.not_le, gt_iff_lt, ge_iff_le, Bool.and_eq_true, Bool.and_eq_false_iff, Bool.or_eq_true, Bool.or_eq_false_iff] at h9
            refine W_skip (hK23 _ ?_)
            clear hK23 K23
            refine W_seq (fun K29 hK29 => ?_)
            refine W_seq (fun K30 hK30 => ?_)
            refine W_region (WL_cons rfl (WX_q rfl rfl (q_move rfl rfl) (WL_cons rfl (?_))))
            refine WX_q rfl rfl (q_call rfl (ArgsOK.of rfl) (c_impl_isTick _) rfl) ?_
            refine WL_cons rfl (WX_q rfl rfl (q_not rfl rfl) (?_))
            refine WL_nil (hK30 _ ?_)
            clear hK30 K30
            refine W_cond rfl (fun h11 => ?_) (fun h11 => ?_)
            · try rw [h11]
              try simp only [decide_eq_true_eq, decide_eq_false_iff_not, beq_iff_eq, bne_iff_ne, ne_eq, Bool.not_eq_true', Bool.not_eq_false', beq_eq_false_iff_ne, bne_eq_false_iff_eq, Bool.not_eq_true, Bool.not_eq_false, Int.not_lt, Int.not_le, gt_iff_lt, ge_iff_le, Bool.and_eq_true, Bool.and_eq_false_iff, Bool.or_eq_true, Bool.or_eq_false_iff] at h11
              refine W_seq (fun K31 hK31 => ?_)
              refine W_region (WL_cons rfl (WX_q rfl rfl (q_assign rfl rfl) (WL_cons rfl (WX_q rfl rfl (q_assign rfl rfl) (?_)))))
              refine WL_nil (hK31 _ ?_)
              clear hK31 K31
              refine W_ret (fin_many rfl rfl rfl rfl (rcs_cons (rc_v ?_) (rcs_cons (rc_v ?_) rcs_nil)))
              all_goals clear hK29 K29
              all_goals ((try clear hm2) <;> (try clear hm) <;> (first | rfl | (simp_all [nextA]; done) | ((simp only [nextA]; repeat' split) <;> (first | rfl | ((try simp_all [inside_f, inside_t]) <;> omega) | (exfalso; (try simp_all [inside_f, inside_t]) <;> omega)))))
            · try rw [h11]
              try simp only [decide_eq_true_eq, decide_eq_false_iff_not, beq_iff_eq, bne_iff_ne, ne_eq, Bool.not_eq_true', Bool.not_eq_false', beq_eq_false_iff_ne, bne_eq_false_iff_eq, Bool.not_eq_true, Bool.not_eq_false, Int.not_lt, Int.not_le, gt_iff_lt, ge_iff_le, Bool.and_eq_true, Bool.and_eq_false_iff, Bool.or_eq_true, Bool.or_eq_false_iff] at h11
              refine W_skip (hK29 _ ?_)
              clear hK29 K29
              refine W_seq (fun K32 hK32 => ?_)
              refine W_region (WL_cons rfl (WX_q rfl rfl (q_move rfl rfl) (WL_cons rfl (WX_q rfl rfl (q_assign rfl rfl) (WL_cons rfl (WX_q rfl rfl (q_assign rfl rfl) (?_)))))))
              refine WL_nil (hK32 _ ?_)
              clear hK32 K32
              refine W_ret (fin_many rfl rfl rfl rfl (rcs_cons (rc_v ?_) (rcs_cons (rc_v ?_) rcs_nil)))
              all_goals ((try clear hm2) <;> (try clear hm) <;> (first | rfl | (simp_all [nextA]; done) | ((simp only [nextA]; repeat' split) <;> (first | rfl | ((try simp_all [inside_f, inside_t]) <;> omega) | (exfalso; (try simp_all [inside_f, inside_t]) <;> omega)))))

theorem c_spec_l23Use (x : Bucket) (t c : Int) (h0 : okAt x t = true) (hc : inside c 1 1000 = true) : Ctr Try.prog 74 [.v (encB x), .v (.int .i64 t), .v (.int .i64 c)] (.many [.v (encB (useB x t c).1), .v (.bool (useB x t c).2)]) := by
  have hg := gain_le h0
  have ho := okAt_iff.mp h0
  have hc := inside_t.mp hc
  have he := bringB_h x t
  refine Ctr.of (n := 23) G Try.func74 rfl (by kernel_rfl) rfl rfl rfl (fun w0 => ?_)
  refine W_seq (fun K1 hK1 => ?_)
  refine W_region (WL_cons rfl (WX_box 1 rfl rfl rfl rfl rfl rfl rfl (WL_cons rfl (WX_alloc_s G 2 rfl rfl rfl rfl rfl (WL_cons rfl (WX_q rfl rfl (q_assign rfl rfl) (?_)))))))
  refine WL_nil (hK1 _ ?_)
  clear hK1 K1
  refine W_seq (fun K2 hK2 => ?_)
  refine W_region (WL_cons rfl (WX_q rfl rfl (q_load_box_struct G rfl rfl rfl rfl rfl rfl) (WL_cons rfl (WX_q rfl rfl (q_move rfl rfl) (WL_cons rfl (?_))))))
  refine WX_q rfl rfl (q_call rfl (ArgsOK.of rfl) (c_spec_l23Bring _ _ (by assumption)) rfl) ?_
  refine WL_cons rfl (WX_alloc_s G 3 rfl rfl rfl rfl rfl (WL_cons rfl (WX_store G rfl rfl rfl rfl rfl rfl rfl rfl rfl rfl rfl (?_))))
  refine WL_nil (hK2 _ ?_)
  clear hK2 K2
  refine W_seq (fun K3 hK3 => ?_)
  refine W_seq (fun K4 hK4 => ?_)
  refine W_region (WL_cons rfl (WX_q rfl rfl (q_field_ptr G rfl rfl rfl rfl) (WL_cons rfl (WX_q rfl rfl (q_load_box G rfl rfl rfl rfl rfl rfl rfl) (WL_cons rfl (WX_q rfl rfl (q_move rfl rfl) (WL_cons rfl (WX_q rfl rfl (q_cmp rfl rfl rfl rfl) (?_)))))))))
  refine WL_nil (hK4 _ ?_)
  clear hK4 K4
  refine W_cond rfl (fun h1 => ?_) (fun h1 => ?_)
  · try rw [h1]
    try simp only [decide_eq_true_eq, decide_eq_false_iff_not, beq_iff_eq, bne_iff_ne, ne_eq, Bool.not_eq_true', Bool.not_eq_false', beq_eq_false_iff_ne, bne_eq_false_iff_eq, Bool.not_eq_true, Bool.not_eq_false, Int.not_lt, Int.not_le, gt_iff_lt, ge_iff_le, Bool.and_eq_true, Bool.and_eq_false_iff, Bool.or_eq_true, Bool.or_eq_false_iff] at h1
    refine W_seq (fun K5 hK5 => ?_)
    refine W_region (WL_cons rfl (WX_q rfl rfl (q_load_box_struct G rfl rfl rfl rfl rfl rfl) (WL_cons rfl (WX_store G rfl rfl rfl rfl rfl rfl rfl rfl rfl rfl rfl (WL_cons rfl (WX_q rfl rfl (q_assign rfl rfl) (?_)))))))
    refine WL_nil (hK5 _ ?_)
    clear hK5 K5
    refine W_ret (fin_many rfl rfl rfl rfl (rcs_cons (rc_agg rfl ?_) (rcs_cons (rc_v ?_) rcs_nil)))
    all_goals clear hK3 K3
    all_goals ((first | rfl | (simp_all [useB, encB, encBc]; done) | ((simp only [useB, encB, encBc]; repeat' split) <;> (first | rfl | ((try simp_all [bringB_g, bringB_r, bringB_b, bringB_t]) <;> omega) | (exfalso; (try simp_all [bringB_g, bringB_r, bringB_b, bringB_t]) <;> omega)))))
  · try rw [h1]
    try simp only [decide_eq_true_eq, decide_eq_false_iff_not, beq_iff_eq, bne_iff_ne, ne_eq, Bool.not_eq_true', Bool.not_eq_false', beq_eq_false_iff_ne, bne_eq_false_iff_eq, Bool.not_eq_true, Bool.not_eq_false, Int.not_lt, Int.not_le, gt_iff_lt, ge_iff_le, Bool.and_eq_true, Bool.and_eq_false_iff, Bool.or_eq_true, Bool.or_eq_false_iff] at h1
    refine W_skip (hK3 _ ?_)
    clear hK3 K3
    refine W_seq (fun K6 hK6 => ?_)
    refine W_region (WL_cons rfl (WX_q rfl rfl (q_field_ptr G rfl rfl rfl rfl) (WL_cons rfl (WX_q rfl rfl (q_load_box G rfl rfl rfl rfl rfl rfl rfl) (WL_cons rfl (WX_q rfl rfl (q_move rfl rfl) (WL_cons rfl (?_))))))))
    first | refine WX_q rfl rfl (q_arith rfl rfl rfl rfl (by omega) (by omega)) ?_ | refine WX_q rfl rfl (q_wrap rfl rfl rfl rfl) ?_
    refine WL_cons rfl (WX_q rfl rfl (q_field_ptr G rfl rfl rfl rfl) (WL_cons rfl (WX_store G rfl rfl rfl rfl rfl rfl rfl rfl rfl rfl rfl (?_))))
    refine WL_nil (hK6 _ ?_)
    clear hK6 K6
    refine W_seq (fun K7 hK7 => ?_)
    refine W_region (WL_cons rfl (WX_q rfl rfl (q_load_box_struct G rfl rfl rfl rfl rfl rfl) (WL_cons rfl (WX_store G rfl rfl rfl rfl rfl rfl rfl rfl rfl rfl rfl (WL_cons rfl (WX_q rfl rfl (q_assign rfl rfl) (?_)))))))
    refine WL_nil (hK7 _ ?_)
    clear hK7 K7
    refine W_ret (fin_many rfl rfl rfl rfl (rcs_cons (rc_agg rfl ?_) (rcs_cons (rc_v ?_) rcs_nil)))
    all_goals ((first | rfl | (simp_all [useB, encB, encBc]; done) | ((simp only [useB, encB, encBc]; repeat' split) <;> (first | rfl | ((try simp_all [bringB_g, bringB_r, bringB_b, bringB_t]) <;> omega) | (exfalso; (try simp_all [bringB_g, bringB_r, bringB_b, bringB_t]) <;> omega)))))

theorem c_impl_used (x : Bucket) (t c : Int) (h0 : okAt x t = true) (hc : inside c 1 1000 = true) : Ctr Try.prog 75 [.v (encB x), .v (.int .i64 t), .v (.int .i64 c)] (.many [.v (encB (useB x t c).1), .v (.bool (useB x t c).2)]) := by
  have hg := gain_le h0
  have ho := okAt_iff.mp h0
  have hc := inside_t.mp hc
  have he := bringB_h x t
  refine Ctr.of (n := 22) G Try.func75 rfl (by kernel_rfl) rfl rfl rfl (fun w0 => ?_)
  refine W_seq (fun K1 hK1 => ?_)
  refine W_region (WL_cons rfl (WX_box 1 rfl rfl rfl rfl rfl rfl rfl (WL_cons rfl (WX_alloc_s G 2 rfl rfl rfl rfl rfl (WL_cons rfl (WX_q rfl rfl (q_assign rfl rfl) (?_)))))))
  refine WL_nil (hK1 _ ?_)
  clear hK1 K1
  refine W_seq (fun K2 hK2 => ?_)
  refine W_region (WL_cons rfl (WX_q rfl rfl (q_load_box_struct G rfl rfl rfl rfl rfl rfl) (WL_cons rfl (WX_q rfl rfl (q_move rfl rfl) (WL_cons rfl (?_))))))
  refine WX_q rfl rfl (q_call rfl (ArgsOK.of rfl) (c_impl_brought _ _ (by assumption)) rfl) ?_
  refine WL_cons rfl (WX_store G rfl rfl rfl rfl rfl rfl rfl rfl rfl rfl rfl (?_))
  refine WL_nil (hK2 _ ?_)
  clear hK2 K2
  refine W_seq (fun K3 hK3 => ?_)
  refine W_seq (fun K4 hK4 => ?_)
  refine W_region (WL_cons rfl (WX_q rfl rfl (q_field_ptr G rfl rfl rfl rfl) (WL_cons rfl (WX_q rfl rfl (q_load_box G rfl rfl rfl rfl rfl rfl rfl) (WL_cons rfl (WX_q rfl rfl (q_move rfl rfl) (WL_cons rfl (WX_q rfl rfl (q_cmp rfl rfl rfl rfl) (?_)))))))))
  refine WL_nil (hK4 _ ?_)
  clear hK4 K4
  refine W_cond rfl (fun h1 => ?_) (fun h1 => ?_)
  · try rw [h1]
    try simp only [decide_eq_true_eq, decide_eq_false_iff_not, beq_iff_eq, bne_iff_ne, ne_eq, Bool.not_eq_true', Bool.not_eq_false', beq_eq_false_iff_ne, bne_eq_false_iff_eq, Bool.not_eq_true, Bool.not_eq_false, Int.not_lt, Int.not_le, gt_iff_lt, ge_iff_le, Bool.and_eq_true, Bool.and_eq_false_iff, Bool.or_eq_true, Bool.or_eq_false_iff] at h1
    refine W_seq (fun K5 hK5 => ?_)
    refine W_region (WL_cons rfl (WX_q rfl rfl (q_load_box_struct G rfl rfl rfl rfl rfl rfl) (WL_cons rfl (WX_store G rfl rfl rfl rfl rfl rfl rfl rfl rfl rfl rfl (WL_cons rfl (WX_q rfl rfl (q_assign rfl rfl) (?_)))))))
    refine WL_nil (hK5 _ ?_)
    clear hK5 K5
    refine W_ret (fin_many rfl rfl rfl rfl (rcs_cons (rc_agg rfl ?_) (rcs_cons (rc_v ?_) rcs_nil)))
    all_goals clear hK3 K3
    all_goals ((first | rfl | (simp_all [useB, encB, encBc]; done) | ((simp only [useB, encB, encBc]; repeat' split) <;> (first | rfl | ((try simp_all [bringB_g, bringB_r, bringB_b, bringB_t]) <;> omega) | (exfalso; (try simp_all [bringB_g, bringB_r, bringB_b, bringB_t]) <;> omega)))))
  · try rw [h1]
    try simp only [decide_eq_true_eq, decide_eq_false_iff_not, beq_iff_eq, bne_iff_ne, ne_eq, Bool.not_eq_true', Bool.not_eq_false', beq_eq_false_iff_ne, bne_eq_false_iff_eq, Bool.not_eq_true, Bool.not_eq_false, Int.not_lt, Int.not_le, gt_iff_lt, ge_iff_le, Bool.and_eq_true, Bool.and_eq_false_iff, Bool.or_eq_true, Bool.or_eq_false_iff] at h1
    refine W_skip (hK3 _ ?_)
    clear hK3 K3
    refine W_seq (fun K6 hK6 => ?_)
    refine W_region (WL_cons rfl (WX_q rfl rfl (q_field_ptr G rfl rfl rfl rfl) (WL_cons rfl (WX_q rfl rfl (q_load_box G rfl rfl rfl rfl rfl rfl rfl) (WL_cons rfl (WX_q rfl rfl (q_move rfl rfl) (WL_cons rfl (?_))))))))
    first | refine WX_q rfl rfl (q_arith rfl rfl rfl rfl (by omega) (by omega)) ?_ | refine WX_q rfl rfl (q_wrap rfl rfl rfl rfl) ?_
    refine WL_cons rfl (WX_q rfl rfl (q_field_ptr G rfl rfl rfl rfl) (WL_cons rfl (WX_store G rfl rfl rfl rfl rfl rfl rfl rfl rfl rfl rfl (?_))))
    refine WL_nil (hK6 _ ?_)
    clear hK6 K6
    refine W_seq (fun K7 hK7 => ?_)
    refine W_region (WL_cons rfl (WX_q rfl rfl (q_load_box_struct G rfl rfl rfl rfl rfl rfl) (WL_cons rfl (WX_store G rfl rfl rfl rfl rfl rfl rfl rfl rfl rfl rfl (WL_cons rfl (WX_q rfl rfl (q_assign rfl rfl) (?_)))))))
    refine WL_nil (hK7 _ ?_)
    clear hK7 K7
    refine W_ret (fin_many rfl rfl rfl rfl (rcs_cons (rc_agg rfl ?_) (rcs_cons (rc_v ?_) rcs_nil)))
    all_goals ((first | rfl | (simp_all [useB, encB, encBc]; done) | ((simp only [useB, encB, encBc]; repeat' split) <;> (first | rfl | ((try simp_all [bringB_g, bringB_r, bringB_b, bringB_t]) <;> omega) | (exfalso; (try simp_all [bringB_g, bringB_r, bringB_b, bringB_t]) <;> omega)))))

theorem c_spec_UseBucket (x : Bucket) (t c : Int) : Ctr Try.prog 28 [.v (encB x), .v (.int .i64 t), .v (.int .i64 c)] (.many [.v (encB (useTo x t c).1), .v (.bool (useTo x t c).2.1), .v (.bool (useTo x t c).2.2)]) := by
  refine Ctr.of (n := 30) G Try.func28 rfl (by kernel_rfl) rfl rfl rfl (fun w0 => ?_)
  refine W_seq (fun K1 hK1 => ?_)
  refine W_region (WL_cons rfl (WX_box 1 rfl rfl rfl rfl rfl rfl rfl (WL_cons rfl (WX_alloc_s G 2 rfl rfl rfl rfl rfl (WL_cons rfl (WX_q rfl rfl (q_assign rfl rfl) (WL_cons rfl (WX_q rfl rfl (q_assign rfl rfl) (?_)))))))))
  refine WL_nil (hK1 _ ?_)
  clear hK1 K1
  refine W_seq (fun K2 hK2 => ?_)
  refine W_seq (fun K3 hK3 => ?_)
  refine W_region (WL_cons rfl (WX_q rfl rfl (q_load_box_struct G rfl rfl rfl rfl rfl rfl) (WL_cons rfl (WX_q rfl rfl (q_move rfl rfl) (WL_cons rfl (?_))))))
  refine WX_q rfl rfl (q_call rfl (ArgsOK.of rfl) (c_spec_l23At _ _) rfl) ?_
  refine WL_cons rfl (WX_q rfl rfl (q_not rfl rfl) (WL_cons rfl (WX_q rfl rfl (q_move rfl rfl) (WL_part rfl rfl rfl (fun h1 => ?_) (fun h1 => ?_)))))
  · try rw [h1]
    try simp only [decide_eq_true_eq, decide_eq_false_iff_not, beq_iff_eq, bne_iff_ne, ne_eq, Bool.not_eq_true', Bool.not_eq_false', beq_eq_false_iff_ne, bne_eq_false_iff_eq, Bool.not_eq_true, Bool.not_eq_false, Int.not_lt, Int.not_le, gt_iff_lt, ge_iff_le, Bool.and_eq_true, Bool.and_eq_false_iff, Bool.or_eq_true, Bool.or_eq_false_iff] at h1
    refine WL_skip rfl rfl rfl rfl rfl rfl (WL_skip rfl rfl rfl rfl rfl rfl (WL_skip rfl rfl rfl rfl rfl rfl (WL_cons rfl (WX_q rfl rfl (q_pick_t rfl rfl rfl) (?_)))))
    refine WL_nil (hK3 _ ?_)
    clear hK3 K3
    refine W_true rfl ?_
    refine W_seq (fun K4 hK4 => ?_)
    refine W_region (WL_cons rfl (WX_q rfl rfl (q_build G rfl rfl rfl rfl) (WL_cons rfl (WX_store G rfl rfl rfl rfl rfl rfl rfl rfl rfl rfl rfl (WL_cons rfl (WX_q rfl rfl (q_assign rfl rfl) (WL_cons rfl (WX_q rfl rfl (q_assign rfl rfl) (?_)))))))))
    refine WL_nil (hK4 _ ?_)
    clear hK4 K4
    refine W_ret (fin_many rfl rfl rfl rfl (rcs_cons (rc_agg rfl ?_) (rcs_cons (rc_v ?_) (rcs_cons (rc_v ?_) rcs_nil))))
    all_goals clear hK2 K2
    all_goals (first | rfl | (simp_all [useTo, okAt, zeroB, encB, encBc]; done) | (cases hb0 : isBucket x <;> cases hb1 : inside t x.t 100000 <;> simp_all [useTo, okAt, zeroB, encB, encBc]; done) | (simp_all [useTo, okAt, zeroB, encB, encBc]; omega))
  · try rw [h1]
    try simp only [decide_eq_true_eq, decide_eq_false_iff_not, beq_iff_eq, bne_iff_ne, ne_eq, Bool.not_eq_true', Bool.not_eq_false', beq_eq_false_iff_ne, bne_eq_false_iff_eq, Bool.not_eq_true, Bool.not_eq_false, Int.not_lt, Int.not_le, gt_iff_lt, ge_iff_le, Bool.and_eq_true, Bool.and_eq_false_iff, Bool.or_eq_true, Bool.or_eq_false_iff] at h1
    refine WL_run rfl rfl rfl (WX_q rfl rfl (q_move rfl rfl) (WL_run rfl rfl rfl (?_)))
    refine WX_q rfl rfl (q_call rfl (ArgsOK.of rfl) (c_spec_l23Cost _) rfl) ?_
    refine WL_run rfl rfl rfl (WX_q rfl rfl (q_not rfl rfl) (WL_cons rfl (WX_q rfl rfl (q_pick_f rfl rfl rfl) (?_))))
    refine WL_nil (hK3 _ ?_)
    clear hK3 K3
    refine W_cond rfl (fun h2 => ?_) (fun h2 => ?_)
    · try rw [h2]
      try simp only [decide_eq_true_eq, decide_eq_false_iff_not, beq_iff_eq, bne_iff_ne, ne_eq, Bool.not_eq_true', Bool.not_eq_false', beq_eq_false_iff_ne, bne_eq_false_iff_eq, Bool.not_eq_true, Bool.not_eq_false, Int.not_lt, Int.not_le, gt_iff_lt, ge_iff_le, Bool.and_eq_true, Bool.and_eq_false_iff, Bool.or_eq_true, Bool.or_eq_false_iff] at h2
      refine W_seq (fun K5 hK5 => ?_)
      refine W_region (WL_cons rfl (WX_q rfl rfl (q_build G rfl rfl rfl rfl) (WL_cons rfl (WX_store G rfl rfl rfl rfl rfl rfl rfl rfl rfl rfl rfl (WL_cons rfl (WX_q rfl rfl (q_assign rfl rfl) (WL_cons rfl (WX_q rfl rfl (q_assign rfl rfl) (?_)))))))))
      refine WL_nil (hK5 _ ?_)
      clear hK5 K5
      refine W_ret (fin_many rfl rfl rfl rfl (rcs_cons (rc_agg rfl ?_) (rcs_cons (rc_v ?_) (rcs_cons (rc_v ?_) rcs_nil))))
      all_goals clear hK2 K2
      all_goals (first | rfl | (simp_all [useTo, okAt, zeroB, encB, encBc]; done) | (cases hb0 : isBucket x <;> cases hb1 : inside t x.t 100000 <;> simp_all [useTo, okAt, zeroB, encB, encBc]; done) | (simp_all [useTo, okAt, zeroB, encB, encBc]; omega))
    · try rw [h2]
      try simp only [decide_eq_true_eq, decide_eq_false_iff_not, beq_iff_eq, bne_iff_ne, ne_eq, Bool.not_eq_true', Bool.not_eq_false', beq_eq_false_iff_ne, bne_eq_false_iff_eq, Bool.not_eq_true, Bool.not_eq_false, Int.not_lt, Int.not_le, gt_iff_lt, ge_iff_le, Bool.and_eq_true, Bool.and_eq_false_iff, Bool.or_eq_true, Bool.or_eq_false_iff] at h2
      refine W_skip (hK2 _ ?_)
      clear hK2 K2
      refine W_seq (fun K6 hK6 => ?_)
      refine W_region (WL_cons rfl (WX_q rfl rfl (q_load_box_struct G rfl rfl rfl rfl rfl rfl) (WL_cons rfl (WX_q rfl rfl (q_move rfl rfl) (WL_cons rfl (WX_q rfl rfl (q_move rfl rfl) (WL_cons rfl (?_))))))))
      refine WX_q rfl rfl (q_call rfl (ArgsOK.of rfl) (c_spec_l23Use _ _ _ (by assumption) (by assumption)) rfl) ?_
      refine WL_cons rfl (WX_q rfl rfl (q_move rfl rfl) (WL_cons rfl (WX_q rfl rfl (q_extract rfl rfl rfl) (WL_cons rfl (WX_q rfl rfl (q_extract rfl rfl rfl) (WL_cons rfl (WX_alloc_s G 3 rfl rfl rfl rfl rfl (WL_cons rfl (WX_store G rfl rfl rfl rfl rfl rfl rfl rfl rfl rfl rfl (WL_cons rfl (WX_q rfl rfl (q_assign rfl rfl) (?_))))))))))))
      refine WL_nil (hK6 _ ?_)
      clear hK6 K6
      refine W_seq (fun K7 hK7 => ?_)
      refine W_region (WL_cons rfl (WX_q rfl rfl (q_load_box_struct G rfl rfl rfl rfl rfl rfl) (WL_cons rfl (WX_q rfl rfl (q_move rfl rfl) (WL_cons rfl (WX_store G rfl rfl rfl rfl rfl rfl rfl rfl rfl rfl rfl (WL_cons rfl (WX_q rfl rfl (q_assign rfl rfl) (WL_cons rfl (WX_q rfl rfl (q_assign rfl rfl) (?_)))))))))))
      refine WL_nil (hK7 _ ?_)
      clear hK7 K7
      refine W_ret (fin_many rfl rfl rfl rfl (rcs_cons (rc_agg rfl ?_) (rcs_cons (rc_v ?_) (rcs_cons (rc_v ?_) rcs_nil))))
      all_goals (first | rfl | (simp_all [useTo, okAt, zeroB, encB, encBc]; done) | (cases hb0 : isBucket x <;> cases hb1 : inside t x.t 100000 <;> simp_all [useTo, okAt, zeroB, encB, encBc]; done) | (simp_all [useTo, okAt, zeroB, encB, encBc]; omega))

theorem c_impl_UseBucket (x : Bucket) (t c : Int) : Ctr Try.prog 29 [.v (encB x), .v (.int .i64 t), .v (.int .i64 c)] (.many [.v (encB (useTo x t c).1), .v (.bool (useTo x t c).2.1), .v (.bool (useTo x t c).2.2)]) := by
  refine Ctr.of (n := 36) G Try.func29 rfl (by kernel_rfl) rfl rfl rfl (fun w0 => ?_)
  refine W_seq (fun K1 hK1 => ?_)
  refine W_region (WL_cons rfl (WX_box 1 rfl rfl rfl rfl rfl rfl rfl (WL_cons rfl (WX_alloc_s G 2 rfl rfl rfl rfl rfl (WL_cons rfl (WX_q rfl rfl (q_assign rfl rfl) (WL_cons rfl (WX_q rfl rfl (q_assign rfl rfl) (?_)))))))))
  refine WL_nil (hK1 _ ?_)
  clear hK1 K1
  refine W_seq (fun K2 hK2 => ?_)
  refine W_seq (fun K3 hK3 => ?_)
  refine W_region (WL_cons rfl (WX_q rfl rfl (q_load_box_struct G rfl rfl rfl rfl rfl rfl) (WL_cons rfl (?_))))
  refine WX_q rfl rfl (q_call rfl (ArgsOK.of rfl) (c_impl_IsBucket _) rfl) ?_
  refine WL_cons rfl (WX_q rfl rfl (q_not rfl rfl) (WL_cons rfl (WX_q rfl rfl (q_move rfl rfl) (WL_part rfl rfl rfl (fun h1 => ?_) (fun h1 => ?_)))))
  · try rw [h1]
    try simp only [decide_eq_true_eq, decide_eq_false_iff_not, beq_iff_eq, bne_iff_ne, ne_eq, Bool.not_eq_true', Bool.not_eq_false', beq_eq_false_iff_ne, bne_eq_false_iff_eq, Bool.not_eq_true, Bool.not_eq_false, Int.not_lt, Int.not_le, gt_iff_lt, ge_iff_le, Bool.and_eq_true, Bool.and_eq_false_iff, Bool.or_eq_true, Bool.or_eq_false_iff] at h1
    refine WL_skip rfl rfl rfl rfl rfl rfl (WL_skip rfl rfl rfl rfl rfl rfl (WL_skip rfl rfl rfl rfl rfl rfl (WL_skip rfl rfl rfl rfl rfl rfl (WL_skip rfl rfl rfl rfl rfl rfl (WL_cons rfl (WX_q rfl rfl (q_pick_t rfl rfl rfl) (WL_cons rfl (WX_q rfl rfl (q_move rfl rfl) (WL_skip rfl rfl rfl rfl rfl rfl (WL_skip rfl rfl rfl rfl rfl rfl (WL_skip rfl rfl rfl rfl rfl rfl (WL_cons rfl (WX_q rfl rfl (q_pick_t rfl rfl rfl) (?_))))))))))))))
    refine WL_nil (hK3 _ ?_)
    clear hK3 K3
    refine W_true rfl ?_
    refine W_seq (fun K4 hK4 => ?_)
    refine W_region (WL_cons rfl (WX_q rfl rfl (q_build G rfl rfl rfl rfl) (WL_cons rfl (WX_store G rfl rfl rfl rfl rfl rfl rfl rfl rfl rfl rfl (WL_cons rfl (WX_q rfl rfl (q_assign rfl rfl) (WL_cons rfl (WX_q rfl rfl (q_assign rfl rfl) (?_)))))))))
    refine WL_nil (hK4 _ ?_)
    clear hK4 K4
    refine W_ret (fin_many rfl rfl rfl rfl (rcs_cons (rc_agg rfl ?_) (rcs_cons (rc_v ?_) (rcs_cons (rc_v ?_) rcs_nil))))
    all_goals clear hK2 K2
    all_goals (first | rfl | (simp_all [useTo, okAt, zeroB, encB, encBc]; done) | (cases hb0 : isBucket x <;> cases hb1 : inside t x.t 100000 <;> simp_all [useTo, okAt, zeroB, encB, encBc]; done) | (simp_all [useTo, okAt, zeroB, encB, encBc]; omega))
  · try rw [h1]
    try simp only [decide_eq_true_eq, decide_eq_false_iff_not, beq_iff_eq, bne_iff_ne, ne_eq, Bool.not_eq_true', Bool.not_eq_false', beq_eq_false_iff_ne, bne_eq_false_iff_eq, Bool.not_eq_true, Bool.not_eq_false, Int.not_lt, Int.not_le, gt_iff_lt, ge_iff_le, Bool.and_eq_true, Bool.and_eq_false_iff, Bool.or_eq_true, Bool.or_eq_false_iff] at h1
    refine WL_run rfl rfl rfl (WX_q rfl rfl (q_move rfl rfl) (WL_run rfl rfl rfl (WX_q rfl rfl (q_field_ptr G rfl rfl rfl rfl) (WL_run rfl rfl rfl (WX_q rfl rfl (q_load_box G rfl rfl rfl rfl rfl rfl rfl) (WL_run rfl rfl rfl (?_)))))))
    refine WX_q rfl rfl (q_call rfl (ArgsOK.of rfl) (c_impl_inside _ _ _) rfl) ?_
    refine WL_run rfl rfl rfl (WX_q rfl rfl (q_not rfl rfl) (WL_cons rfl (WX_q rfl rfl (q_pick_f rfl rfl rfl) (WL_cons rfl (WX_q rfl rfl (q_move rfl rfl) (WL_part rfl rfl rfl (fun h2 => ?_) (fun h2 => ?_)))))))
    · try rw [h2]
      try simp only [decide_eq_true_eq, decide_eq_false_iff_not, beq_iff_eq, bne_iff_ne, ne_eq, Bool.not_eq_true', Bool.not_eq_false', beq_eq_false_iff_ne, bne_eq_false_iff_eq, Bool.not_eq_true, Bool.not_eq_false, Int.not_lt, Int.not_le, gt_iff_lt, ge_iff_le, Bool.and_eq_true, Bool.and_eq_false_iff, Bool.or_eq_true, Bool.or_eq_false_iff] at h2
      refine WL_skip rfl rfl rfl rfl rfl rfl (WL_skip rfl rfl rfl rfl rfl rfl (WL_skip rfl rfl rfl rfl rfl rfl (WL_cons rfl (WX_q rfl rfl (q_pick_t rfl rfl rfl) (?_)))))
      refine WL_nil (hK3 _ ?_)
      clear hK3 K3
      refine W_true rfl ?_
      refine W_seq (fun K5 hK5 => ?_)
      refine W_region (WL_cons rfl (WX_q rfl rfl (q_build G rfl rfl rfl rfl) (WL_cons rfl (WX_store G rfl rfl rfl rfl rfl rfl rfl rfl rfl rfl rfl (WL_cons rfl (WX_q rfl rfl (q_assign rfl rfl) (WL_cons rfl (WX_q rfl rfl (q_assign rfl rfl) (?_)))))))))
      refine WL_nil (hK5 _ ?_)
      clear hK5 K5
      refine W_ret (fin_many rfl rfl rfl rfl (rcs_cons (rc_agg rfl ?_) (rcs_cons (rc_v ?_) (rcs_cons (rc_v ?_) rcs_nil))))
      all_goals clear hK2 K2
      all_goals (first | rfl | (simp_all [useTo, okAt, zeroB, encB, encBc]; done) | (cases hb0 : isBucket x <;> cases hb1 : inside t x.t 100000 <;> simp_all [useTo, okAt, zeroB, encB, encBc]; done) | (simp_all [useTo, okAt, zeroB, encB, encBc]; omega))
    · try rw [h2]
      try simp only [decide_eq_true_eq, decide_eq_false_iff_not, beq_iff_eq, bne_iff_ne, ne_eq, Bool.not_eq_true', Bool.not_eq_false', beq_eq_false_iff_ne, bne_eq_false_iff_eq, Bool.not_eq_true, Bool.not_eq_false, Int.not_lt, Int.not_le, gt_iff_lt, ge_iff_le, Bool.and_eq_true, Bool.and_eq_false_iff, Bool.or_eq_true, Bool.or_eq_false_iff] at h2
      refine WL_run rfl rfl rfl (WX_q rfl rfl (q_move rfl rfl) (WL_run rfl rfl rfl (?_)))
      refine WX_q rfl rfl (q_call rfl (ArgsOK.of rfl) (c_impl_isCost _) rfl) ?_
      refine WL_run rfl rfl rfl (WX_q rfl rfl (q_not rfl rfl) (WL_cons rfl (WX_q rfl rfl (q_pick_f rfl rfl rfl) (?_))))
      refine WL_nil (hK3 _ ?_)
      clear hK3 K3
      refine W_cond rfl (fun h3 => ?_) (fun h3 => ?_)
      · try rw [h3]
        try simp only [decide_eq_true_eq, decide_eq_false_iff_not, beq_iff_eq, bne_iff_ne, ne_eq, Bool.not_eq_true', Bool.not_eq_false', beq_eq_false_iff_ne, bne_eq_false_iff_eq, Bool.not_eq_true, Bool.not_eq_false, Int.not_lt, Int.not_le, gt_iff_lt, ge_iff_le, Bool.and_eq_true, Bool.and_eq_false_iff, Bool.or_eq_true, Bool.or_eq_false_iff] at h3
        refine W_seq (fun K6 hK6 => ?_)
        refine W_region (WL_cons rfl (WX_q rfl rfl (q_build G rfl rfl rfl rfl) (WL_cons rfl (WX_store G rfl rfl rfl rfl rfl rfl rfl rfl rfl rfl rfl (WL_cons rfl (WX_q rfl rfl (q_assign rfl rfl) (WL_cons rfl (WX_q rfl rfl (q_assign rfl rfl) (?_)))))))))
        refine WL_nil (hK6 _ ?_)
        clear hK6 K6
        refine W_ret (fin_many rfl rfl rfl rfl (rcs_cons (rc_agg rfl ?_) (rcs_cons (rc_v ?_) (rcs_cons (rc_v ?_) rcs_nil))))
        all_goals clear hK2 K2
        all_goals (first | rfl | (simp_all [useTo, okAt, zeroB, encB, encBc]; done) | (cases hb0 : isBucket x <;> cases hb1 : inside t x.t 100000 <;> simp_all [useTo, okAt, zeroB, encB, encBc]; done) | (simp_all [useTo, okAt, zeroB, encB, encBc]; omega))
      · try rw [h3]
        try simp only [decide_eq_true_eq, decide_eq_false_iff_not, beq_iff_eq, bne_iff_ne, ne_eq, Bool.not_eq_true', Bool.not_eq_false', beq_eq_false_iff_ne, bne_eq_false_iff_eq, Bool.not_eq_true, Bool.not_eq_false, Int.not_lt, Int.not_le, gt_iff_lt, ge_iff_le, Bool.and_eq_true, Bool.and_eq_false_iff, Bool.or_eq_true, Bool.or_eq_false_iff] at h3
        refine W_skip (hK2 _ ?_)
        clear hK2 K2
        refine W_seq (fun K7 hK7 => ?_)
        refine W_region (WL_cons rfl (WX_q rfl rfl (q_load_box_struct G rfl rfl rfl rfl rfl rfl) (WL_cons rfl (WX_q rfl rfl (q_move rfl rfl) (WL_cons rfl (WX_q rfl rfl (q_move rfl rfl) (WL_cons rfl (?_))))))))
        refine WX_q rfl rfl (q_call rfl (ArgsOK.of rfl) (c_impl_used _ _ _ (by simp_all [okAt]) (by assumption)) rfl) ?_
        refine WL_cons rfl (WX_q rfl rfl (q_move rfl rfl) (WL_cons rfl (WX_q rfl rfl (q_extract rfl rfl rfl) (WL_cons rfl (WX_q rfl rfl (q_extract rfl rfl rfl) (WL_cons rfl (WX_alloc_s G 3 rfl rfl rfl rfl rfl (WL_cons rfl (WX_store G rfl rfl rfl rfl rfl rfl rfl rfl rfl rfl rfl (WL_cons rfl (WX_q rfl rfl (q_assign rfl rfl) (?_))))))))))))
        refine WL_nil (hK7 _ ?_)
        clear hK7 K7
        refine W_seq (fun K8 hK8 => ?_)
        refine W_region (WL_cons rfl (WX_q rfl rfl (q_load_box_struct G rfl rfl rfl rfl rfl rfl) (WL_cons rfl (WX_q rfl rfl (q_move rfl rfl) (WL_cons rfl (WX_store G rfl rfl rfl rfl rfl rfl rfl rfl rfl rfl rfl (WL_cons rfl (WX_q rfl rfl (q_assign rfl rfl) (WL_cons rfl (WX_q rfl rfl (q_assign rfl rfl) (?_)))))))))))
        refine WL_nil (hK8 _ ?_)
        clear hK8 K8
        refine W_ret (fin_many rfl rfl rfl rfl (rcs_cons (rc_agg rfl ?_) (rcs_cons (rc_v ?_) (rcs_cons (rc_v ?_) rcs_nil))))
        all_goals (first | rfl | (simp_all [useTo, okAt, zeroB, encB, encBc]; done) | (cases hb0 : isBucket x <;> cases hb1 : inside t x.t 100000 <;> simp_all [useTo, okAt, zeroB, encB, encBc]; done) | (simp_all [useTo, okAt, zeroB, encB, encBc]; omega))

end Go.Proofs.Yteplehpcplbioaa
