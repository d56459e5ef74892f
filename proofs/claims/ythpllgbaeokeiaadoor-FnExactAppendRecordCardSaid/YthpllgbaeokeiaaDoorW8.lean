/- Walks through functions of the program, one contract each (written by gen.py). -/
import Derived.Test.YthpllgbaeokeiaaDoorW7
import Derived.Test.YthpllgbaeokeiaaDoorRf6
set_option maxRecDepth 20000
set_option linter.unusedVariables false
set_option linter.unusedSimpArgs false
namespace Go.Proofs.YthpllgbaeokeiaaDoor
open Go Go.Rf

theorem c_spec_SyncLog (x : Lg) (hx : x.d.size + x.p.size ≤ 1048576) : Ctr Tryd.prog 26 [.v (encL x)] (.many [.v (encL (syE x)), .v (.bool (okLg x))]) := by
  refine Ctr.of (n := 16) G Tryd.func26 rfl (by kernel_rfl) rfl rfl rfl (fun w0 => ?_)
  refine W_seq (fun K1 hK1 => ?_)
  refine W_region (WL_cons rfl (WX_box 1 rfl rfl rfl rfl rfl rfl rfl (WL_cons rfl (WX_alloc_s G 2 rfl rfl rfl rfl rfl (WL_cons rfl (WX_q rfl rfl (q_assign rfl rfl) (?_)))))))
  refine WL_nil (hK1 _ ?_)
  clear hK1 K1
  refine W_seq (fun K2 hK2 => ?_)
  refine W_seq (fun K3 hK3 => ?_)
  refine W_region (WL_cons rfl (WX_q rfl rfl (q_load_box_struct G rfl rfl rfl rfl rfl rfl) (WL_cons rfl (?_))))
  refine WX_q rfl rfl (q_call rfl (ArgsOK.of rfl) (c_spec_l27Log _ (by first | assumption | omega)) rfl) ?_
  refine WL_cons rfl (WX_q rfl rfl (q_not rfl rfl) (?_))
  refine WL_nil (hK3 _ ?_)
  clear hK3 K3
  refine W_cond rfl (fun h1 => ?_) (fun h1 => ?_)
  · try rw [h1]
    try simp only [decide_eq_true_eq, decide_eq_false_iff_not, beq_iff_eq, bne_iff_ne, ne_eq, Bool.not_eq_true', Bool.not_eq_false', beq_eq_false_iff_ne, bne_eq_false_iff_eq, Bool.not_eq_true, Bool.not_eq_false, Int.not_lt, Int.not_le, gt_iff_lt, ge_iff_le, Bool.and_eq_true, Bool.and_eq_false_iff, Bool.or_eq_true, Bool.or_eq_false_iff] at h1
    have hO := sy_f h1
    refine W_seq (fun K4 hK4 => ?_)
    refine W_region (WL_cons rfl (WX_q rfl rfl (q_build G rfl rfl rfl rfl) (WL_cons rfl (WX_store G rfl rfl rfl rfl rfl rfl rfl rfl rfl rfl rfl (WL_cons rfl (WX_q rfl rfl (q_assign rfl rfl) (?_)))))))
    refine WL_nil (hK4 _ ?_)
    clear hK4 K4
    refine W_ret (fin_many rfl rfl rfl rfl (rcs_cons (rc_agg rfl ?_) (rcs_cons (rc_v ?_) rcs_nil)))
    all_goals clear hK2 K2
    all_goals (first | (rw [hO.1]; rfl) | (rw [hO.2]; done) | (rw [hO.2]; rfl))
  · try rw [h1]
    try simp only [decide_eq_true_eq, decide_eq_false_iff_not, beq_iff_eq, bne_iff_ne, ne_eq, Bool.not_eq_true', Bool.not_eq_false', beq_eq_false_iff_ne, bne_eq_false_iff_eq, Bool.not_eq_true, Bool.not_eq_false, Int.not_lt, Int.not_le, gt_iff_lt, ge_iff_le, Bool.and_eq_true, Bool.and_eq_false_iff, Bool.or_eq_true, Bool.or_eq_false_iff] at h1
    have hO := sy_t h1
    refine W_skip (hK2 _ ?_)
    clear hK2 K2
    refine W_seq (fun K5 hK5 => ?_)
    refine W_region (WL_cons rfl (WX_q rfl rfl (q_field_ptr G rfl rfl rfl rfl) (WL_cons rfl (WX_q rfl rfl (q_load_box G rfl rfl rfl rfl rfl rfl rfl) (WL_cons rfl (WX_q rfl rfl (q_field_ptr G rfl rfl rfl rfl) (WL_cons rfl (WX_q rfl rfl (q_load_box G rfl rfl rfl rfl rfl rfl rfl) (WL_cons rfl (?_))))))))))
    refine WX_q rfl rfl (q_cat rfl rfl rfl (by (try simp only [ByteArray.size_append, size_lit, List.size_toArray, List.length_cons, List.length_nil]); omega)) ?_
    refine WL_cons rfl (WX_q rfl rfl (q_field_ptr G rfl rfl rfl rfl) (WL_cons rfl (WX_q rfl rfl (q_load_box G rfl rfl rfl rfl rfl rfl rfl) (WL_cons rfl (WX_q rfl rfl (q_build G rfl rfl rfl rfl) (WL_cons rfl (WX_store G rfl rfl rfl rfl rfl rfl rfl rfl rfl rfl rfl (WL_cons rfl (WX_q rfl rfl (q_assign rfl rfl) (?_))))))))))
    refine WL_nil (hK5 _ ?_)
    clear hK5 K5
    refine W_ret (fin_many rfl rfl rfl rfl (rcs_cons (rc_agg rfl ?_) (rcs_cons (rc_v ?_) rcs_nil)))
    all_goals (first | (rw [hO.1]; rfl) | (rw [hO.2]; done) | (rw [hO.2]; rfl))

theorem c_impl_SyncLog (x : Lg) (hx : x.d.size + x.p.size ≤ 1048576) : Ctr Tryd.prog 27 [.v (encL x)] (.many [.v (encL (syE x)), .v (.bool (okLg x))]) := by
  refine Ctr.of (n := 16) G Tryd.func27 rfl (by kernel_rfl) rfl rfl rfl (fun w0 => ?_)
  refine W_seq (fun K1 hK1 => ?_)
  refine W_region (WL_cons rfl (WX_box 1 rfl rfl rfl rfl rfl rfl rfl (WL_cons rfl (WX_alloc_s G 2 rfl rfl rfl rfl rfl (WL_cons rfl (WX_q rfl rfl (q_assign rfl rfl) (?_)))))))
  refine WL_nil (hK1 _ ?_)
  clear hK1 K1
  refine W_seq (fun K2 hK2 => ?_)
  refine W_seq (fun K3 hK3 => ?_)
  refine W_region (WL_cons rfl (WX_q rfl rfl (q_load_box_struct G rfl rfl rfl rfl rfl rfl) (WL_cons rfl (?_))))
  refine WX_q rfl rfl (q_call rfl (ArgsOK.of rfl) (c_impl_IsValidLog _ (by first | assumption | omega)) rfl) ?_
  refine WL_cons rfl (WX_q rfl rfl (q_not rfl rfl) (?_))
  refine WL_nil (hK3 _ ?_)
  clear hK3 K3
  refine W_cond rfl (fun h1 => ?_) (fun h1 => ?_)
  · try rw [h1]
    try simp only [decide_eq_true_eq, decide_eq_false_iff_not, beq_iff_eq, bne_iff_ne, ne_eq, Bool.not_eq_true', Bool.not_eq_false', beq_eq_false_iff_ne, bne_eq_false_iff_eq, Bool.not_eq_true, Bool.not_eq_false, Int.not_lt, Int.not_le, gt_iff_lt, ge_iff_le, Bool.and_eq_true, Bool.and_eq_false_iff, Bool.or_eq_true, Bool.or_eq_false_iff] at h1
    have hO := sy_f h1
    refine W_seq (fun K4 hK4 => ?_)
    refine W_region (WL_cons rfl (WX_q rfl rfl (q_build G rfl rfl rfl rfl) (WL_cons rfl (WX_store G rfl rfl rfl rfl rfl rfl rfl rfl rfl rfl rfl (WL_cons rfl (WX_q rfl rfl (q_assign rfl rfl) (?_)))))))
    refine WL_nil (hK4 _ ?_)
    clear hK4 K4
    refine W_ret (fin_many rfl rfl rfl rfl (rcs_cons (rc_agg rfl ?_) (rcs_cons (rc_v ?_) rcs_nil)))
    all_goals clear hK2 K2
    all_goals (first | (rw [hO.1]; rfl) | (rw [hO.2]; done) | (rw [hO.2]; rfl))
  · try rw [h1]
    try simp only [decide_eq_true_eq, decide_eq_false_iff_not, beq_iff_eq, bne_iff_ne, ne_eq, Bool.not_eq_true', Bool.not_eq_false', beq_eq_false_iff_ne, bne_eq_false_iff_eq, Bool.not_eq_true, Bool.not_eq_false, Int.not_lt, Int.not_le, gt_iff_lt, ge_iff_le, Bool.and_eq_true, Bool.and_eq_false_iff, Bool.or_eq_true, Bool.or_eq_false_iff] at h1
    have hO := sy_t h1
    refine W_skip (hK2 _ ?_)
    clear hK2 K2
    refine W_seq (fun K5 hK5 => ?_)
    refine W_region (WL_cons rfl (WX_q rfl rfl (q_field_ptr G rfl rfl rfl rfl) (WL_cons rfl (WX_q rfl rfl (q_load_box G rfl rfl rfl rfl rfl rfl rfl) (WL_cons rfl (WX_q rfl rfl (q_field_ptr G rfl rfl rfl rfl) (WL_cons rfl (WX_q rfl rfl (q_load_box G rfl rfl rfl rfl rfl rfl rfl) (WL_cons rfl (?_))))))))))
    refine WX_q rfl rfl (q_cat rfl rfl rfl (by (try simp only [ByteArray.size_append, size_lit, List.size_toArray, List.length_cons, List.length_nil]); omega)) ?_
    refine WL_cons rfl (WX_q rfl rfl (q_field_ptr G rfl rfl rfl rfl) (WL_cons rfl (WX_q rfl rfl (q_load_box G rfl rfl rfl rfl rfl rfl rfl) (WL_cons rfl (WX_q rfl rfl (q_build G rfl rfl rfl rfl) (WL_cons rfl (WX_store G rfl rfl rfl rfl rfl rfl rfl rfl rfl rfl rfl (WL_cons rfl (WX_q rfl rfl (q_assign rfl rfl) (?_))))))))))
    refine WL_nil (hK5 _ ?_)
    clear hK5 K5
    refine W_ret (fin_many rfl rfl rfl rfl (rcs_cons (rc_agg rfl ?_) (rcs_cons (rc_v ?_) rcs_nil)))
    all_goals (first | (rw [hO.1]; rfl) | (rw [hO.2]; done) | (rw [hO.2]; rfl))

theorem c_laws_FnExactSyncLog (x : Lg) (h0 : x.d.size ≤ 9223372036854775807 ∧ x.p.size ≤ 9223372036854775807) : Ctr Tryd.prog 7 [.v (encL x)] (.one (.v (.bool true))) := by
  refine Ctr.of (n := 34) G Tryd.func7 rfl (by kernel_rfl) rfl rfl rfl (fun w0 => ?_)
  refine W_seq (fun K1 hK1 => ?_)
  refine W_region (WL_cons rfl (WX_box 1 rfl rfl rfl rfl rfl rfl rfl (WL_cons rfl (WX_q rfl rfl (q_assign rfl rfl) (?_)))))
  refine WL_nil (hK1 _ ?_)
  clear hK1 K1
  refine W_seq (fun K2 hK2 => ?_)
  refine W_region (WL_cons rfl (WX_q rfl rfl (q_assign rfl rfl) (?_)))
  refine WL_nil (hK2 _ ?_)
  clear hK2 K2
  refine W_seq (fun K3 hK3 => ?_)
  refine W_region (WL_cons rfl (WX_q rfl rfl (q_load_box_struct G rfl rfl rfl rfl rfl rfl) (WL_cons rfl (WX_q rfl rfl (q_move rfl rfl) (WL_cons rfl (?_))))))
  refine WX_q rfl rfl (q_call rfl (ArgsOK.of rfl) (c_laws_szLog _ _ (by assumption) (by first | assumption | omega)) rfl) ?_
  refine WL_cons rfl (WX_q rfl rfl (q_assign rfl rfl) (?_))
  refine WL_nil (hK3 _ ?_)
  clear hK3 K3
  refine W_seq (fun K4 hK4 => ?_)
  refine W_seq (fun K5 hK5 => ?_)
  refine W_region (WL_cons rfl (WX_q rfl rfl (q_move rfl rfl) (WL_cons rfl (WX_q rfl rfl (q_cmp rfl rfl rfl rfl) (?_)))))
  refine WL_nil (hK5 _ ?_)
  clear hK5 K5
  refine W_cond rfl (fun h1 => ?_) (fun h1 => ?_)
  · try rw [h1]
    try simp only [decide_eq_true_eq, decide_eq_false_iff_not, beq_iff_eq, bne_iff_ne, ne_eq, Bool.not_eq_true', Bool.not_eq_false', beq_eq_false_iff_ne, bne_eq_false_iff_eq, Bool.not_eq_true, Bool.not_eq_false, Int.not_lt, Int.not_le, gt_iff_lt, ge_iff_le, Bool.and_eq_true, Bool.and_eq_false_iff, Bool.or_eq_true, Bool.or_eq_false_iff] at h1
    refine W_seq (fun K6 hK6 => ?_)
    refine W_region (WL_cons rfl (WX_q rfl rfl (q_assign rfl rfl) (?_)))
    refine WL_nil (hK6 _ ?_)
    clear hK6 K6
    refine W_ret (fin_one rfl (rc_v ?_))
    all_goals clear hK4 K4
    all_goals (first | rfl | (simp_all [eqL_self]; done))
  · try rw [h1]
    try simp only [decide_eq_true_eq, decide_eq_false_iff_not, beq_iff_eq, bne_iff_ne, ne_eq, Bool.not_eq_true', Bool.not_eq_false', beq_eq_false_iff_ne, bne_eq_false_iff_eq, Bool.not_eq_true, Bool.not_eq_false, Int.not_lt, Int.not_le, gt_iff_lt, ge_iff_le, Bool.and_eq_true, Bool.and_eq_false_iff, Bool.or_eq_true, Bool.or_eq_false_iff] at h1
    have hx : x.d.size + x.p.size ≤ 1048576 := by simp only [szL] at h1; split at h1 <;> (try split at h1) <;> omega
    refine W_skip (hK4 _ ?_)
    clear hK4 K4
    refine W_seq (fun K7 hK7 => ?_)
    refine W_region (WL_cons rfl (WX_q rfl rfl (q_load_box_struct G rfl rfl rfl rfl rfl rfl) (WL_cons rfl (?_))))
    refine WX_q rfl rfl (q_call rfl (ArgsOK.of rfl) (c_laws_toLog _) rfl) ?_
    refine WL_cons rfl (?_)
    refine WX_q rfl rfl (q_call rfl (ArgsOK.of rfl) (c_spec_SyncLog _ (by first | assumption | omega)) rfl) ?_
    refine WL_cons rfl (WX_q rfl rfl (q_move rfl rfl) (WL_cons rfl (WX_q rfl rfl (q_extract rfl rfl rfl) (WL_cons rfl (WX_q rfl rfl (q_extract rfl rfl rfl) (WL_cons rfl (WX_alloc_s G 2 rfl rfl rfl rfl rfl (WL_cons rfl (WX_store G rfl rfl rfl rfl rfl rfl rfl rfl rfl rfl rfl (WL_cons rfl (WX_q rfl rfl (q_assign rfl rfl) (?_))))))))))))
    refine WL_nil (hK7 _ ?_)
    clear hK7 K7
    refine W_seq (fun K8 hK8 => ?_)
    refine W_region (WL_cons rfl (WX_q rfl rfl (q_load_box_struct G rfl rfl rfl rfl rfl rfl) (WL_cons rfl (?_))))
    refine WX_q rfl rfl (q_call rfl (ArgsOK.of rfl) (c_laws_toLog _) rfl) ?_
    refine WL_cons rfl (?_)
    refine WX_q rfl rfl (q_call rfl (ArgsOK.of rfl) (c_impl_SyncLog _ (by first | assumption | omega)) rfl) ?_
    refine WL_cons rfl (WX_q rfl rfl (q_move rfl rfl) (WL_cons rfl (WX_q rfl rfl (q_extract rfl rfl rfl) (WL_cons rfl (WX_q rfl rfl (q_extract rfl rfl rfl) (WL_cons rfl (WX_alloc_s G 3 rfl rfl rfl rfl rfl (WL_cons rfl (WX_store G rfl rfl rfl rfl rfl rfl rfl rfl rfl rfl rfl (WL_cons rfl (WX_q rfl rfl (q_assign rfl rfl) (?_))))))))))))
    refine WL_nil (hK8 _ ?_)
    clear hK8 K8
    refine W_seq (fun K9 hK9 => ?_)
    refine W_seq (fun K10 hK10 => ?_)
    refine W_region (WL_cons rfl (WX_q rfl rfl (q_load_box_struct G rfl rfl rfl rfl rfl rfl) (WL_cons rfl (WX_q rfl rfl (q_load_box_struct G rfl rfl rfl rfl rfl rfl) (WL_cons rfl (?_))))))
    refine WX_q rfl rfl (q_call rfl (ArgsOK.of rfl) (c_laws_eqLog _ _) rfl) ?_
    refine WL_cons rfl (WX_q rfl rfl (q_not rfl rfl) (WL_cons rfl (WX_q rfl rfl (q_move rfl rfl) (WL_part rfl rfl rfl (fun h2 => ?_) (fun h2 => ?_)))))
    · try rw [h2]
      try simp only [decide_eq_true_eq, decide_eq_false_iff_not, beq_iff_eq, bne_iff_ne, ne_eq, Bool.not_eq_true', Bool.not_eq_false', beq_eq_false_iff_ne, bne_eq_false_iff_eq, Bool.not_eq_true, Bool.not_eq_false, Int.not_lt, Int.not_le, gt_iff_lt, ge_iff_le, Bool.and_eq_true, Bool.and_eq_false_iff, Bool.or_eq_true, Bool.or_eq_false_iff] at h2
      refine WL_skip rfl rfl rfl rfl rfl rfl (WL_skip rfl rfl rfl rfl rfl rfl (WL_skip rfl rfl rfl rfl rfl rfl (WL_cons rfl (WX_q rfl rfl (q_pick_t rfl rfl rfl) (?_)))))
      refine WL_nil (hK10 _ ?_)
      clear hK10 K10
      refine W_true rfl ?_
      refine W_seq (fun K11 hK11 => ?_)
      refine W_region (WL_cons rfl (WX_q rfl rfl (q_assign rfl rfl) (?_)))
      refine WL_nil (hK11 _ ?_)
      clear hK11 K11
      refine W_ret (fin_one rfl (rc_v ?_))
      all_goals clear hK9 K9
      all_goals (first | rfl | (simp_all [eqL_self]; done))
    · try rw [h2]
      try simp only [decide_eq_true_eq, decide_eq_false_iff_not, beq_iff_eq, bne_iff_ne, ne_eq, Bool.not_eq_true', Bool.not_eq_false', beq_eq_false_iff_ne, bne_eq_false_iff_eq, Bool.not_eq_true, Bool.not_eq_false, Int.not_lt, Int.not_le, gt_iff_lt, ge_iff_le, Bool.and_eq_true, Bool.and_eq_false_iff, Bool.or_eq_true, Bool.or_eq_false_iff] at h2
      refine WL_run rfl rfl rfl (WX_q rfl rfl (q_move rfl rfl) (WL_run rfl rfl rfl (WX_q rfl rfl (q_move rfl rfl) (WL_run rfl rfl rfl (WX_q rfl rfl (q_bne (G 4 _ rfl).1 rfl rfl rfl) (WL_cons rfl (WX_q rfl rfl (q_pick_f rfl rfl rfl) (?_))))))))
      refine WL_nil (hK10 _ ?_)
      clear hK10 K10
      refine W_cond rfl (fun h3 => ?_) (fun h3 => ?_)
      · try rw [h3]
        try simp only [decide_eq_true_eq, decide_eq_false_iff_not, beq_iff_eq, bne_iff_ne, ne_eq, Bool.not_eq_true', Bool.not_eq_false', beq_eq_false_iff_ne, bne_eq_false_iff_eq, Bool.not_eq_true, Bool.not_eq_false, Int.not_lt, Int.not_le, gt_iff_lt, ge_iff_le, Bool.and_eq_true, Bool.and_eq_false_iff, Bool.or_eq_true, Bool.or_eq_false_iff] at h3
        refine W_seq (fun K12 hK12 => ?_)
        refine W_region (WL_cons rfl (WX_q rfl rfl (q_assign rfl rfl) (?_)))
        refine WL_nil (hK12 _ ?_)
        clear hK12 K12
        refine W_ret (fin_one rfl (rc_v ?_))
        all_goals clear hK9 K9
        all_goals (first | rfl | (simp_all [eqL_self]; done))
      · try rw [h3]
        try simp only [decide_eq_true_eq, decide_eq_false_iff_not, beq_iff_eq, bne_iff_ne, ne_eq, Bool.not_eq_true', Bool.not_eq_false', beq_eq_false_iff_ne, bne_eq_false_iff_eq, Bool.not_eq_true, Bool.not_eq_false, Int.not_lt, Int.not_le, gt_iff_lt, ge_iff_le, Bool.and_eq_true, Bool.and_eq_false_iff, Bool.or_eq_true, Bool.or_eq_false_iff] at h3
        refine W_skip (hK9 _ ?_)
        clear hK9 K9
        refine W_seq (fun K13 hK13 => ?_)
        refine W_region (WL_cons rfl (WX_q rfl rfl (q_assign rfl rfl) (?_)))
        refine WL_nil (hK13 _ ?_)
        clear hK13 K13
        refine W_ret (fin_one rfl (rc_v ?_))
        all_goals (first | rfl | (simp_all [eqL_self]; done))

theorem c_spec_AppendRecord (x : Lg) (r : Rec) (hx : x.d.size + x.p.size ≤ 1048576) (hr : r.c.size ≤ 9223372036854775807 ∧ r.r.size ≤ 9223372036854775807) : Ctr Tryd.prog 28 [.v (encL x), .v (encR r)] (.many [.v (encL (apE x r)), .v (.int .i64 (apN x r))]) := by
  refine Ctr.of (n := 32) G Tryd.func28 rfl (by kernel_rfl) rfl rfl rfl (fun w0 => ?_)
  refine W_seq (fun K1 hK1 => ?_)
  refine W_region (WL_cons rfl (WX_box 1 rfl rfl rfl rfl rfl rfl rfl (WL_cons rfl (WX_box 2 rfl rfl rfl rfl rfl rfl rfl (WL_cons rfl (WX_alloc_s G 3 rfl rfl rfl rfl rfl (WL_cons rfl (WX_q rfl rfl (q_assign rfl rfl) (?_)))))))))
  refine WL_nil (hK1 _ ?_)
  clear hK1 K1
  refine W_seq (fun K2 hK2 => ?_)
  refine W_seq (fun K3 hK3 => ?_)
  refine W_region (WL_cons rfl (WX_q rfl rfl (q_load_box_struct G rfl rfl rfl rfl rfl rfl) (WL_cons rfl (?_))))
  refine WX_q rfl rfl (q_call rfl (ArgsOK.of rfl) (c_spec_l27Log _ (by first | assumption | omega)) rfl) ?_
  refine WL_cons rfl (WX_q rfl rfl (q_not rfl rfl) (WL_cons rfl (WX_q rfl rfl (q_move rfl rfl) (WL_part rfl rfl rfl (fun h1 => ?_) (fun h1 => ?_)))))
  · try rw [h1]
    try simp only [decide_eq_true_eq, decide_eq_false_iff_not, beq_iff_eq, bne_iff_ne, ne_eq, Bool.not_eq_true', Bool.not_eq_false', beq_eq_false_iff_ne, bne_eq_false_iff_eq, Bool.not_eq_true, Bool.not_eq_false, Int.not_lt, Int.not_le, gt_iff_lt, ge_iff_le, Bool.and_eq_true, Bool.and_eq_false_iff, Bool.or_eq_true, Bool.or_eq_false_iff] at h1
    have hO := ap_f (x := x) (r := r) (ap_f1 h1)
    refine WL_skip rfl rfl rfl rfl rfl rfl (WL_skip rfl rfl rfl rfl rfl rfl (WL_skip rfl rfl rfl rfl rfl rfl (WL_cons rfl (WX_q rfl rfl (q_pick_t rfl rfl rfl) (?_)))))
    refine WL_nil (hK3 _ ?_)
    clear hK3 K3
    refine W_true rfl ?_
    refine W_seq (fun K4 hK4 => ?_)
    refine W_region (WL_cons rfl (WX_q rfl rfl (q_load_box_struct G rfl rfl rfl rfl rfl rfl) (WL_cons rfl (WX_store G rfl rfl rfl rfl rfl rfl rfl rfl rfl rfl rfl (WL_cons rfl (WX_q rfl rfl (q_assign rfl rfl) (?_)))))))
    refine WL_nil (hK4 _ ?_)
    clear hK4 K4
    refine W_ret (fin_many rfl rfl rfl rfl (rcs_cons (rc_agg rfl ?_) (rcs_cons (rc_v ?_) rcs_nil)))
    all_goals clear hK2 K2
    all_goals (first | (rw [hO.1]; done) | (rw [hO.1]; rfl) | (rw [hO.2]; done) | (rw [hO.2]; rfl))
  · try rw [h1]
    try simp only [decide_eq_true_eq, decide_eq_false_iff_not, beq_iff_eq, bne_iff_ne, ne_eq, Bool.not_eq_true', Bool.not_eq_false', beq_eq_false_iff_ne, bne_eq_false_iff_eq, Bool.not_eq_true, Bool.not_eq_false, Int.not_lt, Int.not_le, gt_iff_lt, ge_iff_le, Bool.and_eq_true, Bool.and_eq_false_iff, Bool.or_eq_true, Bool.or_eq_false_iff] at h1
    refine WL_run rfl rfl rfl (WX_q rfl rfl (q_load_box_struct G rfl rfl rfl rfl rfl rfl) (WL_run rfl rfl rfl (?_)))
    refine WX_q rfl rfl (q_call rfl (ArgsOK.of rfl) (c_spec_l27Good _ (by assumption)) rfl) ?_
    refine WL_run rfl rfl rfl (WX_q rfl rfl (q_not rfl rfl) (WL_cons rfl (WX_q rfl rfl (q_pick_f rfl rfl rfl) (?_))))
    refine WL_nil (hK3 _ ?_)
    clear hK3 K3
    refine W_cond rfl (fun h2 => ?_) (fun h2 => ?_)
    · try rw [h2]
      try simp only [decide_eq_true_eq, decide_eq_false_iff_not, beq_iff_eq, bne_iff_ne, ne_eq, Bool.not_eq_true', Bool.not_eq_false', beq_eq_false_iff_ne, bne_eq_false_iff_eq, Bool.not_eq_true, Bool.not_eq_false, Int.not_lt, Int.not_le, gt_iff_lt, ge_iff_le, Bool.and_eq_true, Bool.and_eq_false_iff, Bool.or_eq_true, Bool.or_eq_false_iff] at h2
      have hO := ap_f (x := x) (r := r) (ap_f2 h2)
      refine W_seq (fun K5 hK5 => ?_)
      refine W_region (WL_cons rfl (WX_q rfl rfl (q_load_box_struct G rfl rfl rfl rfl rfl rfl) (WL_cons rfl (WX_store G rfl rfl rfl rfl rfl rfl rfl rfl rfl rfl rfl (WL_cons rfl (WX_q rfl rfl (q_assign rfl rfl) (?_)))))))
      refine WL_nil (hK5 _ ?_)
      clear hK5 K5
      refine W_ret (fin_many rfl rfl rfl rfl (rcs_cons (rc_agg rfl ?_) (rcs_cons (rc_v ?_) rcs_nil)))
      all_goals clear hK2 K2
      all_goals (first | (rw [hO.1]; done) | (rw [hO.1]; rfl) | (rw [hO.2]; done) | (rw [hO.2]; rfl))
    · try rw [h2]
      try simp only [decide_eq_true_eq, decide_eq_false_iff_not, beq_iff_eq, bne_iff_ne, ne_eq, Bool.not_eq_true', Bool.not_eq_false', beq_eq_false_iff_ne, bne_eq_false_iff_eq, Bool.not_eq_true, Bool.not_eq_false, Int.not_lt, Int.not_le, gt_iff_lt, ge_iff_le, Bool.and_eq_true, Bool.and_eq_false_iff, Bool.or_eq_true, Bool.or_eq_false_iff] at h2
      refine W_skip (hK2 _ ?_)
      clear hK2 K2
      refine W_seq (fun K6 hK6 => ?_)
      refine W_seq (fun K7 hK7 => ?_)
      refine W_region (WL_cons rfl (WX_q rfl rfl (q_field_ptr G rfl rfl rfl rfl) (WL_cons rfl (WX_q rfl rfl (q_load_box G rfl rfl rfl rfl rfl rfl rfl) (WL_cons rfl (WX_q rfl rfl (q_cmp rfl rfl rfl rfl) (?_)))))))
      refine WL_nil (hK7 _ ?_)
      clear hK7 K7
      refine W_cond rfl (fun h3 => ?_) (fun h3 => ?_)
      · try rw [h3]
        try simp only [decide_eq_true_eq, decide_eq_false_iff_not, beq_iff_eq, bne_iff_ne, ne_eq, Bool.not_eq_true', Bool.not_eq_false', beq_eq_false_iff_ne, bne_eq_false_iff_eq, Bool.not_eq_true, Bool.not_eq_false, Int.not_lt, Int.not_le, gt_iff_lt, ge_iff_le, Bool.and_eq_true, Bool.and_eq_false_iff, Bool.or_eq_true, Bool.or_eq_false_iff] at h3
        have hO := ap_n (x := x) (r := r) h1 h2 h3
        refine W_seq (fun K8 hK8 => ?_)
        refine W_region (WL_cons rfl (WX_q rfl rfl (q_load_box_struct G rfl rfl rfl rfl rfl rfl) (WL_cons rfl (WX_store G rfl rfl rfl rfl rfl rfl rfl rfl rfl rfl rfl (WL_cons rfl (WX_q rfl rfl (q_assign rfl rfl) (?_)))))))
        refine WL_nil (hK8 _ ?_)
        clear hK8 K8
        refine W_ret (fin_many rfl rfl rfl rfl (rcs_cons (rc_agg rfl ?_) (rcs_cons (rc_v ?_) rcs_nil)))
        all_goals clear hK6 K6
        all_goals (first | (rw [hO.1]; done) | (rw [hO.1]; rfl) | (rw [hO.2]; done) | (rw [hO.2]; rfl))
      · try rw [h3]
        try simp only [decide_eq_true_eq, decide_eq_false_iff_not, beq_iff_eq, bne_iff_ne, ne_eq, Bool.not_eq_true', Bool.not_eq_false', beq_eq_false_iff_ne, bne_eq_false_iff_eq, Bool.not_eq_true, Bool.not_eq_false, Int.not_lt, Int.not_le, gt_iff_lt, ge_iff_le, Bool.and_eq_true, Bool.and_eq_false_iff, Bool.or_eq_true, Bool.or_eq_false_iff] at h3
        have hz := okLg_ok (x := x) (by assumption)
        have hls := line_size (k := x.n) (x := r) (by omega) (by omega) (by assumption)
        have hO := ap_t (x := x) (r := r) h1 h2 h3
        refine W_skip (hK6 _ ?_)
        clear hK6 K6
        refine W_seq (fun K9 hK9 => ?_)
        apply W_drawsJ [2, 4] [0, 1, 2] 3 9 [1, 2] mixed (by kernel_rfl) rfl rfl hK9
        · intro r0
          refine WA_take 0 rfl (by kernel_rfl) (by kernel_rfl) rfl rfl rfl rfl (q_field_ptr G rfl rfl rfl rfl) (WA_take 2 rfl (by kernel_rfl) (by kernel_rfl) rfl rfl rfl rfl (q_field_ptr G rfl rfl rfl rfl) (WA_take 4 rfl (by kernel_rfl) (by kernel_rfl) rfl rfl rfl rfl (q_load_box_struct G rfl rfl rfl rfl rfl rfl) (?_)))
          refine WA_branch (rs := [1, 3]) (by kernel_rfl) rfl (AllB.cons ?_ (AllB.cons ?_ AllB.nil))
          · refine WB_run [1, 2] rfl rfl (WX_q rfl rfl (q_load_box G rfl rfl rfl rfl rfl rfl rfl) (WL_nil ⟨rfl, ?_⟩))
            refine WA_branch (rs := [3]) (by kernel_rfl) rfl (AllB.cons ?_ AllB.nil)
            refine WB_run [1, 2] rfl rfl (WX_q rfl rfl (q_load_box G rfl rfl rfl rfl rfl rfl rfl) (WL_nil ⟨rfl, ?_⟩))
            refine WA_branch (rs := [5]) (by kernel_rfl) rfl (AllB.cons ?_ AllB.nil)
            refine WB_run [1, 2] rfl rfl (WX_q rfl rfl (q_call rfl (ArgsOK.of rfl) (c_spec_l27Line _ _ (by first | assumption | omega) (by first | assumption | omega) (by assumption)) rfl) (WL_nil ⟨rfl, ?_⟩))
            refine WA_take 6 rfl (by kernel_rfl) (by kernel_rfl) rfl rfl rfl rfl (q_cat rfl rfl rfl (by (try simp only [ByteArray.size_append, size_lit, List.size_toArray, List.length_cons, List.length_nil]); omega)) ?_
            refine WA_take 7 rfl (by kernel_rfl) (by kernel_rfl) rfl rfl rfl rfl (q_field_ptr G rfl rfl rfl rfl) (?_)
            refine WA_branch (rs := [8]) (by kernel_rfl) rfl (AllB.cons ?_ AllB.nil)
            refine WB_run [1, 2] rfl rfl (WX_store G rfl rfl rfl rfl rfl rfl rfl rfl rfl rfl rfl (WL_nil ⟨rfl, ?_⟩))
            exact WA_end (by kernel_rfl) (Meet.mk rfl rfl rfl rfl)
          · refine WB_run [1, 2] rfl rfl (WX_q rfl rfl (q_load_box G rfl rfl rfl rfl rfl rfl rfl) (WL_nil ⟨rfl, ?_⟩))
            refine WA_branch (rs := [1, 5]) (by kernel_rfl) rfl (AllB.cons ?_ (AllB.cons ?_ AllB.nil))
            · refine WB_run [1, 2] rfl rfl (WX_q rfl rfl (q_load_box G rfl rfl rfl rfl rfl rfl rfl) (WL_nil ⟨rfl, ?_⟩))
              refine WA_branch (rs := [5]) (by kernel_rfl) rfl (AllB.cons ?_ AllB.nil)
              refine WB_run [1, 2] rfl rfl (WX_q rfl rfl (q_call rfl (ArgsOK.of rfl) (c_spec_l27Line _ _ (by first | assumption | omega) (by first | assumption | omega) (by assumption)) rfl) (WL_nil ⟨rfl, ?_⟩))
              refine WA_take 6 rfl (by kernel_rfl) (by kernel_rfl) rfl rfl rfl rfl (q_cat rfl rfl rfl (by (try simp only [ByteArray.size_append, size_lit, List.size_toArray, List.length_cons, List.length_nil]); omega)) ?_
              refine WA_take 7 rfl (by kernel_rfl) (by kernel_rfl) rfl rfl rfl rfl (q_field_ptr G rfl rfl rfl rfl) (?_)
              refine WA_branch (rs := [8]) (by kernel_rfl) rfl (AllB.cons ?_ AllB.nil)
              refine WB_run [1, 2] rfl rfl (WX_store G rfl rfl rfl rfl rfl rfl rfl rfl rfl rfl rfl (WL_nil ⟨rfl, ?_⟩))
              exact WA_end (by kernel_rfl) (Meet.mk rfl rfl rfl rfl)
            · refine WB_run [1, 2] rfl rfl (WX_q rfl rfl (q_call rfl (ArgsOK.of rfl) (c_spec_l27Line _ _ (by first | assumption | omega) (by first | assumption | omega) (by assumption)) rfl) (WL_nil ⟨rfl, ?_⟩))
              refine WA_branch (rs := [1]) (by kernel_rfl) rfl (AllB.cons ?_ AllB.nil)
              refine WB_run [1, 2] rfl rfl (WX_q rfl rfl (q_load_box G rfl rfl rfl rfl rfl rfl rfl) (WL_nil ⟨rfl, ?_⟩))
              refine WA_take 6 rfl (by kernel_rfl) (by kernel_rfl) rfl rfl rfl rfl (q_cat rfl rfl rfl (by (try simp only [ByteArray.size_append, size_lit, List.size_toArray, List.length_cons, List.length_nil]); omega)) ?_
              refine WA_take 7 rfl (by kernel_rfl) (by kernel_rfl) rfl rfl rfl rfl (q_field_ptr G rfl rfl rfl rfl) (?_)
              refine WA_branch (rs := [8]) (by kernel_rfl) rfl (AllB.cons ?_ AllB.nil)
              refine WB_run [1, 2] rfl rfl (WX_store G rfl rfl rfl rfl rfl rfl rfl rfl rfl rfl rfl (WL_nil ⟨rfl, ?_⟩))
              exact WA_end (by kernel_rfl) (Meet.mk rfl rfl rfl rfl)
        · clear hK9 K9
          refine W_seq (fun K10 hK10 => ?_)
          refine W_region (WL_cons rfl (WX_q rfl rfl (q_field_ptr G rfl rfl rfl rfl) (WL_cons rfl (WX_q rfl rfl (q_load_box G rfl rfl rfl rfl rfl rfl rfl) (WL_cons rfl (?_))))))
          first | refine WX_q rfl rfl (q_arith rfl rfl rfl rfl (by omega) (by omega)) ?_ | refine WX_q rfl rfl (q_wrap rfl rfl rfl rfl) ?_
          refine WL_cons rfl (WX_q rfl rfl (q_field_ptr G rfl rfl rfl rfl) (WL_cons rfl (WX_store G rfl rfl rfl rfl rfl rfl rfl rfl rfl rfl rfl (?_))))
          refine WL_nil (hK10 _ ?_)
          clear hK10 K10
          refine W_seq (fun K11 hK11 => ?_)
          refine W_region (WL_cons rfl (WX_q rfl rfl (q_load_box_struct G rfl rfl rfl rfl rfl rfl) (WL_cons rfl (WX_store G rfl rfl rfl rfl rfl rfl rfl rfl rfl rfl rfl (WL_cons rfl (WX_q rfl rfl (q_assign rfl rfl) (?_)))))))
          refine WL_nil (hK11 _ ?_)
          clear hK11 K11
          refine W_ret (fin_many rfl rfl rfl rfl (rcs_cons (rc_agg rfl ?_) (rcs_cons (rc_v ?_) rcs_nil)))
          all_goals (first | (rw [hO.1]; done) | (rw [hO.1]; rfl) | (rw [hO.2]; done) | (rw [hO.2]; rfl))

theorem c_impl_AppendRecord (x : Lg) (r : Rec) (hx : x.d.size + x.p.size ≤ 1048576) (hr : r.c.size ≤ 9223372036854775807 ∧ r.r.size ≤ 9223372036854775807) : Ctr Tryd.prog 29 [.v (encL x), .v (encR r)] (.many [.v (encL (apE x r)), .v (.int .i64 (apN x r))]) := by
  refine Ctr.of (n := 34) G Tryd.func29 rfl (by kernel_rfl) rfl rfl rfl (fun w0 => ?_)
  refine W_seq (fun K1 hK1 => ?_)
  refine W_region (WL_cons rfl (WX_box 1 rfl rfl rfl rfl rfl rfl rfl (WL_cons rfl (WX_box 2 rfl rfl rfl rfl rfl rfl rfl (WL_cons rfl (WX_alloc_s G 3 rfl rfl rfl rfl rfl (WL_cons rfl (WX_q rfl rfl (q_assign rfl rfl) (?_)))))))))
  refine WL_nil (hK1 _ ?_)
  clear hK1 K1
  refine W_seq (fun K2 hK2 => ?_)
  refine W_block ?_
  refine W_seq (fun K3 hK3 => ?_)
  refine W_region (WL_cons rfl (WX_q rfl rfl (q_load_box_struct G rfl rfl rfl rfl rfl rfl) (WL_cons rfl (?_))))
  refine WX_q rfl rfl (q_call rfl (ArgsOK.of rfl) (c_impl_IsValidLog _ (by first | assumption | omega)) rfl) ?_
  refine WL_cons rfl (WX_q rfl rfl (q_not rfl rfl) (WL_cons rfl (WX_q rfl rfl (q_move rfl rfl) (WL_part rfl rfl rfl (fun h1 => ?_) (fun h1 => ?_)))))
  · try rw [h1]
    try simp only [decide_eq_true_eq, decide_eq_false_iff_not, beq_iff_eq, bne_iff_ne, ne_eq, Bool.not_eq_true', Bool.not_eq_false', beq_eq_false_iff_ne, bne_eq_false_iff_eq, Bool.not_eq_true, Bool.not_eq_false, Int.not_lt, Int.not_le, gt_iff_lt, ge_iff_le, Bool.and_eq_true, Bool.and_eq_false_iff, Bool.or_eq_true, Bool.or_eq_false_iff] at h1
    have hO := ap_f (x := x) (r := r) (ap_f1 h1)
    refine WL_skip rfl rfl rfl rfl rfl rfl (WL_skip rfl rfl rfl rfl rfl rfl (WL_skip rfl rfl rfl rfl rfl rfl (WL_cons rfl (WX_q rfl rfl (q_pick_t rfl rfl rfl) (WL_cons rfl (WX_q rfl rfl (q_assign rfl rfl) (?_)))))))
    refine WL_nil (hK3 _ ?_)
    clear hK3 K3
    refine W_true rfl ?_
    refine W_seq (fun K4 hK4 => ?_)
    refine W_region (WL_cons rfl (WX_q rfl rfl (q_load_box_struct G rfl rfl rfl rfl rfl rfl) (WL_cons rfl (WX_store G rfl rfl rfl rfl rfl rfl rfl rfl rfl rfl rfl (WL_cons rfl (WX_q rfl rfl (q_assign rfl rfl) (?_)))))))
    refine WL_nil (hK4 _ ?_)
    clear hK4 K4
    refine W_ret (fin_many rfl rfl rfl rfl (rcs_cons (rc_agg rfl ?_) (rcs_cons (rc_v ?_) rcs_nil)))
    all_goals clear hK2 K2
    all_goals (first | (rw [hO.1]; done) | (rw [hO.1]; rfl) | (rw [hO.2]; done) | (rw [hO.2]; rfl))
  · try rw [h1]
    try simp only [decide_eq_true_eq, decide_eq_false_iff_not, beq_iff_eq, bne_iff_ne, ne_eq, Bool.not_eq_true', Bool.not_eq_false', beq_eq_false_iff_ne, bne_eq_false_iff_eq, Bool.not_eq_true, Bool.not_eq_false, Int.not_lt, Int.not_le, gt_iff_lt, ge_iff_le, Bool.and_eq_true, Bool.and_eq_false_iff, Bool.or_eq_true, Bool.or_eq_false_iff] at h1
    refine WL_run rfl rfl rfl (WX_q rfl rfl (q_load_box_struct G rfl rfl rfl rfl rfl rfl) (WL_run rfl rfl rfl (?_)))
    refine WX_q rfl rfl (q_call rfl (ArgsOK.of rfl) (c_impl_IsValidRecord _ (by assumption)) rfl) ?_
    refine WL_run rfl rfl rfl (WX_q rfl rfl (q_not rfl rfl) (WL_cons rfl (WX_q rfl rfl (q_pick_f rfl rfl rfl) (WL_cons rfl (WX_q rfl rfl (q_assign rfl rfl) (?_))))))
    refine WL_nil (hK3 _ ?_)
    clear hK3 K3
    refine W_cond rfl (fun h2 => ?_) (fun h2 => ?_)
    · try rw [h2]
      try simp only [decide_eq_true_eq, decide_eq_false_iff_not, beq_iff_eq, bne_iff_ne, ne_eq, Bool.not_eq_true', Bool.not_eq_false', beq_eq_false_iff_ne, bne_eq_false_iff_eq, Bool.not_eq_true, Bool.not_eq_false, Int.not_lt, Int.not_le, gt_iff_lt, ge_iff_le, Bool.and_eq_true, Bool.and_eq_false_iff, Bool.or_eq_true, Bool.or_eq_false_iff] at h2
      have hO := ap_f (x := x) (r := r) (ap_f2 h2)
      refine W_seq (fun K5 hK5 => ?_)
      refine W_region (WL_cons rfl (WX_q rfl rfl (q_load_box_struct G rfl rfl rfl rfl rfl rfl) (WL_cons rfl (WX_store G rfl rfl rfl rfl rfl rfl rfl rfl rfl rfl rfl (WL_cons rfl (WX_q rfl rfl (q_assign rfl rfl) (?_)))))))
      refine WL_nil (hK5 _ ?_)
      clear hK5 K5
      refine W_ret (fin_many rfl rfl rfl rfl (rcs_cons (rc_agg rfl ?_) (rcs_cons (rc_v ?_) rcs_nil)))
      all_goals clear hK2 K2
      all_goals (first | (rw [hO.1]; done) | (rw [hO.1]; rfl) | (rw [hO.2]; done) | (rw [hO.2]; rfl))
    · try rw [h2]
      try simp only [decide_eq_true_eq, decide_eq_false_iff_not, beq_iff_eq, bne_iff_ne, ne_eq, Bool.not_eq_true', Bool.not_eq_false', beq_eq_false_iff_ne, bne_eq_false_iff_eq, Bool.not_eq_true, Bool.not_eq_false, Int.not_lt, Int.not_le, gt_iff_lt, ge_iff_le, Bool.and_eq_true, Bool.and_eq_false_iff, Bool.or_eq_true, Bool.or_eq_false_iff] at h2
      refine W_seq (fun K6 hK6 => ?_)
      refine W_region (WL_cons rfl (WX_q rfl rfl (q_field_ptr G rfl rfl rfl rfl) (WL_cons rfl (WX_q rfl rfl (q_load_box G rfl rfl rfl rfl rfl rfl rfl) (WL_cons rfl (WX_q rfl rfl (q_cmp rfl rfl rfl rfl) (WL_cons rfl (WX_q rfl rfl (q_assign rfl rfl) (?_)))))))))
      refine WL_nil (hK6 _ ?_)
      clear hK6 K6
      refine W_cond rfl (fun h3 => ?_) (fun h3 => ?_)
      · try rw [h3]
        try simp only [decide_eq_true_eq, decide_eq_false_iff_not, beq_iff_eq, bne_iff_ne, ne_eq, Bool.not_eq_true', Bool.not_eq_false', beq_eq_false_iff_ne, bne_eq_false_iff_eq, Bool.not_eq_true, Bool.not_eq_false, Int.not_lt, Int.not_le, gt_iff_lt, ge_iff_le, Bool.and_eq_true, Bool.and_eq_false_iff, Bool.or_eq_true, Bool.or_eq_false_iff] at h3
        have hO := ap_n (x := x) (r := r) h1 h2 h3
        refine W_seq (fun K7 hK7 => ?_)
        refine W_region (WL_cons rfl (WX_q rfl rfl (q_load_box_struct G rfl rfl rfl rfl rfl rfl) (WL_cons rfl (WX_store G rfl rfl rfl rfl rfl rfl rfl rfl rfl rfl rfl (WL_cons rfl (WX_q rfl rfl (q_assign rfl rfl) (?_)))))))
        refine WL_nil (hK7 _ ?_)
        clear hK7 K7
        refine W_ret (fin_many rfl rfl rfl rfl (rcs_cons (rc_agg rfl ?_) (rcs_cons (rc_v ?_) rcs_nil)))
        all_goals clear hK2 K2
        all_goals (first | (rw [hO.1]; done) | (rw [hO.1]; rfl) | (rw [hO.2]; done) | (rw [hO.2]; rfl))
      · try rw [h3]
        try simp only [decide_eq_true_eq, decide_eq_false_iff_not, beq_iff_eq, bne_iff_ne, ne_eq, Bool.not_eq_true', Bool.not_eq_false', beq_eq_false_iff_ne, bne_eq_false_iff_eq, Bool.not_eq_true, Bool.not_eq_false, Int.not_lt, Int.not_le, gt_iff_lt, ge_iff_le, Bool.and_eq_true, Bool.and_eq_false_iff, Bool.or_eq_true, Bool.or_eq_false_iff] at h3
        have hz := okLg_ok (x := x) (by assumption)
        have hls := line_size (k := x.n) (x := r) (by omega) (by omega) (by assumption)
        have hO := ap_t (x := x) (r := r) h1 h2 h3
        refine W_skip (hK2 _ ?_)
        clear hK2 K2
        refine W_seq (fun K8 hK8 => ?_)
        refine W_drawsH 15 [0, 1] mixed (by kernel_rfl) rfl rfl (fun r0 => ?_) (fun _ h => h)
        refine WA_take 0 rfl (by kernel_rfl) (by kernel_rfl) rfl rfl rfl rfl (q_field_ptr G rfl rfl rfl rfl) (WA_take 1 rfl (by kernel_rfl) (by kernel_rfl) rfl rfl rfl rfl (q_load_box G rfl rfl rfl rfl rfl rfl rfl) (WA_take 2 rfl (by kernel_rfl) (by kernel_rfl) rfl rfl rfl rfl (q_field_ptr G rfl rfl rfl rfl) (WA_take 3 rfl (by kernel_rfl) (by kernel_rfl) rfl rfl rfl rfl (q_load_box G rfl rfl rfl rfl rfl rfl rfl) (WA_take 4 rfl (by kernel_rfl) (by kernel_rfl) rfl rfl rfl rfl (q_field_ptr G rfl rfl rfl rfl) (WA_take 5 rfl (by kernel_rfl) (by kernel_rfl) rfl rfl rfl rfl (q_load_box G rfl rfl rfl rfl rfl rfl rfl) (WA_take 6 rfl (by kernel_rfl) (by kernel_rfl) rfl rfl rfl rfl (q_load_box_struct G rfl rfl rfl rfl rfl rfl) (WA_take 9 rfl (by kernel_rfl) (by kernel_rfl) rfl rfl rfl rfl (q_field_ptr G rfl rfl rfl rfl) (WA_take 10 rfl (by kernel_rfl) (by kernel_rfl) rfl rfl rfl rfl (q_load_box G rfl rfl rfl rfl rfl rfl rfl) (?_)))))))))
        first | refine WA_take 11 rfl (by kernel_rfl) (by kernel_rfl) rfl rfl rfl rfl (q_arith rfl rfl rfl rfl (by omega) (by omega)) ?_ | refine WA_take 11 rfl (by kernel_rfl) (by kernel_rfl) rfl rfl rfl rfl (q_wrap rfl rfl rfl rfl) ?_
        refine WA_branch (rs := [7]) (by kernel_rfl) rfl (AllB.cons ?_ AllB.nil)
        refine WB_run [0, 1] rfl rfl (WX_q rfl rfl (q_call rfl (ArgsOK.of rfl) (c_impl_encodeRecord _ _ (by first | assumption | omega) (by first | assumption | omega) (by assumption)) rfl) (WL_nil ⟨rfl, ?_⟩))
        refine WA_take 8 rfl (by kernel_rfl) (by kernel_rfl) rfl rfl rfl rfl (q_cat rfl rfl rfl (by (try simp only [ByteArray.size_append, size_lit, List.size_toArray, List.length_cons, List.length_nil]); omega)) ?_
        refine WA_take 12 rfl (by kernel_rfl) (by kernel_rfl) rfl rfl rfl rfl (q_build G rfl rfl rfl rfl) (?_)
        refine WA_branch (rs := [13]) (by kernel_rfl) rfl (AllB.cons ?_ AllB.nil)
        refine WB_run [0, 1] rfl rfl (WX_store G rfl rfl rfl rfl rfl rfl rfl rfl rfl rfl rfl (WL_nil ⟨rfl, ?_⟩))
        refine WA_take 14 rfl (by kernel_rfl) (by kernel_rfl) rfl rfl rfl rfl (q_assign rfl rfl) (?_)
        refine WA_end (by kernel_rfl) (hK8 _ ?_)
        clear hK8 K8
        refine W_ret (fin_many rfl rfl rfl rfl (rcs_cons (rc_agg rfl ?_) (rcs_cons (rc_v ?_) rcs_nil)))
        all_goals (first | (rw [hO.1]; done) | (rw [hO.1]; rfl) | (rw [hO.2]; done) | (rw [hO.2]; rfl))

theorem c_laws_FnExactAppendRecord (x : Lg) (r : Rec) (h0 : x.d.size ≤ 9223372036854775807 ∧ x.p.size ≤ 9223372036854775807) (h2 : r.c.size ≤ 9223372036854775807 ∧ r.r.size ≤ 9223372036854775807) : Ctr Tryd.prog 8 [.v (encL x), .v (encR r)] (.one (.v (.bool true))) := by
  refine Ctr.of (n := 45) G Tryd.func8 rfl (by kernel_rfl) rfl rfl rfl (fun w0 => ?_)
  refine W_seq (fun K1 hK1 => ?_)
  refine W_region (WL_cons rfl (WX_box 1 rfl rfl rfl rfl rfl rfl rfl (WL_cons rfl (WX_box 2 rfl rfl rfl rfl rfl rfl rfl (WL_cons rfl (WX_q rfl rfl (q_assign rfl rfl) (?_)))))))
  refine WL_nil (hK1 _ ?_)
  clear hK1 K1
  refine W_seq (fun K2 hK2 => ?_)
  refine W_region (WL_cons rfl (WX_q rfl rfl (q_assign rfl rfl) (?_)))
  refine WL_nil (hK2 _ ?_)
  clear hK2 K2
  refine W_seq (fun K3 hK3 => ?_)
  refine W_region (WL_cons rfl (WX_q rfl rfl (q_load_box_struct G rfl rfl rfl rfl rfl rfl) (WL_cons rfl (WX_q rfl rfl (q_move rfl rfl) (WL_cons rfl (?_))))))
  refine WX_q rfl rfl (q_call rfl (ArgsOK.of rfl) (c_laws_szLog _ _ (by assumption) (by first | assumption | omega)) rfl) ?_
  refine WL_cons rfl (WX_q rfl rfl (q_assign rfl rfl) (?_))
  refine WL_nil (hK3 _ ?_)
  clear hK3 K3
  refine W_seq (fun K4 hK4 => ?_)
  refine W_seq (fun K5 hK5 => ?_)
  refine W_region (WL_cons rfl (WX_q rfl rfl (q_move rfl rfl) (WL_cons rfl (WX_q rfl rfl (q_cmp rfl rfl rfl rfl) (?_)))))
  refine WL_nil (hK5 _ ?_)
  clear hK5 K5
  refine W_cond rfl (fun h1 => ?_) (fun h1 => ?_)
  · try rw [h1]
    try simp only [decide_eq_true_eq, decide_eq_false_iff_not, beq_iff_eq, bne_iff_ne, ne_eq, Bool.not_eq_true', Bool.not_eq_false', beq_eq_false_iff_ne, bne_eq_false_iff_eq, Bool.not_eq_true, Bool.not_eq_false, Int.not_lt, Int.not_le, gt_iff_lt, ge_iff_le, Bool.and_eq_true, Bool.and_eq_false_iff, Bool.or_eq_true, Bool.or_eq_false_iff] at h1
    refine W_seq (fun K6 hK6 => ?_)
    refine W_region (WL_cons rfl (WX_q rfl rfl (q_assign rfl rfl) (?_)))
    refine WL_nil (hK6 _ ?_)
    clear hK6 K6
    refine W_ret (fin_one rfl (rc_v ?_))
    all_goals clear hK4 K4
    all_goals (first | rfl | (simp_all [eqL_self]; done))
  · try rw [h1]
    try simp only [decide_eq_true_eq, decide_eq_false_iff_not, beq_iff_eq, bne_iff_ne, ne_eq, Bool.not_eq_true', Bool.not_eq_false', beq_eq_false_iff_ne, bne_eq_false_iff_eq, Bool.not_eq_true, Bool.not_eq_false, Int.not_lt, Int.not_le, gt_iff_lt, ge_iff_le, Bool.and_eq_true, Bool.and_eq_false_iff, Bool.or_eq_true, Bool.or_eq_false_iff] at h1
    have hx : x.d.size + x.p.size ≤ 1048576 := by simp only [szL] at h1; split at h1 <;> (try split at h1) <;> omega
    have hsz : szL x 1048576 ≤ 1048576 := by simp only [szL]; split <;> (try split) <;> omega
    refine W_skip (hK4 _ ?_)
    clear hK4 K4
    refine W_seq (fun K7 hK7 => ?_)
    refine W_region (WL_cons rfl (WX_q rfl rfl (q_load_box_struct G rfl rfl rfl rfl rfl rfl) (WL_cons rfl (WX_q rfl rfl (q_move rfl rfl) (WL_cons rfl (?_))))))
    refine WX_q rfl rfl (q_call rfl (ArgsOK.of rfl) (c_laws_szLogRecord _ _ (by assumption) (by first | assumption | omega)) rfl) ?_
    refine WL_cons rfl (WX_q rfl rfl (q_assign rfl rfl) (?_))
    refine WL_nil (hK7 _ ?_)
    clear hK7 K7
    refine W_seq (fun K8 hK8 => ?_)
    refine W_seq (fun K9 hK9 => ?_)
    refine W_region (WL_cons rfl (WX_q rfl rfl (q_move rfl rfl) (WL_cons rfl (WX_q rfl rfl (q_cmp rfl rfl rfl rfl) (?_)))))
    refine WL_nil (hK9 _ ?_)
    clear hK9 K9
    refine W_cond rfl (fun h2 => ?_) (fun h2 => ?_)
    · try rw [h2]
      try simp only [decide_eq_true_eq, decide_eq_false_iff_not, beq_iff_eq, bne_iff_ne, ne_eq, Bool.not_eq_true', Bool.not_eq_false', beq_eq_false_iff_ne, bne_eq_false_iff_eq, Bool.not_eq_true, Bool.not_eq_false, Int.not_lt, Int.not_le, gt_iff_lt, ge_iff_le, Bool.and_eq_true, Bool.and_eq_false_iff, Bool.or_eq_true, Bool.or_eq_false_iff] at h2
      refine W_seq (fun K10 hK10 => ?_)
      refine W_region (WL_cons rfl (WX_q rfl rfl (q_assign rfl rfl) (?_)))
      refine WL_nil (hK10 _ ?_)
      clear hK10 K10
      refine W_ret (fin_one rfl (rc_v ?_))
      all_goals clear hK8 K8
      all_goals (first | rfl | (simp_all [eqL_self]; done))
    · try rw [h2]
      try simp only [decide_eq_true_eq, decide_eq_false_iff_not, beq_iff_eq, bne_iff_ne, ne_eq, Bool.not_eq_true', Bool.not_eq_false', beq_eq_false_iff_ne, bne_eq_false_iff_eq, Bool.not_eq_true, Bool.not_eq_false, Int.not_lt, Int.not_le, gt_iff_lt, ge_iff_le, Bool.and_eq_true, Bool.and_eq_false_iff, Bool.or_eq_true, Bool.or_eq_false_iff] at h2
      refine W_skip (hK8 _ ?_)
      clear hK8 K8
      refine W_seq (fun K11 hK11 => ?_)
      apply W_drawsJ [2, 3, 6, 7] [0, 1, 2] 3 11 [0, 1] mixed (by kernel_rfl) rfl rfl hK11
      · intro r0
        refine WA_take 0 rfl (by kernel_rfl) (by kernel_rfl) rfl rfl rfl rfl (q_load_box_struct G rfl rfl rfl rfl rfl rfl) (WA_take 2 rfl (by kernel_rfl) (by kernel_rfl) rfl rfl rfl rfl (q_load_box_struct G rfl rfl rfl rfl rfl rfl) (?_))
        refine WA_branch (rs := [1, 8]) (by kernel_rfl) rfl (AllB.cons ?_ (AllB.cons ?_ AllB.nil))
        · refine WB_run [0, 1] rfl rfl (WX_q rfl rfl (q_call rfl (ArgsOK.of rfl) (c_laws_toLog _) rfl) (WL_nil ⟨rfl, ?_⟩))
          refine WA_branch (rs := [3, 8]) (by kernel_rfl) rfl (AllB.cons ?_ (AllB.cons ?_ AllB.nil))
          · refine WB_run [0, 1] rfl rfl (WX_q rfl rfl (q_call rfl (ArgsOK.of rfl) (c_laws_toLogRecord _) rfl) (WL_nil ⟨rfl, ?_⟩))
            refine WA_branch (rs := [4, 8]) (by kernel_rfl) rfl (AllB.cons ?_ (AllB.cons ?_ AllB.nil))
            · refine WB_run [0, 1] rfl rfl (WX_q rfl rfl (q_call rfl (ArgsOK.of rfl) (c_spec_AppendRecord _ _ (by first | assumption | omega) (by assumption)) rfl) (WL_nil ⟨rfl, ?_⟩))
              refine WA_take 5 rfl (by kernel_rfl) (by kernel_rfl) rfl rfl rfl rfl (q_move rfl rfl) (WA_take 6 rfl (by kernel_rfl) (by kernel_rfl) rfl rfl rfl rfl (q_extract rfl rfl rfl) (WA_take 7 rfl (by kernel_rfl) (by kernel_rfl) rfl rfl rfl rfl (q_extract rfl rfl rfl) (?_)))
              refine WA_branch (rs := [8]) (by kernel_rfl) rfl (AllB.cons ?_ AllB.nil)
              refine WB_run [0, 1] rfl rfl (WX_alloc_s G 3 rfl rfl rfl rfl rfl (WL_nil ⟨rfl, ?_⟩))
              refine WA_branch (rs := [9]) (by kernel_rfl) rfl (AllB.cons ?_ AllB.nil)
              refine WB_run [0, 1] rfl rfl (WX_store G rfl rfl rfl rfl rfl rfl rfl rfl rfl rfl rfl (WL_nil ⟨rfl, ?_⟩))
              refine WA_take 10 rfl (by kernel_rfl) (by kernel_rfl) rfl rfl rfl rfl (q_assign rfl rfl) (?_)
              exact WA_end (by kernel_rfl) (Meet.mk rfl rfl rfl rfl)
            · refine WB_run [0, 1] rfl rfl (WX_alloc_s G 3 rfl rfl rfl rfl rfl (WL_nil ⟨rfl, ?_⟩))
              refine WA_branch (rs := [4]) (by kernel_rfl) rfl (AllB.cons ?_ AllB.nil)
              refine WB_run [0, 1] rfl rfl (WX_q rfl rfl (q_call rfl (ArgsOK.of rfl) (c_spec_AppendRecord _ _ (by first | assumption | omega) (by assumption)) rfl) (WL_nil ⟨rfl, ?_⟩))
              refine WA_take 5 rfl (by kernel_rfl) (by kernel_rfl) rfl rfl rfl rfl (q_move rfl rfl) (WA_take 6 rfl (by kernel_rfl) (by kernel_rfl) rfl rfl rfl rfl (q_extract rfl rfl rfl) (WA_take 7 rfl (by kernel_rfl) (by kernel_rfl) rfl rfl rfl rfl (q_extract rfl rfl rfl) (?_)))
              refine WA_branch (rs := [9]) (by kernel_rfl) rfl (AllB.cons ?_ AllB.nil)
              refine WB_run [0, 1] rfl rfl (WX_store G rfl rfl rfl rfl rfl rfl rfl rfl rfl rfl rfl (WL_nil ⟨rfl, ?_⟩))
              refine WA_take 10 rfl (by kernel_rfl) (by kernel_rfl) rfl rfl rfl rfl (q_assign rfl rfl) (?_)
              exact WA_end (by kernel_rfl) (Meet.mk rfl rfl rfl rfl)
          · refine WB_run [0, 1] rfl rfl (WX_alloc_s G 3 rfl rfl rfl rfl rfl (WL_nil ⟨rfl, ?_⟩))
            refine WA_branch (rs := [3]) (by kernel_rfl) rfl (AllB.cons ?_ AllB.nil)
            refine WB_run [0, 1] rfl rfl (WX_q rfl rfl (q_call rfl (ArgsOK.of rfl) (c_laws_toLogRecord _) rfl) (WL_nil ⟨rfl, ?_⟩))
            refine WA_branch (rs := [4]) (by kernel_rfl) rfl (AllB.cons ?_ AllB.nil)
            refine WB_run [0, 1] rfl rfl (WX_q rfl rfl (q_call rfl (ArgsOK.of rfl) (c_spec_AppendRecord _ _ (by first | assumption | omega) (by assumption)) rfl) (WL_nil ⟨rfl, ?_⟩))
            refine WA_take 5 rfl (by kernel_rfl) (by kernel_rfl) rfl rfl rfl rfl (q_move rfl rfl) (WA_take 6 rfl (by kernel_rfl) (by kernel_rfl) rfl rfl rfl rfl (q_extract rfl rfl rfl) (WA_take 7 rfl (by kernel_rfl) (by kernel_rfl) rfl rfl rfl rfl (q_extract rfl rfl rfl) (?_)))
            refine WA_branch (rs := [9]) (by kernel_rfl) rfl (AllB.cons ?_ AllB.nil)
            refine WB_run [0, 1] rfl rfl (WX_store G rfl rfl rfl rfl rfl rfl rfl rfl rfl rfl rfl (WL_nil ⟨rfl, ?_⟩))
            refine WA_take 10 rfl (by kernel_rfl) (by kernel_rfl) rfl rfl rfl rfl (q_assign rfl rfl) (?_)
            exact WA_end (by kernel_rfl) (Meet.mk rfl rfl rfl rfl)
        · refine WB_run [0, 1] rfl rfl (WX_alloc_s G 3 rfl rfl rfl rfl rfl (WL_nil ⟨rfl, ?_⟩))
          refine WA_branch (rs := [1]) (by kernel_rfl) rfl (AllB.cons ?_ AllB.nil)
          refine WB_run [0, 1] rfl rfl (WX_q rfl rfl (q_call rfl (ArgsOK.of rfl) (c_laws_toLog _) rfl) (WL_nil ⟨rfl, ?_⟩))
          refine WA_branch (rs := [3]) (by kernel_rfl) rfl (AllB.cons ?_ AllB.nil)
          refine WB_run [0, 1] rfl rfl (WX_q rfl rfl (q_call rfl (ArgsOK.of rfl) (c_laws_toLogRecord _) rfl) (WL_nil ⟨rfl, ?_⟩))
          refine WA_branch (rs := [4]) (by kernel_rfl) rfl (AllB.cons ?_ AllB.nil)
          refine WB_run [0, 1] rfl rfl (WX_q rfl rfl (q_call rfl (ArgsOK.of rfl) (c_spec_AppendRecord _ _ (by first | assumption | omega) (by assumption)) rfl) (WL_nil ⟨rfl, ?_⟩))
          refine WA_take 5 rfl (by kernel_rfl) (by kernel_rfl) rfl rfl rfl rfl (q_move rfl rfl) (WA_take 6 rfl (by kernel_rfl) (by kernel_rfl) rfl rfl rfl rfl (q_extract rfl rfl rfl) (WA_take 7 rfl (by kernel_rfl) (by kernel_rfl) rfl rfl rfl rfl (q_extract rfl rfl rfl) (?_)))
          refine WA_branch (rs := [9]) (by kernel_rfl) rfl (AllB.cons ?_ AllB.nil)
          refine WB_run [0, 1] rfl rfl (WX_store G rfl rfl rfl rfl rfl rfl rfl rfl rfl rfl rfl (WL_nil ⟨rfl, ?_⟩))
          refine WA_take 10 rfl (by kernel_rfl) (by kernel_rfl) rfl rfl rfl rfl (q_assign rfl rfl) (?_)
          exact WA_end (by kernel_rfl) (Meet.mk rfl rfl rfl rfl)
      · clear hK11 K11
        refine W_seq (fun K12 hK12 => ?_)
        apply W_drawsJ [6, 7, 8, 9] [0, 1, 2, 3] 4 11 [0, 1, 2] mixed (by kernel_rfl) rfl rfl hK12
        · intro r0
          refine WA_take 0 rfl (by kernel_rfl) (by kernel_rfl) rfl rfl rfl rfl (q_load_box_struct G rfl rfl rfl rfl rfl rfl) (WA_take 2 rfl (by kernel_rfl) (by kernel_rfl) rfl rfl rfl rfl (q_load_box_struct G rfl rfl rfl rfl rfl rfl) (?_))
          refine WA_branch (rs := [1, 8]) (by kernel_rfl) rfl (AllB.cons ?_ (AllB.cons ?_ AllB.nil))
          · refine WB_run [0, 1, 2] rfl rfl (WX_q rfl rfl (q_call rfl (ArgsOK.of rfl) (c_laws_toLog _) rfl) (WL_nil ⟨rfl, ?_⟩))
            refine WA_branch (rs := [3, 8]) (by kernel_rfl) rfl (AllB.cons ?_ (AllB.cons ?_ AllB.nil))
            · refine WB_run [0, 1, 2] rfl rfl (WX_q rfl rfl (q_call rfl (ArgsOK.of rfl) (c_laws_toLogRecord _) rfl) (WL_nil ⟨rfl, ?_⟩))
              refine WA_branch (rs := [4, 8]) (by kernel_rfl) rfl (AllB.cons ?_ (AllB.cons ?_ AllB.nil))
              · refine WB_run [0, 1, 2] rfl rfl (WX_q rfl rfl (q_call rfl (ArgsOK.of rfl) (c_impl_AppendRecord _ _ (by first | assumption | omega) (by assumption)) rfl) (WL_nil ⟨rfl, ?_⟩))
                refine WA_take 5 rfl (by kernel_rfl) (by kernel_rfl) rfl rfl rfl rfl (q_move rfl rfl) (WA_take 6 rfl (by kernel_rfl) (by kernel_rfl) rfl rfl rfl rfl (q_extract rfl rfl rfl) (WA_take 7 rfl (by kernel_rfl) (by kernel_rfl) rfl rfl rfl rfl (q_extract rfl rfl rfl) (?_)))
                refine WA_branch (rs := [8]) (by kernel_rfl) rfl (AllB.cons ?_ AllB.nil)
                refine WB_run [0, 1, 2] rfl rfl (WX_alloc_s G 4 rfl rfl rfl rfl rfl (WL_nil ⟨rfl, ?_⟩))
                refine WA_branch (rs := [9]) (by kernel_rfl) rfl (AllB.cons ?_ AllB.nil)
                refine WB_run [0, 1, 2] rfl rfl (WX_store G rfl rfl rfl rfl rfl rfl rfl rfl rfl rfl rfl (WL_nil ⟨rfl, ?_⟩))
                refine WA_take 10 rfl (by kernel_rfl) (by kernel_rfl) rfl rfl rfl rfl (q_assign rfl rfl) (?_)
                exact WA_end (by kernel_rfl) (Meet.mk rfl rfl rfl rfl)
              · refine WB_run [0, 1, 2] rfl rfl (WX_alloc_s G 4 rfl rfl rfl rfl rfl (WL_nil ⟨rfl, ?_⟩))
                refine WA_branch (rs := [4]) (by kernel_rfl) rfl (AllB.cons ?_ AllB.nil)
                refine WB_run [0, 1, 2] rfl rfl (WX_q rfl rfl (q_call rfl (ArgsOK.of rfl) (c_impl_AppendRecord _ _ (by first | assumption | omega) (by assumption)) rfl) (WL_nil ⟨rfl, ?_⟩))
                refine WA_take 5 rfl (by kernel_rfl) (by kernel_rfl) rfl rfl rfl rfl (q_move rfl rfl) (WA_take 6 rfl (by kernel_rfl) (by kernel_rfl) rfl rfl rfl rfl (q_extract rfl rfl rfl) (WA_take 7 rfl (by kernel_rfl) (by kernel_rfl) rfl rfl rfl rfl (q_extract rfl rfl rfl) (?_)))
                refine WA_branch (rs := [9]) (by kernel_rfl) rfl (AllB.cons ?_ AllB.nil)
                refine WB_run [0, 1, 2] rfl rfl (WX_store G rfl rfl rfl rfl rfl rfl rfl rfl rfl rfl rfl (WL_nil ⟨rfl, ?_⟩))
                refine WA_take 10 rfl (by kernel_rfl) (by kernel_rfl) rfl rfl rfl rfl (q_assign rfl rfl) (?_)
                exact WA_end (by kernel_rfl) (Meet.mk rfl rfl rfl rfl)
            · refine WB_run [0, 1, 2] rfl rfl (WX_alloc_s G 4 rfl rfl rfl rfl rfl (WL_nil ⟨rfl, ?_⟩))
              refine WA_branch (rs := [3]) (by kernel_rfl) rfl (AllB.cons ?_ AllB.nil)
              refine WB_run [0, 1, 2] rfl rfl (WX_q rfl rfl (q_call rfl (ArgsOK.of rfl) (c_laws_toLogRecord _) rfl) (WL_nil ⟨rfl, ?_⟩))
              refine WA_branch (rs := [4]) (by kernel_rfl) rfl (AllB.cons ?_ AllB.nil)
              refine WB_run [0, 1, 2] rfl rfl (WX_q rfl rfl (q_call rfl (ArgsOK.of rfl) (c_impl_AppendRecord _ _ (by first | assumption | omega) (by assumption)) rfl) (WL_nil ⟨rfl, ?_⟩))
              refine WA_take 5 rfl (by kernel_rfl) (by kernel_rfl) rfl rfl rfl rfl (q_move rfl rfl) (WA_take 6 rfl (by kernel_rfl) (by kernel_rfl) rfl rfl rfl rfl (q_extract rfl rfl rfl) (WA_take 7 rfl (by kernel_rfl) (by kernel_rfl) rfl rfl rfl rfl (q_extract rfl rfl rfl) (?_)))
              refine WA_branch (rs := [9]) (by kernel_rfl) rfl (AllB.cons ?_ AllB.nil)
              refine WB_run [0, 1, 2] rfl rfl (WX_store G rfl rfl rfl rfl rfl rfl rfl rfl rfl rfl rfl (WL_nil ⟨rfl, ?_⟩))
              refine WA_take 10 rfl (by kernel_rfl) (by kernel_rfl) rfl rfl rfl rfl (q_assign rfl rfl) (?_)
              exact WA_end (by kernel_rfl) (Meet.mk rfl rfl rfl rfl)
          · refine WB_run [0, 1, 2] rfl rfl (WX_alloc_s G 4 rfl rfl rfl rfl rfl (WL_nil ⟨rfl, ?_⟩))
            refine WA_branch (rs := [1]) (by kernel_rfl) rfl (AllB.cons ?_ AllB.nil)
            refine WB_run [0, 1, 2] rfl rfl (WX_q rfl rfl (q_call rfl (ArgsOK.of rfl) (c_laws_toLog _) rfl) (WL_nil ⟨rfl, ?_⟩))
            refine WA_branch (rs := [3]) (by kernel_rfl) rfl (AllB.cons ?_ AllB.nil)
            refine WB_run [0, 1, 2] rfl rfl (WX_q rfl rfl (q_call rfl (ArgsOK.of rfl) (c_laws_toLogRecord _) rfl) (WL_nil ⟨rfl, ?_⟩))
            refine WA_branch (rs := [4]) (by kernel_rfl) rfl (AllB.cons ?_ AllB.nil)
            refine WB_run [0, 1, 2] rfl rfl (WX_q rfl rfl (q_call rfl (ArgsOK.of rfl) (c_impl_AppendRecord _ _ (by first | assumption | omega) (by assumption)) rfl) (WL_nil ⟨rfl, ?_⟩))
            refine WA_take 5 rfl (by kernel_rfl) (by kernel_rfl) rfl rfl rfl rfl (q_move rfl rfl) (WA_take 6 rfl (by kernel_rfl) (by kernel_rfl) rfl rfl rfl rfl (q_extract rfl rfl rfl) (WA_take 7 rfl (by kernel_rfl) (by kernel_rfl) rfl rfl rfl rfl (q_extract rfl rfl rfl) (?_)))
            refine WA_branch (rs := [9]) (by kernel_rfl) rfl (AllB.cons ?_ AllB.nil)
            refine WB_run [0, 1, 2] rfl rfl (WX_store G rfl rfl rfl rfl rfl rfl rfl rfl rfl rfl rfl (WL_nil ⟨rfl, ?_⟩))
            refine WA_take 10 rfl (by kernel_rfl) (by kernel_rfl) rfl rfl rfl rfl (q_assign rfl rfl) (?_)
            exact WA_end (by kernel_rfl) (Meet.mk rfl rfl rfl rfl)
        · clear hK12 K12
          refine W_seq (fun K13 hK13 => ?_)
          refine W_seq (fun K14 hK14 => ?_)
          refine W_region (WL_cons rfl (WX_q rfl rfl (q_load_box_struct G rfl rfl rfl rfl rfl rfl) (WL_cons rfl (WX_q rfl rfl (q_load_box_struct G rfl rfl rfl rfl rfl rfl) (WL_cons rfl (?_))))))
          refine WX_q rfl rfl (q_call rfl (ArgsOK.of rfl) (c_laws_eqLog _ _) rfl) ?_
          refine WL_cons rfl (WX_q rfl rfl (q_not rfl rfl) (WL_cons rfl (WX_q rfl rfl (q_move rfl rfl) (WL_part rfl rfl rfl (fun h3 => ?_) (fun h3 => ?_)))))
          · try rw [h3]
            try simp only [decide_eq_true_eq, decide_eq_false_iff_not, beq_iff_eq, bne_iff_ne, ne_eq, Bool.not_eq_true', Bool.not_eq_false', beq_eq_false_iff_ne, bne_eq_false_iff_eq, Bool.not_eq_true, Bool.not_eq_false, Int.not_lt, Int.not_le, gt_iff_lt, ge_iff_le, Bool.and_eq_true, Bool.and_eq_false_iff, Bool.or_eq_true, Bool.or_eq_false_iff] at h3
            refine WL_skip rfl rfl rfl rfl rfl rfl (WL_skip rfl rfl rfl rfl rfl rfl (WL_skip rfl rfl rfl rfl rfl rfl (WL_cons rfl (WX_q rfl rfl (q_pick_t rfl rfl rfl) (?_)))))
            refine WL_nil (hK14 _ ?_)
            clear hK14 K14
            refine W_true rfl ?_
            refine W_seq (fun K15 hK15 => ?_)
            refine W_region (WL_cons rfl (WX_q rfl rfl (q_assign rfl rfl) (?_)))
            refine WL_nil (hK15 _ ?_)
            clear hK15 K15
            refine W_ret (fin_one rfl (rc_v ?_))
            all_goals clear hK13 K13
            all_goals (first | rfl | (simp_all [eqL_self]; done))
          · try rw [h3]
            try simp only [decide_eq_true_eq, decide_eq_false_iff_not, beq_iff_eq, bne_iff_ne, ne_eq, Bool.not_eq_true', Bool.not_eq_false', beq_eq_false_iff_ne, bne_eq_false_iff_eq, Bool.not_eq_true, Bool.not_eq_false, Int.not_lt, Int.not_le, gt_iff_lt, ge_iff_le, Bool.and_eq_true, Bool.and_eq_false_iff, Bool.or_eq_true, Bool.or_eq_false_iff] at h3
            refine WL_run rfl rfl rfl (WX_q rfl rfl (q_move rfl rfl) (WL_run rfl rfl rfl (WX_q rfl rfl (q_move rfl rfl) (WL_run rfl rfl rfl (WX_q rfl rfl (q_cmp rfl rfl rfl rfl) (WL_cons rfl (WX_q rfl rfl (q_pick_f rfl rfl rfl) (?_))))))))
            refine WL_nil (hK14 _ ?_)
            clear hK14 K14
            refine W_cond rfl (fun h4 => ?_) (fun h4 => ?_)
            · try rw [h4]
              try simp only [decide_eq_true_eq, decide_eq_false_iff_not, beq_iff_eq, bne_iff_ne, ne_eq, Bool.not_eq_true', Bool.not_eq_false', beq_eq_false_iff_ne, bne_eq_false_iff_eq, Bool.not_eq_true, Bool.not_eq_false, Int.not_lt, Int.not_le, gt_iff_lt, ge_iff_le, Bool.and_eq_true, Bool.and_eq_false_iff, Bool.or_eq_true, Bool.or_eq_false_iff] at h4
              refine W_seq (fun K16 hK16 => ?_)
              refine W_region (WL_cons rfl (WX_q rfl rfl (q_assign rfl rfl) (?_)))
              refine WL_nil (hK16 _ ?_)
              clear hK16 K16
              refine W_ret (fin_one rfl (rc_v ?_))
              all_goals clear hK13 K13
              all_goals (first | rfl | (simp_all [eqL_self]; done))
            · try rw [h4]
              try simp only [decide_eq_true_eq, decide_eq_false_iff_not, beq_iff_eq, bne_iff_ne, ne_eq, Bool.not_eq_true', Bool.not_eq_false', beq_eq_false_iff_ne, bne_eq_false_iff_eq, Bool.not_eq_true, Bool.not_eq_false, Int.not_lt, Int.not_le, gt_iff_lt, ge_iff_le, Bool.and_eq_true, Bool.and_eq_false_iff, Bool.or_eq_true, Bool.or_eq_false_iff] at h4
              refine W_skip (hK13 _ ?_)
              clear hK13 K13
              refine W_seq (fun K17 hK17 => ?_)
              refine W_region (WL_cons rfl (WX_q rfl rfl (q_assign rfl rfl) (?_)))
              refine WL_nil (hK17 _ ?_)
              clear hK17 K17
              refine W_ret (fin_one rfl (rc_v ?_))
              all_goals (first | rfl | (simp_all [eqL_self]; done))

end Go.Proofs.YthpllgbaeokeiaaDoor
