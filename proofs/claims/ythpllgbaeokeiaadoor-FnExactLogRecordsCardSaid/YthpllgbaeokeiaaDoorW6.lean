/- Walks through functions of the program, one contract each (written by gen.py). -/
import Derived.Test.YthpllgbaeokeiaaDoorW5
import Derived.Test.YthpllgbaeokeiaaDoorRf5
set_option maxRecDepth 20000
set_option linter.unusedVariables false
set_option linter.unusedSimpArgs false
namespace Go.Proofs.YthpllgbaeokeiaaDoor
open Go Go.Rf

theorem c_laws_eqLog (x y : Lg) : Ctr Tryd.prog 19 [.v (encL x), .v (encL y)] (.one (.v (.bool (eqL x y)))) := by
  refine Ctr.of (n := 20) G Tryd.func19 rfl (by kernel_rfl) rfl rfl rfl (fun w0 => ?_)
  refine W_seq (fun K1 hK1 => ?_)
  refine W_region (WL_cons rfl (WX_box 1 rfl rfl rfl rfl rfl rfl rfl (WL_cons rfl (WX_box 2 rfl rfl rfl rfl rfl rfl rfl (WL_cons rfl (WX_q rfl rfl (q_assign rfl rfl) (?_)))))))
  refine WL_nil (hK1 _ ?_)
  clear hK1 K1
  refine W_seq (fun K2 hK2 => ?_)
  refine W_seq (fun K3 hK3 => ?_)
  refine W_region (WL_cons rfl (WX_q rfl rfl (q_field_ptr G rfl rfl rfl rfl) (WL_cons rfl (WX_q rfl rfl (q_load_box G rfl rfl rfl rfl rfl rfl rfl) (WL_cons rfl (WX_q rfl rfl (q_field_ptr G rfl rfl rfl rfl) (WL_cons rfl (WX_q rfl rfl (q_load_box G rfl rfl rfl rfl rfl rfl rfl) (WL_cons rfl (WX_q rfl rfl (q_cmp_str rfl rfl rfl rfl) (?_)))))))))))
  refine WL_nil (hK3 _ ?_)
  clear hK3 K3
  refine W_cond rfl (fun h1 => ?_) (fun h1 => ?_)
  · try rw [h1]
    try simp only [decide_eq_true_eq, decide_eq_false_iff_not, beq_iff_eq, bne_iff_ne, ne_eq, Bool.not_eq_true', Bool.not_eq_false', beq_eq_false_iff_ne, bne_eq_false_iff_eq, Bool.not_eq_true, Bool.not_eq_false, Int.not_lt, Int.not_le, gt_iff_lt, ge_iff_le, Bool.and_eq_true, Bool.and_eq_false_iff, Bool.or_eq_true, Bool.or_eq_false_iff] at h1
    refine W_seq (fun K4 hK4 => ?_)
    refine W_region (WL_cons rfl (WX_q rfl rfl (q_assign rfl rfl) (?_)))
    refine WL_nil (hK4 _ ?_)
    clear hK4 K4
    refine W_ret (fin_one rfl (rc_v ?_))
    all_goals clear hK2 K2
    all_goals (first | rfl | (simp_all [eqL]; done))
  · try rw [h1]
    try simp only [decide_eq_true_eq, decide_eq_false_iff_not, beq_iff_eq, bne_iff_ne, ne_eq, Bool.not_eq_true', Bool.not_eq_false', beq_eq_false_iff_ne, bne_eq_false_iff_eq, Bool.not_eq_true, Bool.not_eq_false, Int.not_lt, Int.not_le, gt_iff_lt, ge_iff_le, Bool.and_eq_true, Bool.and_eq_false_iff, Bool.or_eq_true, Bool.or_eq_false_iff] at h1
    refine W_skip (hK2 _ ?_)
    clear hK2 K2
    refine W_seq (fun K5 hK5 => ?_)
    refine W_seq (fun K6 hK6 => ?_)
    refine W_region (WL_cons rfl (WX_q rfl rfl (q_field_ptr G rfl rfl rfl rfl) (WL_cons rfl (WX_q rfl rfl (q_load_box G rfl rfl rfl rfl rfl rfl rfl) (WL_cons rfl (WX_q rfl rfl (q_field_ptr G rfl rfl rfl rfl) (WL_cons rfl (WX_q rfl rfl (q_load_box G rfl rfl rfl rfl rfl rfl rfl) (WL_cons rfl (WX_q rfl rfl (q_cmp_str rfl rfl rfl rfl) (?_)))))))))))
    refine WL_nil (hK6 _ ?_)
    clear hK6 K6
    refine W_cond rfl (fun h2 => ?_) (fun h2 => ?_)
    · try rw [h2]
      try simp only [decide_eq_true_eq, decide_eq_false_iff_not, beq_iff_eq, bne_iff_ne, ne_eq, Bool.not_eq_true', Bool.not_eq_false', beq_eq_false_iff_ne, bne_eq_false_iff_eq, Bool.not_eq_true, Bool.not_eq_false, Int.not_lt, Int.not_le, gt_iff_lt, ge_iff_le, Bool.and_eq_true, Bool.and_eq_false_iff, Bool.or_eq_true, Bool.or_eq_false_iff] at h2
      refine W_seq (fun K7 hK7 => ?_)
      refine W_region (WL_cons rfl (WX_q rfl rfl (q_assign rfl rfl) (?_)))
      refine WL_nil (hK7 _ ?_)
      clear hK7 K7
      refine W_ret (fin_one rfl (rc_v ?_))
      all_goals clear hK5 K5
      all_goals (first | rfl | (simp_all [eqL]; done))
    · try rw [h2]
      try simp only [decide_eq_true_eq, decide_eq_false_iff_not, beq_iff_eq, bne_iff_ne, ne_eq, Bool.not_eq_true', Bool.not_eq_false', beq_eq_false_iff_ne, bne_eq_false_iff_eq, Bool.not_eq_true, Bool.not_eq_false, Int.not_lt, Int.not_le, gt_iff_lt, ge_iff_le, Bool.and_eq_true, Bool.and_eq_false_iff, Bool.or_eq_true, Bool.or_eq_false_iff] at h2
      refine W_skip (hK5 _ ?_)
      clear hK5 K5
      refine W_seq (fun K8 hK8 => ?_)
      refine W_seq (fun K9 hK9 => ?_)
      refine W_region (WL_cons rfl (WX_q rfl rfl (q_field_ptr G rfl rfl rfl rfl) (WL_cons rfl (WX_q rfl rfl (q_load_box G rfl rfl rfl rfl rfl rfl rfl) (WL_cons rfl (WX_q rfl rfl (q_field_ptr G rfl rfl rfl rfl) (WL_cons rfl (WX_q rfl rfl (q_load_box G rfl rfl rfl rfl rfl rfl rfl) (WL_cons rfl (WX_q rfl rfl (q_cmp rfl rfl rfl rfl) (?_)))))))))))
      refine WL_nil (hK9 _ ?_)
      clear hK9 K9
      refine W_cond rfl (fun h3 => ?_) (fun h3 => ?_)
      · try rw [h3]
        try simp only [decide_eq_true_eq, decide_eq_false_iff_not, beq_iff_eq, bne_iff_ne, ne_eq, Bool.not_eq_true', Bool.not_eq_false', beq_eq_false_iff_ne, bne_eq_false_iff_eq, Bool.not_eq_true, Bool.not_eq_false, Int.not_lt, Int.not_le, gt_iff_lt, ge_iff_le, Bool.and_eq_true, Bool.and_eq_false_iff, Bool.or_eq_true, Bool.or_eq_false_iff] at h3
        refine W_seq (fun K10 hK10 => ?_)
        refine W_region (WL_cons rfl (WX_q rfl rfl (q_assign rfl rfl) (?_)))
        refine WL_nil (hK10 _ ?_)
        clear hK10 K10
        refine W_ret (fin_one rfl (rc_v ?_))
        all_goals clear hK8 K8
        all_goals (first | rfl | (simp_all [eqL]; done))
      · try rw [h3]
        try simp only [decide_eq_true_eq, decide_eq_false_iff_not, beq_iff_eq, bne_iff_ne, ne_eq, Bool.not_eq_true', Bool.not_eq_false', beq_eq_false_iff_ne, bne_eq_false_iff_eq, Bool.not_eq_true, Bool.not_eq_false, Int.not_lt, Int.not_le, gt_iff_lt, ge_iff_le, Bool.and_eq_true, Bool.and_eq_false_iff, Bool.or_eq_true, Bool.or_eq_false_iff] at h3
        refine W_skip (hK8 _ ?_)
        clear hK8 K8
        refine W_seq (fun K11 hK11 => ?_)
        refine W_region (WL_cons rfl (WX_q rfl rfl (q_assign rfl rfl) (?_)))
        refine WL_nil (hK11 _ ?_)
        clear hK11 K11
        refine W_ret (fin_one rfl (rc_v ?_))
        all_goals (first | rfl | (simp_all [eqL]; done))

theorem c_spec_RecoverLog (s : ByteArray) (hs : s.size ≤ 1048576) : Ctr Tryd.prog 17 [.v (.string s)] (.many [.v (encL (rcE s)), .v (.int .i64 (rcN s)), .v (.bool (rcOK s))]) := by
  have hll := logN_le (s := s)
  have hpi : posI s (logN s) = (posN s (logN s) : Int) := rfl
  have hge := ends_at (s := s)
  have hrl := recs_len (s := s)
  have hel : (pre (posI s) (logN s + 1)).length = logN s + 1 := pre_len
  have hem : ((pre (posI s) (logN s + 1)).map encI).length = logN s + 1 := (by rw [List.length_map, pre_len])
  refine Ctr.of (n := 23) G Tryd.func17 rfl (by kernel_rfl) rfl rfl rfl (fun w0 => ?_)
  refine W_seq (fun K1 hK1 => ?_)
  refine W_region (WL_cons rfl (WX_alloc_s G 1 rfl rfl rfl rfl rfl (WL_cons rfl (WX_q rfl rfl (q_assign rfl rfl) (WL_cons rfl (WX_q rfl rfl (q_assign rfl rfl) (?_)))))))
  refine WL_nil (hK1 _ ?_)
  clear hK1 K1
  refine W_seq (fun K2 hK2 => ?_)
  refine W_seq (fun K3 hK3 => ?_)
  refine W_region (WL_cons rfl (WX_q rfl rfl (q_move rfl rfl) (WL_cons rfl (WX_q rfl rfl (q_len_str G rfl rfl rfl) (WL_cons rfl (WX_q rfl rfl (q_cmp rfl rfl rfl rfl) (?_)))))))
  refine WL_nil (hK3 _ ?_)
  clear hK3 K3
  refine W_cond rfl (fun h1 => ?_) (fun h1 => ?_)
  · try rw [h1]
    try simp only [decide_eq_true_eq, decide_eq_false_iff_not, beq_iff_eq, bne_iff_ne, ne_eq, Bool.not_eq_true', Bool.not_eq_false', beq_eq_false_iff_ne, bne_eq_false_iff_eq, Bool.not_eq_true, Bool.not_eq_false, Int.not_lt, Int.not_le, gt_iff_lt, ge_iff_le, Bool.and_eq_true, Bool.and_eq_false_iff, Bool.or_eq_true, Bool.or_eq_false_iff] at h1
    have hO := rc_f (s := s) (by omega)
    refine W_seq (fun K4 hK4 => ?_)
    refine W_region (WL_cons rfl (WX_q rfl rfl (q_build G rfl rfl rfl rfl) (WL_cons rfl (WX_store G rfl rfl rfl rfl rfl rfl rfl rfl rfl rfl rfl (WL_cons rfl (WX_q rfl rfl (q_assign rfl rfl) (WL_cons rfl (WX_q rfl rfl (q_assign rfl rfl) (?_)))))))))
    refine WL_nil (hK4 _ ?_)
    clear hK4 K4
    refine W_ret (fin_many rfl rfl rfl rfl (rcs_cons (rc_agg rfl ?_) (rcs_cons (rc_v ?_) (rcs_cons (rc_v ?_) rcs_nil))))
    all_goals clear hK2 K2
    all_goals (first | (rw [hO.1]; rfl) | (rw [hO.2.1]; done) | (rw [hO.2.1]; rfl) | (rw [hO.2.2]; done) | (rw [hO.2.2]; rfl))
  · try rw [h1]
    try simp only [decide_eq_true_eq, decide_eq_false_iff_not, beq_iff_eq, bne_iff_ne, ne_eq, Bool.not_eq_true', Bool.not_eq_false', beq_eq_false_iff_ne, bne_eq_false_iff_eq, Bool.not_eq_true, Bool.not_eq_false, Int.not_lt, Int.not_le, gt_iff_lt, ge_iff_le, Bool.and_eq_true, Bool.and_eq_false_iff, Bool.or_eq_true, Bool.or_eq_false_iff] at h1
    have hO := rc_t (s := s) (by omega)
    refine W_skip (hK2 _ ?_)
    clear hK2 K2
    refine W_seq (fun K5 hK5 => ?_)
    refine W_region (WL_cons rfl (WX_q rfl rfl (q_move rfl rfl) (WL_cons rfl (?_))))
    refine WX_call 2 rfl rfl rfl (ArgsOK.of rfl) (c_spec_l27Open _ (by first | assumption | omega)) rfl rfl ?_
    refine WL_cons rfl (WX_q rfl rfl (q_move rfl rfl) (WL_cons rfl (WX_q rfl rfl (q_extract rfl rfl rfl) (WL_cons rfl (WX_q rfl rfl (q_extract rfl rfl rfl) (WL_cons rfl (WX_q rfl rfl (q_assign rfl rfl) (WL_cons rfl (WX_q rfl rfl (q_assign rfl rfl) (?_))))))))))
    refine WL_nil (hK5 _ ?_)
    clear hK5 K5
    refine W_seq (fun K6 hK6 => ?_)
    refine W_region (WL_cons rfl (WX_q rfl rfl (q_move rfl rfl) (WL_cons rfl (WX_q rfl rfl (q_move rfl rfl) (WL_cons rfl (?_))))))
    refine WX_q rfl rfl (q_cut_str G rfl rfl rfl rfl rfl (by omega) (by omega) (by omega)) ?_
    refine WL_cons rfl (WX_q rfl rfl (q_move rfl rfl) (WL_cons rfl (?_)))
    first | refine WX_q rfl rfl (q_len' G rfl rfl rfl rfl (List.length_map _)) ?_ | refine WX_q rfl rfl (q_len G rfl rfl rfl rfl) ?_
    refine WL_cons rfl (WX_q rfl rfl (q_build G rfl rfl rfl rfl) (WL_cons rfl (WX_q rfl rfl (q_move rfl rfl) (WL_cons rfl (WX_store G rfl rfl rfl rfl rfl rfl rfl rfl rfl rfl rfl (WL_cons rfl (WX_q rfl rfl (q_assign rfl rfl) (WL_cons rfl (WX_q rfl rfl (q_assign rfl rfl) (?_))))))))))
    refine WL_nil (hK6 _ ?_)
    clear hK6 K6
    rw [hrl]
    refine W_ret (fin_many rfl rfl rfl rfl (rcs_cons (rc_agg rfl ?_) (rcs_cons (rc_v ?_) (rcs_cons (rc_v ?_) rcs_nil))))
    all_goals (first | (rw [hO.1]; rfl) | (rw [hO.2.1]; done) | (rw [hO.2.1]; rfl) | (rw [hO.2.2]; done) | (rw [hO.2.2]; rfl))

theorem c_impl_RecoverLog (s : ByteArray) (hs : s.size ≤ 1048576) : Ctr Tryd.prog 18 [.v (.string s)] (.many [.v (encL (rcE s)), .v (.int .i64 (rcN s)), .v (.bool (rcOK s))]) := by
  have hll := logN_le (s := s)
  have hpi : posI s (logN s) = (posN s (logN s) : Int) := rfl
  have hge := ends_at (s := s)
  have hrl := recs_len (s := s)
  have hel : (pre (posI s) (logN s + 1)).length = logN s + 1 := pre_len
  have hem : ((pre (posI s) (logN s + 1)).map encI).length = logN s + 1 := (by rw [List.length_map, pre_len])
  refine Ctr.of (n := 29) G Tryd.func18 rfl (by kernel_rfl) rfl rfl rfl (fun w0 => ?_)
  refine W_seq (fun K1 hK1 => ?_)
  refine W_region (WL_cons rfl (WX_alloc_s G 1 rfl rfl rfl rfl rfl (WL_cons rfl (WX_q rfl rfl (q_assign rfl rfl) (WL_cons rfl (WX_q rfl rfl (q_assign rfl rfl) (?_)))))))
  refine WL_nil (hK1 _ ?_)
  clear hK1 K1
  refine W_seq (fun K2 hK2 => ?_)
  refine W_seq (fun K3 hK3 => ?_)
  refine W_region (WL_cons rfl (WX_q rfl rfl (q_move rfl rfl) (WL_cons rfl (WX_q rfl rfl (q_len_str G rfl rfl rfl) (WL_cons rfl (WX_q rfl rfl (q_cmp rfl rfl rfl rfl) (?_)))))))
  refine WL_nil (hK3 _ ?_)
  clear hK3 K3
  refine W_cond rfl (fun h1 => ?_) (fun h1 => ?_)
  · try rw [h1]
    try simp only [decide_eq_true_eq, decide_eq_false_iff_not, beq_iff_eq, bne_iff_ne, ne_eq, Bool.not_eq_true', Bool.not_eq_false', beq_eq_false_iff_ne, bne_eq_false_iff_eq, Bool.not_eq_true, Bool.not_eq_false, Int.not_lt, Int.not_le, gt_iff_lt, ge_iff_le, Bool.and_eq_true, Bool.and_eq_false_iff, Bool.or_eq_true, Bool.or_eq_false_iff] at h1
    have hO := rc_f (s := s) (by omega)
    refine W_seq (fun K4 hK4 => ?_)
    refine W_region (WL_cons rfl (WX_q rfl rfl (q_build G rfl rfl rfl rfl) (WL_cons rfl (WX_store G rfl rfl rfl rfl rfl rfl rfl rfl rfl rfl rfl (WL_cons rfl (WX_q rfl rfl (q_assign rfl rfl) (WL_cons rfl (WX_q rfl rfl (q_assign rfl rfl) (?_)))))))))
    refine WL_nil (hK4 _ ?_)
    clear hK4 K4
    refine W_ret (fin_many rfl rfl rfl rfl (rcs_cons (rc_agg rfl ?_) (rcs_cons (rc_v ?_) (rcs_cons (rc_v ?_) rcs_nil))))
    all_goals clear hK2 K2
    all_goals (first | (rw [hO.1]; rfl) | (rw [hO.2.1]; done) | (rw [hO.2.1]; rfl) | (rw [hO.2.2]; done) | (rw [hO.2.2]; rfl))
  · try rw [h1]
    try simp only [decide_eq_true_eq, decide_eq_false_iff_not, beq_iff_eq, bne_iff_ne, ne_eq, Bool.not_eq_true', Bool.not_eq_false', beq_eq_false_iff_ne, bne_eq_false_iff_eq, Bool.not_eq_true, Bool.not_eq_false, Int.not_lt, Int.not_le, gt_iff_lt, ge_iff_le, Bool.and_eq_true, Bool.and_eq_false_iff, Bool.or_eq_true, Bool.or_eq_false_iff] at h1
    have hO := rc_t (s := s) (by omega)
    refine W_skip (hK2 _ ?_)
    clear hK2 K2
    refine W_seq (fun K5 hK5 => ?_)
    refine W_region (WL_cons rfl (WX_q rfl rfl (q_move rfl rfl) (WL_cons rfl (?_))))
    refine WX_call 3 rfl rfl rfl (ArgsOK.of rfl) (c_impl_readRecords _ (by first | assumption | omega)) rfl rfl ?_
    refine WL_cons rfl (WX_q rfl rfl (q_move rfl rfl) (WL_cons rfl (WX_q rfl rfl (q_extract rfl rfl rfl) (WL_cons rfl (WX_q rfl rfl (q_extract rfl rfl rfl) (WL_cons rfl (WX_q rfl rfl (q_assign rfl rfl) (WL_cons rfl (WX_q rfl rfl (q_assign rfl rfl) (?_))))))))))
    refine WL_nil (hK5 _ ?_)
    clear hK5 K5
    refine W_seq (fun K6 hK6 => ?_)
    refine W_region (WL_cons rfl (WX_q rfl rfl (q_move rfl rfl) (WL_cons rfl (WX_q rfl rfl (q_move rfl rfl) (WL_cons rfl (?_))))))
    first | refine WX_q rfl rfl (q_len' G rfl rfl rfl rfl (List.length_map _)) ?_ | refine WX_q rfl rfl (q_len G rfl rfl rfl rfl) ?_
    refine WL_cons rfl (?_)
    first | refine WX_q rfl rfl (q_index_own G rfl rfl rfl rfl rfl (by omega) (by simp; omega)) ?_ | refine WX_q rfl rfl (q_index_own G rfl rfl rfl rfl rfl (by omega) (by omega)) ?_
    refine WL_cons rfl (?_)
    refine WX_q rfl rfl (q_load_rpt G rfl rfl rfl rfl rfl (getM (by omega) (by simp; omega)) rfl) ?_
    refine WL_cons rfl (WX_q rfl rfl (q_assign rfl rfl) (?_))
    refine WL_nil (hK6 _ ?_)
    clear hK6 K6
    rw [hge]
    refine W_seq (fun K7 hK7 => ?_)
    refine W_region (WL_cons rfl (WX_q rfl rfl (q_move rfl rfl) (WL_cons rfl (WX_q rfl rfl (q_move rfl rfl) (WL_cons rfl (?_))))))
    refine WX_q rfl rfl (q_cut_str G rfl rfl rfl rfl rfl (by omega) (by omega) (by omega)) ?_
    refine WL_cons rfl (WX_q rfl rfl (q_move rfl rfl) (WL_cons rfl (?_)))
    first | refine WX_q rfl rfl (q_len' G rfl rfl rfl rfl (List.length_map _)) ?_ | refine WX_q rfl rfl (q_len G rfl rfl rfl rfl) ?_
    refine WL_cons rfl (WX_q rfl rfl (q_build G rfl rfl rfl rfl) (WL_cons rfl (WX_q rfl rfl (q_move rfl rfl) (WL_cons rfl (WX_store G rfl rfl rfl rfl rfl rfl rfl rfl rfl rfl rfl (WL_cons rfl (WX_q rfl rfl (q_assign rfl rfl) (WL_cons rfl (WX_q rfl rfl (q_assign rfl rfl) (?_))))))))))
    refine WL_nil (hK7 _ ?_)
    clear hK7 K7
    rw [hrl]
    refine W_ret (fin_many rfl rfl rfl rfl (rcs_cons (rc_agg rfl ?_) (rcs_cons (rc_v ?_) (rcs_cons (rc_v ?_) rcs_nil))))
    all_goals (first | (rw [hO.1]; rfl) | (rw [hO.2.1]; done) | (rw [hO.2.1]; rfl) | (rw [hO.2.2]; done) | (rw [hO.2.2]; rfl))

theorem c_laws_FnExactRecoverLog (s : ByteArray) (h0 : s.size ≤ 9223372036854775807) : Ctr Tryd.prog 4 [.v (.string s)] (.one (.v (.bool true))) := by
  refine Ctr.of (n := 38) G Tryd.func4 rfl (by kernel_rfl) rfl rfl rfl (fun w0 => ?_)
  refine W_seq (fun K1 hK1 => ?_)
  refine W_region (WL_cons rfl (WX_q rfl rfl (q_assign rfl rfl) (?_)))
  refine WL_nil (hK1 _ ?_)
  clear hK1 K1
  refine W_seq (fun K2 hK2 => ?_)
  refine W_seq (fun K3 hK3 => ?_)
  refine W_region (WL_cons rfl (WX_q rfl rfl (q_move rfl rfl) (WL_cons rfl (WX_q rfl rfl (q_len_str G rfl rfl rfl) (WL_cons rfl (WX_q rfl rfl (q_cmp rfl rfl rfl rfl) (?_)))))))
  refine WL_nil (hK3 _ ?_)
  clear hK3 K3
  refine W_cond rfl (fun h1 => ?_) (fun h1 => ?_)
  · try rw [h1]
    try simp only [decide_eq_true_eq, decide_eq_false_iff_not, beq_iff_eq, bne_iff_ne, ne_eq, Bool.not_eq_true', Bool.not_eq_false', beq_eq_false_iff_ne, bne_eq_false_iff_eq, Bool.not_eq_true, Bool.not_eq_false, Int.not_lt, Int.not_le, gt_iff_lt, ge_iff_le, Bool.and_eq_true, Bool.and_eq_false_iff, Bool.or_eq_true, Bool.or_eq_false_iff] at h1
    refine W_seq (fun K4 hK4 => ?_)
    refine W_region (WL_cons rfl (WX_q rfl rfl (q_assign rfl rfl) (?_)))
    refine WL_nil (hK4 _ ?_)
    clear hK4 K4
    refine W_ret (fin_one rfl (rc_v ?_))
    all_goals clear hK2 K2
    all_goals (first | rfl | (simp_all [eqL_self]; done))
  · try rw [h1]
    try simp only [decide_eq_true_eq, decide_eq_false_iff_not, beq_iff_eq, bne_iff_ne, ne_eq, Bool.not_eq_true', Bool.not_eq_false', beq_eq_false_iff_ne, bne_eq_false_iff_eq, Bool.not_eq_true, Bool.not_eq_false, Int.not_lt, Int.not_le, gt_iff_lt, ge_iff_le, Bool.and_eq_true, Bool.and_eq_false_iff, Bool.or_eq_true, Bool.or_eq_false_iff] at h1
    refine W_skip (hK2 _ ?_)
    clear hK2 K2
    refine W_seq (fun K5 hK5 => ?_)
    refine W_region (WL_cons rfl (WX_q rfl rfl (q_move rfl rfl) (WL_cons rfl (?_))))
    refine WX_q rfl rfl (q_call rfl (ArgsOK.of rfl) (c_spec_RecoverLog _ (by first | assumption | omega)) rfl) ?_
    refine WL_cons rfl (WX_q rfl rfl (q_move rfl rfl) (WL_cons rfl (WX_q rfl rfl (q_extract rfl rfl rfl) (WL_cons rfl (WX_q rfl rfl (q_extract rfl rfl rfl) (WL_cons rfl (WX_q rfl rfl (q_extract rfl rfl rfl) (WL_cons rfl (WX_alloc_s G 1 rfl rfl rfl rfl rfl (WL_cons rfl (WX_store G rfl rfl rfl rfl rfl rfl rfl rfl rfl rfl rfl (WL_cons rfl (WX_q rfl rfl (q_assign rfl rfl) (WL_cons rfl (WX_q rfl rfl (q_assign rfl rfl) (?_))))))))))))))))
    refine WL_nil (hK5 _ ?_)
    clear hK5 K5
    refine W_seq (fun K6 hK6 => ?_)
    refine W_region (WL_cons rfl (WX_q rfl rfl (q_move rfl rfl) (WL_cons rfl (?_))))
    refine WX_q rfl rfl (q_call rfl (ArgsOK.of rfl) (c_impl_RecoverLog _ (by first | assumption | omega)) rfl) ?_
    refine WL_cons rfl (WX_q rfl rfl (q_move rfl rfl) (WL_cons rfl (WX_q rfl rfl (q_extract rfl rfl rfl) (WL_cons rfl (WX_q rfl rfl (q_extract rfl rfl rfl) (WL_cons rfl (WX_q rfl rfl (q_extract rfl rfl rfl) (WL_cons rfl (WX_alloc_s G 2 rfl rfl rfl rfl rfl (WL_cons rfl (WX_store G rfl rfl rfl rfl rfl rfl rfl rfl rfl rfl rfl (WL_cons rfl (WX_q rfl rfl (q_assign rfl rfl) (WL_cons rfl (WX_q rfl rfl (q_assign rfl rfl) (?_))))))))))))))))
    refine WL_nil (hK6 _ ?_)
    clear hK6 K6
    refine W_seq (fun K7 hK7 => ?_)
    refine W_seq (fun K8 hK8 => ?_)
    refine W_region (WL_cons rfl (WX_q rfl rfl (q_load_box_struct G rfl rfl rfl rfl rfl rfl) (WL_cons rfl (WX_q rfl rfl (q_load_box_struct G rfl rfl rfl rfl rfl rfl) (WL_cons rfl (?_))))))
    refine WX_q rfl rfl (q_call rfl (ArgsOK.of rfl) (c_laws_eqLog _ _) rfl) ?_
    refine WL_cons rfl (WX_q rfl rfl (q_not rfl rfl) (WL_cons rfl (WX_q rfl rfl (q_move rfl rfl) (WL_part rfl rfl rfl (fun h2 => ?_) (fun h2 => ?_)))))
    · try rw [h2]
      try simp only [decide_eq_true_eq, decide_eq_false_iff_not, beq_iff_eq, bne_iff_ne, ne_eq, Bool.not_eq_true', Bool.not_eq_false', beq_eq_false_iff_ne, bne_eq_false_iff_eq, Bool.not_eq_true, Bool.not_eq_false, Int.not_lt, Int.not_le, gt_iff_lt, ge_iff_le, Bool.and_eq_true, Bool.and_eq_false_iff, Bool.or_eq_true, Bool.or_eq_false_iff] at h2
      refine WL_skip rfl rfl rfl rfl rfl rfl (WL_skip rfl rfl rfl rfl rfl rfl (WL_skip rfl rfl rfl rfl rfl rfl (WL_cons rfl (WX_q rfl rfl (q_pick_t rfl rfl rfl) (WL_cons rfl (WX_q rfl rfl (q_move rfl rfl) (WL_skip rfl rfl rfl rfl rfl rfl (WL_skip rfl rfl rfl rfl rfl rfl (WL_skip rfl rfl rfl rfl rfl rfl (WL_cons rfl (WX_q rfl rfl (q_pick_t rfl rfl rfl) (?_))))))))))))
      refine WL_nil (hK8 _ ?_)
      clear hK8 K8
      refine W_true rfl ?_
      refine W_seq (fun K9 hK9 => ?_)
      refine W_region (WL_cons rfl (WX_q rfl rfl (q_assign rfl rfl) (?_)))
      refine WL_nil (hK9 _ ?_)
      clear hK9 K9
      refine W_ret (fin_one rfl (rc_v ?_))
      all_goals clear hK7 K7
      all_goals (first | rfl | (simp_all [eqL_self]; done))
    · try rw [h2]
      try simp only [decide_eq_true_eq, decide_eq_false_iff_not, beq_iff_eq, bne_iff_ne, ne_eq, Bool.not_eq_true', Bool.not_eq_false', beq_eq_false_iff_ne, bne_eq_false_iff_eq, Bool.not_eq_true, Bool.not_eq_false, Int.not_lt, Int.not_le, gt_iff_lt, ge_iff_le, Bool.and_eq_true, Bool.and_eq_false_iff, Bool.or_eq_true, Bool.or_eq_false_iff] at h2
      refine WL_run rfl rfl rfl (WX_q rfl rfl (q_move rfl rfl) (WL_run rfl rfl rfl (WX_q rfl rfl (q_move rfl rfl) (WL_run rfl rfl rfl (WX_q rfl rfl (q_cmp rfl rfl rfl rfl) (WL_cons rfl (WX_q rfl rfl (q_pick_f rfl rfl rfl) (WL_cons rfl (WX_q rfl rfl (q_move rfl rfl) (WL_part rfl rfl rfl (fun h3 => ?_) (fun h3 => ?_)))))))))))
      · try rw [h3]
        try simp only [decide_eq_true_eq, decide_eq_false_iff_not, beq_iff_eq, bne_iff_ne, ne_eq, Bool.not_eq_true', Bool.not_eq_false', beq_eq_false_iff_ne, bne_eq_false_iff_eq, Bool.not_eq_true, Bool.not_eq_false, Int.not_lt, Int.not_le, gt_iff_lt, ge_iff_le, Bool.and_eq_true, Bool.and_eq_false_iff, Bool.or_eq_true, Bool.or_eq_false_iff] at h3
        refine WL_skip rfl rfl rfl rfl rfl rfl (WL_skip rfl rfl rfl rfl rfl rfl (WL_skip rfl rfl rfl rfl rfl rfl (WL_cons rfl (WX_q rfl rfl (q_pick_t rfl rfl rfl) (?_)))))
        refine WL_nil (hK8 _ ?_)
        clear hK8 K8
        refine W_true rfl ?_
        refine W_seq (fun K10 hK10 => ?_)
        refine W_region (WL_cons rfl (WX_q rfl rfl (q_assign rfl rfl) (?_)))
        refine WL_nil (hK10 _ ?_)
        clear hK10 K10
        refine W_ret (fin_one rfl (rc_v ?_))
        all_goals clear hK7 K7
        all_goals (first | rfl | (simp_all [eqL_self]; done))
      · try rw [h3]
        try simp only [decide_eq_true_eq, decide_eq_false_iff_not, beq_iff_eq, bne_iff_ne, ne_eq, Bool.not_eq_true', Bool.not_eq_false', beq_eq_false_iff_ne, bne_eq_false_iff_eq, Bool.not_eq_true, Bool.not_eq_false, Int.not_lt, Int.not_le, gt_iff_lt, ge_iff_le, Bool.and_eq_true, Bool.and_eq_false_iff, Bool.or_eq_true, Bool.or_eq_false_iff] at h3
        refine WL_run rfl rfl rfl (WX_q rfl rfl (q_move rfl rfl) (WL_run rfl rfl rfl (WX_q rfl rfl (q_move rfl rfl) (WL_run rfl rfl rfl (WX_q rfl rfl (q_bne (G 4 _ rfl).1 rfl rfl rfl) (WL_cons rfl (WX_q rfl rfl (q_pick_f rfl rfl rfl) (?_))))))))
        refine WL_nil (hK8 _ ?_)
        clear hK8 K8
        refine W_cond rfl (fun h4 => ?_) (fun h4 => ?_)
        · try rw [h4]
          try simp only [decide_eq_true_eq, decide_eq_false_iff_not, beq_iff_eq, bne_iff_ne, ne_eq, Bool.not_eq_true', Bool.not_eq_false', beq_eq_false_iff_ne, bne_eq_false_iff_eq, Bool.not_eq_true, Bool.not_eq_false, Int.not_lt, Int.not_le, gt_iff_lt, ge_iff_le, Bool.and_eq_true, Bool.and_eq_false_iff, Bool.or_eq_true, Bool.or_eq_false_iff] at h4
          refine W_seq (fun K11 hK11 => ?_)
          refine W_region (WL_cons rfl (WX_q rfl rfl (q_assign rfl rfl) (?_)))
          refine WL_nil (hK11 _ ?_)
          clear hK11 K11
          refine W_ret (fin_one rfl (rc_v ?_))
          all_goals clear hK7 K7
          all_goals (first | rfl | (simp_all [eqL_self]; done))
        · try rw [h4]
          try simp only [decide_eq_true_eq, decide_eq_false_iff_not, beq_iff_eq, bne_iff_ne, ne_eq, Bool.not_eq_true', Bool.not_eq_false', beq_eq_false_iff_ne, bne_eq_false_iff_eq, Bool.not_eq_true, Bool.not_eq_false, Int.not_lt, Int.not_le, gt_iff_lt, ge_iff_le, Bool.and_eq_true, Bool.and_eq_false_iff, Bool.or_eq_true, Bool.or_eq_false_iff] at h4
          refine W_skip (hK7 _ ?_)
          clear hK7 K7
          refine W_seq (fun K12 hK12 => ?_)
          refine W_region (WL_cons rfl (WX_q rfl rfl (q_assign rfl rfl) (?_)))
          refine WL_nil (hK12 _ ?_)
          clear hK12 K12
          refine W_ret (fin_one rfl (rc_v ?_))
          all_goals (first | rfl | (simp_all [eqL_self]; done))

end Go.Proofs.YthpllgbaeokeiaaDoor
