/- Texts merged into one: W4, W5, W6, W7, W8, W12, W13, W14, W15, M2, M3, X1, X3, M4, M5, M6. -/
import Derived.Test.YthpllgbaeokeiaaDoorPFnCrashRecoveryA
/- Walks through functions of the program, one contract each (written by gen.py). -/
set_option maxRecDepth 20000
set_option linter.unusedVariables false
set_option linter.unusedSimpArgs false
namespace Go.Proofs.YthpllgbaeokeiaaDoor
open Go Go.Rf

set_option maxHeartbeats 1600000 in
theorem c_impl_readRecord (s : ByteArray) (k : Int) (hs : s.size ≤ 1048576) (hk : 0 ≤ k) (hk2 : k ≤ 1000000) : Ctr Tryd.prog 69 [.v (.string s), .v (.int .i64 k)] (.many [.v (encR (rrE s k)), .v (.int .i64 (rrN s k)), .v (.bool (okL s k))]) := by
  have a1 := firstB_le (s := s) (c := 10)
  have a2 := firstB_le (s := firstB s 10) (c := 35)
  have a3 := afterB_size (s := firstB (firstB s 10) 35) (c := 32)
  have a4 := firstB_le (s := afterB (firstB (firstB s 10) 35) 32) (c := 64)
  have a5 := afterB_size (s := afterB (firstB (firstB s 10) 35) 32) (c := 64)
  have hxs : (riE (firstB s 10)).c.size ≤ 9223372036854775807 ∧ (riE (firstB s 10)).r.size ≤ 9223372036854775807 := (by have a6 := riE_size (s := firstB s 10); exact ⟨Nat.le_trans a6.1 (by omega), Nat.le_trans a6.2 (by omega)⟩)
  refine Ctr.of (n := 71) G Tryd.func69 rfl (by kernel_rfl) rfl rfl rfl (fun w0 => ?_)
  refine W_seq (fun K1 hK1 => ?_)
  refine W_region (WL_cons rfl (WX_alloc_s G 1 rfl rfl rfl rfl rfl (WL_cons rfl (WX_q rfl rfl (q_assign rfl rfl) (WL_cons rfl (WX_q rfl rfl (q_assign rfl rfl) (?_)))))))
  refine WL_nil (hK1 _ ?_)
  clear hK1 K1
  refine W_seq (fun K2 hK2 => ?_)
  refine W_region (WL_cons rfl (WX_q rfl rfl (q_move rfl rfl) (WL_cons rfl (?_))))
  refine WX_q rfl rfl (q_call rfl (ArgsOK.of rfl) (c_strings_Cut s 10 10 rfl (by omega)) rfl) ?_
  refine WL_cons rfl (WX_q rfl rfl (q_move rfl rfl) (WL_cons rfl (WX_q rfl rfl (q_extract rfl rfl rfl) (WL_cons rfl (WX_q rfl rfl (q_extract rfl rfl rfl) (WL_cons rfl (WX_q rfl rfl (q_extract rfl rfl rfl) (WL_cons rfl (WX_q rfl rfl (q_assign rfl rfl) (WL_cons rfl (WX_q rfl rfl (q_assign rfl rfl) (WL_cons rfl (WX_q rfl rfl (q_assign rfl rfl) (?_))))))))))))))
  refine WL_nil (hK2 _ ?_)
  clear hK2 K2
  refine W_seq (fun K3 hK3 => ?_)
  refine W_region (WL_cons rfl (WX_q rfl rfl (q_move rfl rfl) (WL_cons rfl (?_))))
  refine WX_q rfl rfl (q_call rfl (ArgsOK.of rfl) (c_strings_Cut (firstB s 10) 35 35 rfl (by omega)) rfl) ?_
  refine WL_cons rfl (WX_q rfl rfl (q_move rfl rfl) (WL_cons rfl (WX_q rfl rfl (q_extract rfl rfl rfl) (WL_cons rfl (WX_q rfl rfl (q_extract rfl rfl rfl) (WL_cons rfl (WX_q rfl rfl (q_extract rfl rfl rfl) (WL_cons rfl (WX_q rfl rfl (q_assign rfl rfl) (WL_cons rfl (WX_q rfl rfl (q_assign rfl rfl) (WL_cons rfl (WX_q rfl rfl (q_assign rfl rfl) (?_))))))))))))))
  refine WL_nil (hK3 _ ?_)
  clear hK3 K3
  refine W_seq (fun K4 hK4 => ?_)
  refine W_region (WL_cons rfl (WX_q rfl rfl (q_move rfl rfl) (WL_cons rfl (?_))))
  refine WX_q rfl rfl (q_call rfl (ArgsOK.of rfl) (c_strings_Cut (firstB (firstB s 10) 35) 32 32 rfl (by omega)) rfl) ?_
  refine WL_cons rfl (WX_q rfl rfl (q_move rfl rfl) (WL_cons rfl (WX_q rfl rfl (q_extract rfl rfl rfl) (WL_cons rfl (WX_q rfl rfl (q_extract rfl rfl rfl) (WL_cons rfl (WX_q rfl rfl (q_extract rfl rfl rfl) (WL_cons rfl (WX_q rfl rfl (q_assign rfl rfl) (WL_cons rfl (WX_q rfl rfl (q_assign rfl rfl) (WL_cons rfl (WX_q rfl rfl (q_assign rfl rfl) (?_))))))))))))))
  refine WL_nil (hK4 _ ?_)
  clear hK4 K4
  refine W_seq (fun K5 hK5 => ?_)
  refine W_region (WL_cons rfl (WX_q rfl rfl (q_move rfl rfl) (WL_cons rfl (?_))))
  refine WX_q rfl rfl (q_call rfl (ArgsOK.of rfl) (c_strings_Cut (afterB (firstB (firstB s 10) 35) 32) 64 64 rfl (by omega)) rfl) ?_
  refine WL_cons rfl (WX_q rfl rfl (q_move rfl rfl) (WL_cons rfl (WX_q rfl rfl (q_extract rfl rfl rfl) (WL_cons rfl (WX_q rfl rfl (q_extract rfl rfl rfl) (WL_cons rfl (WX_q rfl rfl (q_extract rfl rfl rfl) (WL_cons rfl (WX_q rfl rfl (q_assign rfl rfl) (WL_cons rfl (WX_q rfl rfl (q_assign rfl rfl) (WL_cons rfl (WX_q rfl rfl (q_assign rfl rfl) (?_))))))))))))))
  refine WL_nil (hK5 _ ?_)
  clear hK5 K5
  rw [← riE_c, ← riE_r]
  refine W_seq (fun K6 hK6 => ?_)
  refine W_region (WL_cons rfl (WX_q rfl rfl (q_move rfl rfl) (WL_cons rfl (WX_q rfl rfl (q_move rfl rfl) (WL_cons rfl (WX_q rfl rfl (q_build G rfl rfl rfl rfl) (WL_cons rfl (WX_alloc_s G 2 rfl rfl rfl rfl rfl (WL_cons rfl (WX_store G rfl rfl rfl rfl rfl rfl rfl rfl rfl rfl rfl (?_)))))))))))
  refine WL_nil (hK6 _ ?_)
  clear hK6 K6
  refine W_seq (fun K7 hK7 => ?_)
  refine W_seq (fun K8 hK8 => ?_)
  refine W_region (WL_cons rfl (WX_q rfl rfl (q_move rfl rfl) (WL_cons rfl (WX_q rfl rfl (q_not rfl rfl) (WL_cons rfl (WX_q rfl rfl (q_move rfl rfl) (WL_part rfl rfl rfl (fun h1 => ?_) (fun h1 => ?_))))))))
  · try rw [h1]
    try simp only [decide_eq_true_eq, decide_eq_false_iff_not, beq_iff_eq, bne_iff_ne, ne_eq, Bool.not_eq_true', Bool.not_eq_false', beq_eq_false_iff_ne, bne_eq_false_iff_eq, Bool.not_eq_true, Bool.not_eq_false, Int.not_lt, Int.not_le, gt_iff_lt, ge_iff_le, Bool.and_eq_true, Bool.and_eq_false_iff, Bool.or_eq_true, Bool.or_eq_false_iff] at h1
    have hO := okL_f (s := s) (k := k) (by rw [okL_i hk, riK]; simp [h1])
    refine WL_skip rfl rfl rfl rfl rfl rfl (WL_skip rfl rfl rfl rfl rfl rfl (WL_cons rfl (WX_q rfl rfl (q_pick_t rfl rfl rfl) (WL_cons rfl (WX_q rfl rfl (q_move rfl rfl) (WL_skip rfl rfl rfl rfl rfl rfl (WL_skip rfl rfl rfl rfl rfl rfl (WL_skip rfl rfl rfl rfl rfl rfl (WL_cons rfl (WX_q rfl rfl (q_pick_t rfl rfl rfl) (WL_cons rfl (WX_q rfl rfl (q_move rfl rfl) (WL_skip rfl rfl rfl rfl rfl rfl (WL_skip rfl rfl rfl rfl rfl rfl (WL_skip rfl rfl rfl rfl rfl rfl (WL_skip rfl rfl rfl rfl rfl rfl (WL_skip rfl rfl rfl rfl rfl rfl (WL_skip rfl rfl rfl rfl rfl rfl (WL_cons rfl (WX_q rfl rfl (q_pick_t rfl rfl rfl) (?_)))))))))))))))))))))
    refine WL_nil (hK8 _ ?_)
    clear hK8 K8
    refine W_true rfl ?_
    refine W_seq (fun K9 hK9 => ?_)
    refine W_region (WL_cons rfl (WX_q rfl rfl (q_build G rfl rfl rfl rfl) (WL_cons rfl (WX_store G rfl rfl rfl rfl rfl rfl rfl rfl rfl rfl rfl (WL_cons rfl (WX_q rfl rfl (q_assign rfl rfl) (WL_cons rfl (WX_q rfl rfl (q_assign rfl rfl) (?_)))))))))
    refine WL_nil (hK9 _ ?_)
    clear hK9 K9
    refine W_ret (fin_many rfl rfl rfl rfl (rcs_cons (rc_agg rfl ?_) (rcs_cons (rc_v ?_) (rcs_cons (rc_v ?_) rcs_nil))))
    all_goals clear hK7 K7
    all_goals (first | (rw [hO.1]; rfl) | (rw [hO.2.1]; rfl) | (rw [hO.2.1]; done) | (rw [hO.2.2]; rfl) | (rw [hO.2.2]; done))
  · try rw [h1]
    try simp only [decide_eq_true_eq, decide_eq_false_iff_not, beq_iff_eq, bne_iff_ne, ne_eq, Bool.not_eq_true', Bool.not_eq_false', beq_eq_false_iff_ne, bne_eq_false_iff_eq, Bool.not_eq_true, Bool.not_eq_false, Int.not_lt, Int.not_le, gt_iff_lt, ge_iff_le, Bool.and_eq_true, Bool.and_eq_false_iff, Bool.or_eq_true, Bool.or_eq_false_iff] at h1
    refine WL_run rfl rfl rfl (WX_q rfl rfl (q_move rfl rfl) (WL_run rfl rfl rfl (WX_q rfl rfl (q_cmp rfl rfl rfl rfl) (WL_cons rfl (WX_q rfl rfl (q_pick_f rfl rfl rfl) (WL_cons rfl (WX_q rfl rfl (q_move rfl rfl) (WL_part rfl rfl rfl (fun h2 => ?_) (fun h2 => ?_)))))))))
    · try rw [h2]
      try simp only [decide_eq_true_eq, decide_eq_false_iff_not, beq_iff_eq, bne_iff_ne, ne_eq, Bool.not_eq_true', Bool.not_eq_false', beq_eq_false_iff_ne, bne_eq_false_iff_eq, Bool.not_eq_true, Bool.not_eq_false, Int.not_lt, Int.not_le, gt_iff_lt, ge_iff_le, Bool.and_eq_true, Bool.and_eq_false_iff, Bool.or_eq_true, Bool.or_eq_false_iff] at h2
      have d2 : decide (k < 60) = false := decide_eq_false (by omega)
      have hO := okL_f (s := s) (k := k) (by rw [okL_i hk, riK]; simp [h1, d2])
      refine WL_skip rfl rfl rfl rfl rfl rfl (WL_skip rfl rfl rfl rfl rfl rfl (WL_skip rfl rfl rfl rfl rfl rfl (WL_cons rfl (WX_q rfl rfl (q_pick_t rfl rfl rfl) (WL_cons rfl (WX_q rfl rfl (q_move rfl rfl) (WL_skip rfl rfl rfl rfl rfl rfl (WL_skip rfl rfl rfl rfl rfl rfl (WL_skip rfl rfl rfl rfl rfl rfl (WL_skip rfl rfl rfl rfl rfl rfl (WL_skip rfl rfl rfl rfl rfl rfl (WL_skip rfl rfl rfl rfl rfl rfl (WL_cons rfl (WX_q rfl rfl (q_pick_t rfl rfl rfl) (?_)))))))))))))))
      refine WL_nil (hK8 _ ?_)
      clear hK8 K8
      refine W_true rfl ?_
      refine W_seq (fun K10 hK10 => ?_)
      refine W_region (WL_cons rfl (WX_q rfl rfl (q_build G rfl rfl rfl rfl) (WL_cons rfl (WX_store G rfl rfl rfl rfl rfl rfl rfl rfl rfl rfl rfl (WL_cons rfl (WX_q rfl rfl (q_assign rfl rfl) (WL_cons rfl (WX_q rfl rfl (q_assign rfl rfl) (?_)))))))))
      refine WL_nil (hK10 _ ?_)
      clear hK10 K10
      refine W_ret (fin_many rfl rfl rfl rfl (rcs_cons (rc_agg rfl ?_) (rcs_cons (rc_v ?_) (rcs_cons (rc_v ?_) rcs_nil))))
      all_goals clear hK7 K7
      all_goals (first | (rw [hO.1]; rfl) | (rw [hO.2.1]; rfl) | (rw [hO.2.1]; done) | (rw [hO.2.2]; rfl) | (rw [hO.2.2]; done))
    · try rw [h2]
      try simp only [decide_eq_true_eq, decide_eq_false_iff_not, beq_iff_eq, bne_iff_ne, ne_eq, Bool.not_eq_true', Bool.not_eq_false', beq_eq_false_iff_ne, bne_eq_false_iff_eq, Bool.not_eq_true, Bool.not_eq_false, Int.not_lt, Int.not_le, gt_iff_lt, ge_iff_le, Bool.and_eq_true, Bool.and_eq_false_iff, Bool.or_eq_true, Bool.or_eq_false_iff] at h2
      have d2 : decide (k < 60) = true := decide_eq_true (by omega)
      refine WL_run rfl rfl rfl (WX_q rfl rfl (q_load_box_struct G rfl rfl rfl rfl rfl rfl) (WL_run rfl rfl rfl (?_)))
      refine WX_q rfl rfl (q_call rfl (ArgsOK.of rfl) (c_impl_IsValidRecord (riE (firstB s 10)) hxs) rfl) ?_
      refine WL_run rfl rfl rfl (WX_q rfl rfl (q_not rfl rfl) (WL_cons rfl (WX_q rfl rfl (q_pick_f rfl rfl rfl) (WL_cons rfl (WX_q rfl rfl (q_move rfl rfl) (WL_part rfl rfl rfl (fun h3 => ?_) (fun h3 => ?_)))))))
      · try rw [h3]
        try simp only [decide_eq_true_eq, decide_eq_false_iff_not, beq_iff_eq, bne_iff_ne, ne_eq, Bool.not_eq_true', Bool.not_eq_false', beq_eq_false_iff_ne, bne_eq_false_iff_eq, Bool.not_eq_true, Bool.not_eq_false, Int.not_lt, Int.not_le, gt_iff_lt, ge_iff_le, Bool.and_eq_true, Bool.and_eq_false_iff, Bool.or_eq_true, Bool.or_eq_false_iff] at h3
        have hO := okL_f (s := s) (k := k) (by rw [okL_i hk, riK]; simp [h1, d2, h3])
        refine WL_skip rfl rfl rfl rfl rfl rfl (WL_skip rfl rfl rfl rfl rfl rfl (WL_skip rfl rfl rfl rfl rfl rfl (WL_skip rfl rfl rfl rfl rfl rfl (WL_skip rfl rfl rfl rfl rfl rfl (WL_skip rfl rfl rfl rfl rfl rfl (WL_cons rfl (WX_q rfl rfl (q_pick_t rfl rfl rfl) (?_))))))))
        refine WL_nil (hK8 _ ?_)
        clear hK8 K8
        refine W_true rfl ?_
        refine W_seq (fun K11 hK11 => ?_)
        refine W_region (WL_cons rfl (WX_q rfl rfl (q_build G rfl rfl rfl rfl) (WL_cons rfl (WX_store G rfl rfl rfl rfl rfl rfl rfl rfl rfl rfl rfl (WL_cons rfl (WX_q rfl rfl (q_assign rfl rfl) (WL_cons rfl (WX_q rfl rfl (q_assign rfl rfl) (?_)))))))))
        refine WL_nil (hK11 _ ?_)
        clear hK11 K11
        refine W_ret (fin_many rfl rfl rfl rfl (rcs_cons (rc_agg rfl ?_) (rcs_cons (rc_v ?_) (rcs_cons (rc_v ?_) rcs_nil))))
        all_goals clear hK7 K7
        all_goals (first | (rw [hO.1]; rfl) | (rw [hO.2.1]; rfl) | (rw [hO.2.1]; done) | (rw [hO.2.2]; rfl) | (rw [hO.2.2]; done))
      · try rw [h3]
        try simp only [decide_eq_true_eq, decide_eq_false_iff_not, beq_iff_eq, bne_iff_ne, ne_eq, Bool.not_eq_true', Bool.not_eq_false', beq_eq_false_iff_ne, bne_eq_false_iff_eq, Bool.not_eq_true, Bool.not_eq_false, Int.not_lt, Int.not_le, gt_iff_lt, ge_iff_le, Bool.and_eq_true, Bool.and_eq_false_iff, Bool.or_eq_true, Bool.or_eq_false_iff] at h3
        refine WL_run rfl rfl rfl (WX_q rfl rfl (q_move rfl rfl) (WL_run rfl rfl rfl (WX_q rfl rfl (q_load_box_struct G rfl rfl rfl rfl rfl rfl) (WL_run rfl rfl rfl (?_)))))
        refine WX_q rfl rfl (q_call rfl (ArgsOK.of rfl) (c_impl_encodeRecord k (riE (firstB s 10)) (by omega) (by omega) (by assumption)) rfl) ?_
        refine WL_run rfl rfl rfl (WX_q rfl rfl (q_move rfl rfl) (WL_run rfl rfl rfl (?_)))
        refine WX_q rfl rfl (q_cat rfl rfl rfl (by (try simp only [ByteArray.size_append, size_lit, List.size_toArray, List.length_cons, List.length_nil]); omega)) ?_
        refine WL_run rfl rfl rfl (WX_q rfl rfl (q_cmp_str rfl rfl rfl rfl) (WL_cons rfl (WX_q rfl rfl (q_pick_f rfl rfl rfl) (?_))))
        refine WL_nil (hK8 _ ?_)
        clear hK8 K8
        refine W_cond rfl (fun h4 => ?_) (fun h4 => ?_)
        · try rw [h4]
          try simp only [decide_eq_true_eq, decide_eq_false_iff_not, beq_iff_eq, bne_iff_ne, ne_eq, Bool.not_eq_true', Bool.not_eq_false', beq_eq_false_iff_ne, bne_eq_false_iff_eq, Bool.not_eq_true, Bool.not_eq_false, Int.not_lt, Int.not_le, gt_iff_lt, ge_iff_le, Bool.and_eq_true, Bool.and_eq_false_iff, Bool.or_eq_true, Bool.or_eq_false_iff] at h4
          have hO := okL_f (s := s) (k := k) (by rw [okL_i hk, riK]; simp [h1, d2, h3, h4])
          refine W_seq (fun K12 hK12 => ?_)
          refine W_region (WL_cons rfl (WX_q rfl rfl (q_build G rfl rfl rfl rfl) (WL_cons rfl (WX_store G rfl rfl rfl rfl rfl rfl rfl rfl rfl rfl rfl (WL_cons rfl (WX_q rfl rfl (q_assign rfl rfl) (WL_cons rfl (WX_q rfl rfl (q_assign rfl rfl) (?_)))))))))
          refine WL_nil (hK12 _ ?_)
          clear hK12 K12
          refine W_ret (fin_many rfl rfl rfl rfl (rcs_cons (rc_agg rfl ?_) (rcs_cons (rc_v ?_) (rcs_cons (rc_v ?_) rcs_nil))))
          all_goals clear hK7 K7
          all_goals (first | (rw [hO.1]; rfl) | (rw [hO.2.1]; rfl) | (rw [hO.2.1]; done) | (rw [hO.2.2]; rfl) | (rw [hO.2.2]; done))
        · try rw [h4]
          try simp only [decide_eq_true_eq, decide_eq_false_iff_not, beq_iff_eq, bne_iff_ne, ne_eq, Bool.not_eq_true', Bool.not_eq_false', beq_eq_false_iff_ne, bne_eq_false_iff_eq, Bool.not_eq_true, Bool.not_eq_false, Int.not_lt, Int.not_le, gt_iff_lt, ge_iff_le, Bool.and_eq_true, Bool.and_eq_false_iff, Bool.or_eq_true, Bool.or_eq_false_iff] at h4
          have hO := okL_t (s := s) (k := k) hk (by rw [okL_i hk, riK]; simp [h1, d2, h3, h4])
          refine W_skip (hK7 _ ?_)
          clear hK7 K7
          refine W_seq (fun K13 hK13 => ?_)
          refine W_region (WL_cons rfl (WX_q rfl rfl (q_load_box_struct G rfl rfl rfl rfl rfl rfl) (WL_cons rfl (WX_q rfl rfl (q_move rfl rfl) (WL_cons rfl (WX_q rfl rfl (q_len_str G rfl rfl rfl) (WL_cons rfl (?_))))))))
          first | refine WX_q rfl rfl (q_arith rfl rfl rfl rfl (by omega) (by omega)) ?_ | refine WX_q rfl rfl (q_wrap rfl rfl rfl rfl) ?_
          refine WL_cons rfl (WX_store G rfl rfl rfl rfl rfl rfl rfl rfl rfl rfl rfl (WL_cons rfl (WX_q rfl rfl (q_assign rfl rfl) (WL_cons rfl (WX_q rfl rfl (q_assign rfl rfl) (?_))))))
          refine WL_nil (hK13 _ ?_)
          clear hK13 K13
          refine W_ret (fin_many rfl rfl rfl rfl (rcs_cons (rc_agg rfl ?_) (rcs_cons (rc_v ?_) (rcs_cons (rc_v ?_) rcs_nil))))
          all_goals (first | (rw [hO.1]; rfl) | (rw [hO.2.1]; rfl) | (rw [hO.2.1]; done) | (rw [hO.2.2]; rfl) | (rw [hO.2.2]; done))

end Go.Proofs.YthpllgbaeokeiaaDoor

/- Walks through functions of the program, one contract each (written by gen.py). -/
set_option maxRecDepth 20000
set_option linter.unusedVariables false
set_option linter.unusedSimpArgs false
namespace Go.Proofs.YthpllgbaeokeiaaDoor
open Go Go.Rf

set_option maxHeartbeats 1600000 in
theorem c_spec_l27Open (s : ByteArray) (hs : s.size ≤ 1048576) : Ctr Tryd.prog 47 [.v (.string s)] (.many [.fr 27 2 ((pre (recN s) (logN s)).map encRc), .v (.int .i64 (posI s (logN s)))]) := by
  refine Ctr.of (n := 52) G Tryd.func47 rfl (by kernel_rfl) rfl rfl rfl (fun w0 => ?_)
  refine W_seq (fun K1 hK1 => ?_)
  refine W_region (WL_cons rfl (WX_q rfl rfl (q_assign rfl rfl) (WL_cons rfl (WX_q rfl rfl (q_assign rfl rfl) (?_)))))
  refine WL_nil (hK1 _ ?_)
  clear hK1 K1
  refine W_seq (fun K2 hK2 => ?_)
  refine W_region (WL_cons rfl (WX_lit G 1 rfl rfl rfl rfl rfl rfl rfl rfl (WL_cons rfl (WX_q rfl rfl (q_assign rfl rfl) (?_)))))
  refine WL_nil (hK2 _ ?_)
  clear hK2 K2
  refine W_seq (fun K3 hK3 => ?_)
  refine W_region (WL_cons rfl (WX_q rfl rfl (q_assign rfl rfl) (?_)))
  refine WL_nil (hK3 _ ?_)
  clear hK3 K3
  refine W_seq (fun K4 hK4 => ?_)
  refine W_block ?_
  refine W_loopK [0] [] (fun (n : Nat) => [(4, .own 0), (5, .v (.int .i64 (posI s n)))]) (fun (n : Nat) => [(0, some (.row 27 2 ((pre (recN s) n).map encRc)))]) (fun (n : Nat) => ∀ j, j < n → okN s j = true) (fun (n : Nat) => 60 - n) 0 rfl rfl ?_ ?_ ?_ ?_
  · exact fun j hj => by omega
  · exact ⟨⟨_, rfl, by rfl⟩, rfl, ⟨⟨_, rfl, by rfl⟩, rfl, trivial⟩⟩
  · exact ⟨⟨_, rfl, by rfl⟩, rfl, rfl, trivial⟩
  · intro n hinv
    have hp := pos_le hinv
    have hpi : posI s n = (posN s n : Int) := rfl
    obtain ⟨hs1, hs2⟩ := splitL_first (s := restN s n) (b := 10)
    have hl1 := splitL_len (s := restN s n) (b := 10)
    have hre : (restN s n).size ≤ s.size := ext_le
    have hll : (lineN s n).size ≤ (restN s n).size := firstB_le
    have hln : (splitL (restN s n) 10).getD ((0 : Int)).toNat default = lineN s n := hs1
    have hlz : ((splitL (restN s n) 10).getD ((0 : Int)).toNat default).size ≤ (restN s n).size := (by rw [hln]; omega)
    have hpl : ((pre (recN s) n).length : Int) = n := (by simp [pre_len])
    simp only [List.cons_append, List.nil_append]
    refine W_seq (fun K5 hK5 => ?_)
    refine W_seq (fun K6 hK6 => ?_)
    refine W_region (WL_cons rfl (WX_q rfl rfl (q_move rfl rfl) (WL_cons rfl (WX_q rfl rfl (q_move rfl rfl) (WL_cons rfl (WX_q rfl rfl (q_len_str G rfl rfl rfl) (WL_cons rfl (WX_q rfl rfl (q_cmp rfl rfl rfl rfl) (WL_cons rfl (WX_q rfl rfl (q_move rfl rfl) (WL_part rfl rfl rfl (fun h1 => ?_) (fun h1 => ?_))))))))))))
    · try rw [h1]
      try simp only [decide_eq_true_eq, decide_eq_false_iff_not, beq_iff_eq, bne_iff_ne, ne_eq, Bool.not_eq_true', Bool.not_eq_false', beq_eq_false_iff_ne, bne_eq_false_iff_eq, Bool.not_eq_true, Bool.not_eq_false, Int.not_lt, Int.not_le, gt_iff_lt, ge_iff_le, Bool.and_eq_true, Bool.and_eq_false_iff, Bool.or_eq_true, Bool.or_eq_false_iff] at h1
      refine WL_run rfl rfl rfl (WX_q rfl rfl (q_move rfl rfl) (WL_run rfl rfl rfl (?_)))
      first | refine WX_q rfl rfl (q_len' G rfl rfl rfl rfl (List.length_map _)) ?_ | refine WX_q rfl rfl (q_len G rfl rfl rfl rfl) ?_
      refine WL_run rfl rfl rfl (WX_q rfl rfl (q_cmp rfl rfl rfl rfl) (WL_cons rfl (WX_q rfl rfl (q_pick_t rfl rfl rfl) (?_))))
      refine WL_nil (hK6 _ ?_)
      clear hK6 K6
      refine W_cond rfl (fun h2 => ?_) (fun h2 => ?_)
      · try rw [h2]
        try simp only [decide_eq_true_eq, decide_eq_false_iff_not, beq_iff_eq, bne_iff_ne, ne_eq, Bool.not_eq_true', Bool.not_eq_false', beq_eq_false_iff_ne, bne_eq_false_iff_eq, Bool.not_eq_true, Bool.not_eq_false, Int.not_lt, Int.not_le, gt_iff_lt, ge_iff_le, Bool.and_eq_true, Bool.and_eq_false_iff, Bool.or_eq_true, Bool.or_eq_false_iff] at h2
        refine W_skip (hK5 _ ?_)
        clear hK5 K5
        refine W_block ?_
        refine W_seq (fun K7 hK7 => ?_)
        refine W_region (WL_cons rfl (WX_q rfl rfl (q_move rfl rfl) (WL_cons rfl (WX_q rfl rfl (q_move rfl rfl) (WL_cons rfl (?_))))))
        refine WX_q rfl rfl (q_cut_str G rfl rfl rfl rfl rfl (by omega) (by omega) (by omega)) ?_
        refine WL_cons rfl (?_)
        refine WX_call 2 rfl rfl rfl (ArgsOK.of rfl) (c_spec_l1Split _ 10 (Nat.le_trans ext_le hs)) rfl rfl ?_
        refine WL_cons rfl (WX_q rfl rfl (q_assign rfl rfl) (?_))
        refine WL_nil (hK7 _ ?_)
        clear hK7 K7
        rw [restN_eq]
        refine W_seq (fun K8 hK8 => ?_)
        refine W_region (WL_cons rfl (WX_q rfl rfl (q_move rfl rfl) (WL_cons rfl (?_))))
        first | refine WX_q rfl rfl (q_index_own G rfl rfl rfl rfl rfl (by omega) (by simp; omega)) ?_ | refine WX_q rfl rfl (q_index_own G rfl rfl rfl rfl rfl (by omega) (by omega)) ?_
        refine WL_cons rfl (?_)
        refine WX_q rfl rfl (q_load_rpt G rfl rfl rfl rfl rfl (getM (by omega) (by simp; omega)) rfl) ?_
        refine WL_cons rfl (WX_q rfl rfl (q_move rfl rfl) (WL_cons rfl (?_)))
        first | refine WX_q rfl rfl (q_len' G rfl rfl rfl rfl (List.length_map _)) ?_ | refine WX_q rfl rfl (q_len G rfl rfl rfl rfl) ?_
        refine WL_cons rfl (?_)
        refine WX_q rfl rfl (q_call rfl (ArgsOK.of rfl) (c_spec_l27Read _ _ (by rw [hln]; omega) (by omega) (by omega)) rfl) ?_
        refine WL_cons rfl (WX_q rfl rfl (q_move rfl rfl) (WL_cons rfl (WX_q rfl rfl (q_extract rfl rfl rfl) (WL_cons rfl (WX_q rfl rfl (q_extract rfl rfl rfl) (WL_cons rfl (WX_alloc_s G 3 rfl rfl rfl rfl rfl (WL_cons rfl (WX_store G rfl rfl rfl rfl rfl rfl rfl rfl rfl rfl rfl (WL_cons rfl (WX_q rfl rfl (q_assign rfl rfl) (?_))))))))))))
        refine WL_nil (hK8 _ ?_)
        clear hK8 K8
        rw [hln, hpl]
        refine W_seq (fun K9 hK9 => ?_)
        refine W_seq (fun K10 hK10 => ?_)
        refine W_region (WL_cons rfl (WX_q rfl rfl (q_move rfl rfl) (WL_cons rfl (?_))))
        first | refine WX_q rfl rfl (q_len' G rfl rfl rfl rfl (List.length_map _)) ?_ | refine WX_q rfl rfl (q_len G rfl rfl rfl rfl) ?_
        refine WL_cons rfl (WX_q rfl rfl (q_cmp rfl rfl rfl rfl) (WL_cons rfl (WX_q rfl rfl (q_move rfl rfl) (WL_part rfl rfl rfl (fun h3 => ?_) (fun h3 => ?_)))))
        · try rw [h3]
          try simp only [decide_eq_true_eq, decide_eq_false_iff_not, beq_iff_eq, bne_iff_ne, ne_eq, Bool.not_eq_true', Bool.not_eq_false', beq_eq_false_iff_ne, bne_eq_false_iff_eq, Bool.not_eq_true, Bool.not_eq_false, Int.not_lt, Int.not_le, gt_iff_lt, ge_iff_le, Bool.and_eq_true, Bool.and_eq_false_iff, Bool.or_eq_true, Bool.or_eq_false_iff] at h3
          have hN := logN_eq hinv (okN_f3 (by omega))
          refine WL_skip rfl rfl rfl rfl rfl rfl (WL_skip rfl rfl rfl rfl rfl rfl (WL_cons rfl (WX_q rfl rfl (q_pick_t rfl rfl rfl) (?_))))
          refine WL_nil (hK10 _ ?_)
          clear hK10 K10
          refine W_true rfl ?_
          refine W_exit (hK4 _ ?_)
          clear hK9 K9 hK4 K4
          refine W_seq (fun K11 hK11 => ?_)
          refine W_region (WL_cons rfl (WX_q rfl rfl (q_move rfl rfl) (WL_cons rfl (WX_q rfl rfl (q_move rfl rfl) (WL_cons rfl (WX_q rfl rfl (q_assign rfl rfl) (WL_cons rfl (WX_q rfl rfl (q_assign rfl rfl) (?_)))))))))
          refine WL_nil (hK11 _ ?_)
          clear hK11 K11
          refine W_ret (fin_many rfl rfl rfl rfl (rcs_cons (rc_own rfl ?_) (rcs_cons (rc_v ?_) rcs_nil)))
          all_goals ((rw [hN]))
        · try rw [h3]
          try simp only [decide_eq_true_eq, decide_eq_false_iff_not, beq_iff_eq, bne_iff_ne, ne_eq, Bool.not_eq_true', Bool.not_eq_false', beq_eq_false_iff_ne, bne_eq_false_iff_eq, Bool.not_eq_true, Bool.not_eq_false, Int.not_lt, Int.not_le, gt_iff_lt, ge_iff_le, Bool.and_eq_true, Bool.and_eq_false_iff, Bool.or_eq_true, Bool.or_eq_false_iff] at h3
          refine WL_run rfl rfl rfl (WX_q rfl rfl (q_move rfl rfl) (WL_run rfl rfl rfl (WX_q rfl rfl (q_not rfl rfl) (WL_cons rfl (WX_q rfl rfl (q_pick_f rfl rfl rfl) (?_))))))
          refine WL_nil (hK10 _ ?_)
          clear hK10 K10
          refine W_cond rfl (fun h4 => ?_) (fun h4 => ?_)
          · try rw [h4]
            try simp only [decide_eq_true_eq, decide_eq_false_iff_not, beq_iff_eq, bne_iff_ne, ne_eq, Bool.not_eq_true', Bool.not_eq_false', beq_eq_false_iff_ne, bne_eq_false_iff_eq, Bool.not_eq_true, Bool.not_eq_false, Int.not_lt, Int.not_le, gt_iff_lt, ge_iff_le, Bool.and_eq_true, Bool.and_eq_false_iff, Bool.or_eq_true, Bool.or_eq_false_iff] at h4
            have hN := logN_eq hinv (okN_f4 h4)
            refine W_exit (hK4 _ ?_)
            clear hK9 K9 hK4 K4
            refine W_seq (fun K12 hK12 => ?_)
            refine W_region (WL_cons rfl (WX_q rfl rfl (q_move rfl rfl) (WL_cons rfl (WX_q rfl rfl (q_move rfl rfl) (WL_cons rfl (WX_q rfl rfl (q_assign rfl rfl) (WL_cons rfl (WX_q rfl rfl (q_assign rfl rfl) (?_)))))))))
            refine WL_nil (hK12 _ ?_)
            clear hK12 K12
            refine W_ret (fin_many rfl rfl rfl rfl (rcs_cons (rc_own rfl ?_) (rcs_cons (rc_v ?_) rcs_nil)))
            all_goals ((rw [hN]))
          · try rw [h4]
            try simp only [decide_eq_true_eq, decide_eq_false_iff_not, beq_iff_eq, bne_iff_ne, ne_eq, Bool.not_eq_true', Bool.not_eq_false', beq_eq_false_iff_ne, bne_eq_false_iff_eq, Bool.not_eq_true, Bool.not_eq_false, Int.not_lt, Int.not_le, gt_iff_lt, ge_iff_le, Bool.and_eq_true, Bool.and_eq_false_iff, Bool.or_eq_true, Bool.or_eq_false_iff] at h4
            have hok := okN_t (s := s) (n := n) (by omega) (by omega) h4
            refine W_skip (hK9 _ ?_)
            clear hK9 K9
            refine W_seq (fun K13 hK13 => ?_)
            refine W_region (WL_cons rfl (WX_q rfl rfl (q_move rfl rfl) (WL_cons rfl (WX_q rfl rfl (q_load_box_struct G rfl rfl rfl rfl rfl rfl) (WL_cons rfl (WX_lit G 4 rfl rfl rfl rfl rfl rfl rfl rfl (WL_cons rfl (?_))))))))
            refine WX_append G np rfl rfl rfl rfl rfl rfl rfl rfl rfl (by simp [pre_len]; omega) rfl rfl ?_
            refine WL_cons rfl (WX_q rfl rfl (q_assign rfl rfl) (?_))
            refine WL_nil (hK13 _ ?_)
            clear hK13 K13
            refine W_region (WL_cons rfl (WX_q rfl rfl (q_move rfl rfl) (WL_cons rfl (WX_q rfl rfl (q_move rfl rfl) (WL_cons rfl (?_))))))
            first | refine WX_q rfl rfl (q_index_own G rfl rfl rfl rfl rfl (by omega) (by simp; omega)) ?_ | refine WX_q rfl rfl (q_index_own G rfl rfl rfl rfl rfl (by omega) (by omega)) ?_
            refine WL_cons rfl (?_)
            refine WX_q rfl rfl (q_load_rpt G rfl rfl rfl rfl rfl (getM (by omega) (by simp; omega)) rfl) ?_
            refine WL_cons rfl (WX_q rfl rfl (q_len_str G rfl rfl rfl) (WL_cons rfl (?_)))
            first | refine WX_q rfl rfl (q_arith rfl rfl rfl rfl (by omega) (by omega)) ?_ | refine WX_q rfl rfl (q_wrap rfl rfl rfl rfl) ?_
            refine WL_cons rfl (?_)
            first | refine WX_q rfl rfl (q_arith rfl rfl rfl rfl (by omega) (by omega)) ?_ | refine WX_q rfl rfl (q_wrap rfl rfl rfl rfl) ?_
            refine WL_cons rfl (WX_q rfl rfl (q_assign rfl rfl) (?_))
            refine WL_nil ⟨(n + 1), ?_, ?_, ⟨⟨_, rfl, by (first | exact (rfl : AV.own 0 = AV.own 0) | (rw [hln, posI_succ (s := s) (n := n)]; done))⟩, rfl, ⟨⟨_, rfl, by (first | exact (rfl : AV.own 0 = AV.own 0) | (rw [hln, posI_succ (s := s) (n := n)]; done))⟩, rfl, trivial⟩⟩, ⟨⟨_, rfl, by (exact congrArg (Row.row _ _) (pre_snoc (g := recN s) (f := encRc) (i := n)))⟩, rfl, rfl, trivial⟩, rfl, rfl, rfl⟩
            · exact upto_succ hinv hok
            · omega
      · try rw [h2]
        try simp only [decide_eq_true_eq, decide_eq_false_iff_not, beq_iff_eq, bne_iff_ne, ne_eq, Bool.not_eq_true', Bool.not_eq_false', beq_eq_false_iff_ne, bne_eq_false_iff_eq, Bool.not_eq_true, Bool.not_eq_false, Int.not_lt, Int.not_le, gt_iff_lt, ge_iff_le, Bool.and_eq_true, Bool.and_eq_false_iff, Bool.or_eq_true, Bool.or_eq_false_iff] at h2
        have hN := logN_eq hinv (okN_f2 (by omega))
        refine W_exit (hK4 _ ?_)
        clear hK5 K5 hK4 K4
        refine W_seq (fun K14 hK14 => ?_)
        refine W_region (WL_cons rfl (WX_q rfl rfl (q_move rfl rfl) (WL_cons rfl (WX_q rfl rfl (q_move rfl rfl) (WL_cons rfl (WX_q rfl rfl (q_assign rfl rfl) (WL_cons rfl (WX_q rfl rfl (q_assign rfl rfl) (?_)))))))))
        refine WL_nil (hK14 _ ?_)
        clear hK14 K14
        refine W_ret (fin_many rfl rfl rfl rfl (rcs_cons (rc_own rfl ?_) (rcs_cons (rc_v ?_) rcs_nil)))
        all_goals ((rw [hN]))
    · try rw [h1]
      try simp only [decide_eq_true_eq, decide_eq_false_iff_not, beq_iff_eq, bne_iff_ne, ne_eq, Bool.not_eq_true', Bool.not_eq_false', beq_eq_false_iff_ne, bne_eq_false_iff_eq, Bool.not_eq_true, Bool.not_eq_false, Int.not_lt, Int.not_le, gt_iff_lt, ge_iff_le, Bool.and_eq_true, Bool.and_eq_false_iff, Bool.or_eq_true, Bool.or_eq_false_iff] at h1
      have hN := logN_eq hinv (okN_f1 (by omega))
      refine WL_skip rfl rfl rfl rfl rfl rfl (WL_skip rfl rfl rfl rfl rfl rfl (WL_skip rfl rfl rfl rfl rfl rfl (WL_cons rfl (WX_q rfl rfl (q_pick_f rfl rfl rfl) (?_)))))
      refine WL_nil (hK6 _ ?_)
      clear hK6 K6
      refine W_false rfl ?_
      refine W_exit (hK4 _ ?_)
      clear hK5 K5 hK4 K4
      refine W_seq (fun K15 hK15 => ?_)
      refine W_region (WL_cons rfl (WX_q rfl rfl (q_move rfl rfl) (WL_cons rfl (WX_q rfl rfl (q_move rfl rfl) (WL_cons rfl (WX_q rfl rfl (q_assign rfl rfl) (WL_cons rfl (WX_q rfl rfl (q_assign rfl rfl) (?_)))))))))
      refine WL_nil (hK15 _ ?_)
      clear hK15 K15
      refine W_ret (fin_many rfl rfl rfl rfl (rcs_cons (rc_own rfl ?_) (rcs_cons (rc_v ?_) rcs_nil)))
      all_goals ((rw [hN]))

set_option maxHeartbeats 1600000 in
theorem c_impl_readRecords (s : ByteArray) (hs : s.size ≤ 1048576) : Ctr Tryd.prog 48 [.v (.string s)] (.many [.fr 27 2 ((pre (recN s) (logN s)).map encRc), .fr 3 1 ((pre (posI s) (logN s + 1)).map encI)]) := by
  refine Ctr.of (n := 37) G Tryd.func48 rfl (by kernel_rfl) rfl rfl rfl (fun w0 => ?_)
  refine W_seq (fun K1 hK1 => ?_)
  refine W_region (WL_cons rfl (WX_q rfl rfl (q_assign rfl rfl) (WL_cons rfl (WX_q rfl rfl (q_assign rfl rfl) (?_)))))
  refine WL_nil (hK1 _ ?_)
  clear hK1 K1
  refine W_seq (fun K2 hK2 => ?_)
  refine W_region (WL_cons rfl (WX_lit G 1 rfl rfl rfl rfl rfl rfl rfl rfl (WL_cons rfl (WX_lit G 2 rfl rfl rfl rfl rfl rfl rfl rfl (WL_cons rfl (WX_q rfl rfl (q_assign rfl rfl) (WL_cons rfl (WX_q rfl rfl (q_assign rfl rfl) (WL_cons rfl (WX_q rfl rfl (q_assign rfl rfl) (?_)))))))))))
  refine WL_nil (hK2 _ ?_)
  clear hK2 K2
  refine W_block ?_
  refine W_loopK [0] [] (fun (n : Nat) => [(4, .own 0), (5, .own 1), (6, .v (.int .i64 (posI s n)))]) (fun (n : Nat) => [(0, some (.row 27 2 ((pre (recN s) n).map encRc))), (1, some (.row 3 1 ((pre (posI s) (n + 1)).map encI)))]) (fun (n : Nat) => ∀ j, j < n → okN s j = true) (fun (n : Nat) => 61 - n) 0 rfl rfl ?_ ?_ ?_ ?_
  · exact fun j hj => by omega
  · exact ⟨⟨_, rfl, by rfl⟩, rfl, ⟨⟨_, rfl, by rfl⟩, rfl, ⟨⟨_, rfl, by rfl⟩, rfl, trivial⟩⟩⟩
  · exact ⟨⟨_, rfl, by rfl⟩, rfl, rfl, ⟨⟨_, rfl, by rfl⟩, rfl, rfl, trivial⟩⟩
  · intro n hinv
    have hp := pos_le hinv
    have hpi : posI s n = (posN s n : Int) := rfl
    have hre : (restN s n).size ≤ s.size := ext_le
    have hll : (lineN s n).size ≤ (restN s n).size := firstB_le
    have hpl : ((pre (recN s) n).length : Int) = n := (by simp [pre_len])
    simp only [List.cons_append, List.nil_append]
    refine W_block ?_
    refine W_seq (fun K3 hK3 => ?_)
    refine W_region (WL_cons rfl (WX_q rfl rfl (q_move rfl rfl) (WL_cons rfl (WX_q rfl rfl (q_move rfl rfl) (WL_cons rfl (?_))))))
    refine WX_q rfl rfl (q_cut_str G rfl rfl rfl rfl rfl (by omega) (by omega) (by omega)) ?_
    refine WL_cons rfl (WX_q rfl rfl (q_move rfl rfl) (WL_cons rfl (?_)))
    first | refine WX_q rfl rfl (q_len' G rfl rfl rfl rfl (List.length_map _)) ?_ | refine WX_q rfl rfl (q_len G rfl rfl rfl rfl) ?_
    refine WL_cons rfl (?_)
    refine WX_q rfl rfl (q_call rfl (ArgsOK.of rfl) (c_impl_readRecord _ _ (Nat.le_trans ext_le hs) (by omega) (by omega)) rfl) ?_
    refine WL_cons rfl (WX_q rfl rfl (q_move rfl rfl) (WL_cons rfl (WX_q rfl rfl (q_extract rfl rfl rfl) (WL_cons rfl (WX_q rfl rfl (q_extract rfl rfl rfl) (WL_cons rfl (WX_q rfl rfl (q_extract rfl rfl rfl) (WL_cons rfl (WX_alloc_s G 3 rfl rfl rfl rfl rfl (WL_cons rfl (WX_store G rfl rfl rfl rfl rfl rfl rfl rfl rfl rfl rfl (WL_cons rfl (WX_q rfl rfl (q_assign rfl rfl) (WL_cons rfl (WX_q rfl rfl (q_assign rfl rfl) (?_))))))))))))))))
    refine WL_nil (hK3 _ ?_)
    clear hK3 K3
    refine W_seq (fun K4 hK4 => ?_)
    refine W_seq (fun K5 hK5 => ?_)
    refine W_region (WL_cons rfl (WX_q rfl rfl (q_move rfl rfl) (WL_cons rfl (WX_q rfl rfl (q_not rfl rfl) (?_)))))
    refine WL_nil (hK5 _ ?_)
    clear hK5 K5
    rw [restN_eq, hpl]
    refine W_cond rfl (fun h1 => ?_) (fun h1 => ?_)
    · try rw [h1]
      try simp only [decide_eq_true_eq, decide_eq_false_iff_not, beq_iff_eq, bne_iff_ne, ne_eq, Bool.not_eq_true', Bool.not_eq_false', beq_eq_false_iff_ne, bne_eq_false_iff_eq, Bool.not_eq_true, Bool.not_eq_false, Int.not_lt, Int.not_le, gt_iff_lt, ge_iff_le, Bool.and_eq_true, Bool.and_eq_false_iff, Bool.or_eq_true, Bool.or_eq_false_iff] at h1
      have hN := logN_eq hinv h1
      refine W_seq (fun K6 hK6 => ?_)
      refine W_region (WL_cons rfl (WX_q rfl rfl (q_move rfl rfl) (WL_cons rfl (WX_q rfl rfl (q_move rfl rfl) (WL_cons rfl (WX_q rfl rfl (q_assign rfl rfl) (WL_cons rfl (WX_q rfl rfl (q_assign rfl rfl) (?_)))))))))
      refine WL_nil (hK6 _ ?_)
      clear hK6 K6
      refine W_ret (fin_many rfl rfl rfl rfl (rcs_cons (rc_own rfl ?_) (rcs_cons (rc_own rfl ?_) rcs_nil)))
      all_goals clear hK4 K4
      all_goals ((rw [hN]))
    · try rw [h1]
      try simp only [decide_eq_true_eq, decide_eq_false_iff_not, beq_iff_eq, bne_iff_ne, ne_eq, Bool.not_eq_true', Bool.not_eq_false', beq_eq_false_iff_ne, bne_eq_false_iff_eq, Bool.not_eq_true, Bool.not_eq_false, Int.not_lt, Int.not_le, gt_iff_lt, ge_iff_le, Bool.and_eq_true, Bool.and_eq_false_iff, Bool.or_eq_true, Bool.or_eq_false_iff] at h1
      have hok : okN s n = true := h1
      obtain ⟨he1, he2⟩ := okN_rr hok
      rw [he1, he2]
      have hb1 := okN_pos hok
      refine W_skip (hK4 _ ?_)
      clear hK4 K4
      refine W_seq (fun K7 hK7 => ?_)
      refine W_region (WL_cons rfl (WX_q rfl rfl (q_move rfl rfl) (WL_cons rfl (WX_q rfl rfl (q_move rfl rfl) (WL_cons rfl (?_))))))
      first | refine WX_q rfl rfl (q_arith rfl rfl rfl rfl (by omega) (by omega)) ?_ | refine WX_q rfl rfl (q_wrap rfl rfl rfl rfl) ?_
      refine WL_cons rfl (WX_q rfl rfl (q_assign rfl rfl) (?_))
      refine WL_nil (hK7 _ ?_)
      clear hK7 K7
      refine W_seq (fun K8 hK8 => ?_)
      refine W_region (WL_cons rfl (WX_q rfl rfl (q_move rfl rfl) (WL_cons rfl (WX_q rfl rfl (q_load_box_struct G rfl rfl rfl rfl rfl rfl) (WL_cons rfl (WX_lit G 4 rfl rfl rfl rfl rfl rfl rfl rfl (WL_cons rfl (?_))))))))
      refine WX_append G np rfl rfl rfl rfl rfl rfl rfl rfl rfl (by simp [pre_len]; omega) rfl rfl ?_
      refine WL_cons rfl (WX_q rfl rfl (q_assign rfl rfl) (?_))
      refine WL_nil (hK8 _ ?_)
      clear hK8 K8
      refine W_region (WL_cons rfl (WX_q rfl rfl (q_move rfl rfl) (WL_cons rfl (WX_q rfl rfl (q_move rfl rfl) (WL_cons rfl (WX_lit G 5 rfl rfl rfl rfl rfl rfl rfl rfl (WL_cons rfl (?_))))))))
      refine WX_append G np rfl rfl rfl rfl rfl rfl rfl rfl rfl (by simp [pre_len]; omega) rfl rfl ?_
      refine WL_cons rfl (WX_q rfl rfl (q_assign rfl rfl) (?_))
      refine WL_nil ⟨(n + 1), ?_, ?_, ⟨⟨_, rfl, by (first | exact (rfl : AV.own 0 = AV.own 0) | exact (rfl : AV.own 1 = AV.own 1) | (rw [posI_succ2 (s := s) (n := n)]; done))⟩, rfl, ⟨⟨_, rfl, by (first | exact (rfl : AV.own 0 = AV.own 0) | exact (rfl : AV.own 1 = AV.own 1) | (rw [posI_succ2 (s := s) (n := n)]; done))⟩, rfl, ⟨⟨_, rfl, by (first | exact (rfl : AV.own 0 = AV.own 0) | exact (rfl : AV.own 1 = AV.own 1) | (rw [posI_succ2 (s := s) (n := n)]; done))⟩, rfl, trivial⟩⟩⟩, ⟨⟨_, rfl, by (first | exact congrArg (Row.row _ _) (pre_snoc (g := recN s) (f := encRc) (i := n)) | (rw [posI_succ2]; exact congrArg (Row.row _ _) (pre_snoc (g := posI s) (f := encI) (i := n + 1))))⟩, rfl, rfl, ⟨⟨_, rfl, by (first | exact congrArg (Row.row _ _) (pre_snoc (g := recN s) (f := encRc) (i := n)) | (rw [posI_succ2]; exact congrArg (Row.row _ _) (pre_snoc (g := posI s) (f := encI) (i := n + 1))))⟩, rfl, rfl, trivial⟩⟩, rfl, rfl, rfl⟩
      · exact upto_succ hinv hok
      · omega

end Go.Proofs.YthpllgbaeokeiaaDoor

/- Walks through functions of the program, one contract each (written by gen.py). -/
set_option maxRecDepth 20000
set_option linter.unusedVariables false
set_option linter.unusedSimpArgs false
namespace Go.Proofs.YthpllgbaeokeiaaDoor
open Go Go.Rf

theorem c_laws_eqLog (x y : Lg) : Ctr Tryd.prog 19 [.v (encL x), .v (encL y)] (.one (.v (.bool (eqL x y)))) := by
  refine Ctr.of (n := 20) G Tryd.func19 rfl (by kernel_rfl) rfl rfl rfl (fun w0 => ?_)
  refine W_seq (fun K1 hK1 => ?_)
  refine W_region (WL_cons rfl (WX_box 1 rfl rfl rfl rfl rfl rfl rfl (WL_cons rfl (WX_box 2 rfl rfl rfl rfl rfl rfl rfl (WL_cons rfl (WX_q rfl rfl (q_assign rfl rfl) (?_)))))))
  refine WL_nil (hK1 _ ?_)
  clear hK1 K1
  refine W_seq (fun K2 hK2 => ?_)
  refine W_seq (fun K3 hK3 => ?_)
  refine W_region (WL_cons rfl (WX_q rfl rfl (q_field_ptr G rfl rfl rfl rfl) (WL_cons rfl (WX_q rfl rfl (q_load_box G rfl rfl rfl rfl rfl rfl rfl) (WL_cons rfl (WX_q rfl rfl (q_field_ptr G rfl rfl rfl rfl) (WL_cons rfl (WX_q rfl rfl (q_load_box G rfl rfl rfl rfl rfl rfl rfl) (WL_cons rfl (WX_q rfl rfl (q_cmp_str rfl rfl rfl rfl) (?_)))))))))))
  refine WL_nil (hK3 _ ?_)
  clear hK3 K3
  refine W_cond rfl (fun h1 => ?_) (fun h1 => ?_)
  · try rw [h1]
    try simp only [decide_eq_true_eq, decide_eq_false_iff_not, beq_iff_eq, bne_iff_ne, ne_eq, Bool.not_eq_true', Bool.not_eq_false', beq_eq_false_iff_ne, bne_eq_false_iff_eq, Bool.not_eq_true, Bool.not_eq_false, Int.not_lt, Int.not_le, gt_iff_lt, ge_iff_le, Bool.and_eq_true, Bool.and_eq_false_iff, Bool.or_eq_true, Bool.or_eq_false_iff] at h1
    refine W_seq (fun K4 hK4 => ?_)
    refine W_region (WL_cons rfl (WX_q rfl rfl (q_assign rfl rfl) (?_)))
    refine WL_nil (hK4 _ ?_)
    clear hK4 K4
    refine W_ret (fin_one rfl (rc_v ?_))
    all_goals clear hK2 K2
    all_goals (first | rfl | (simp_all [eqL]; done))
  · try rw [h1]
    try simp only [decide_eq_true_eq, decide_eq_false_iff_not, beq_iff_eq, bne_iff_ne, ne_eq, Bool.not_eq_true', Bool.not_eq_false', beq_eq_false_iff_ne, bne_eq_false_iff_eq, Bool.not_eq_true, Bool.not_eq_false, Int.not_lt, Int.not_le, gt_iff_lt, ge_iff_le, Bool.and_eq_true, Bool.and_eq_false_iff, Bool.or_eq_true, Bool.or_eq_false_iff] at h1
    refine W_skip (hK2 _ ?_)
    clear hK2 K2
    refine W_seq (fun K5 hK5 => ?_)
    refine W_seq (fun K6 hK6 => ?_)
    refine W_region (WL_cons rfl (WX_q rfl rfl (q_field_ptr G rfl rfl rfl rfl) (WL_cons rfl (WX_q rfl rfl (q_load_box G rfl rfl rfl rfl rfl rfl rfl) (WL_cons rfl (WX_q rfl rfl (q_field_ptr G rfl rfl rfl rfl) (WL_cons rfl (WX_q rfl rfl (q_load_box G rfl rfl rfl rfl rfl rfl rfl) (WL_cons rfl (WX_q rfl rfl (q_cmp_str rfl rfl rfl rfl) (?_)))))))))))
    refine WL_nil (hK6 _ ?_)
    clear hK6 K6
    refine W_cond rfl (fun h2 => ?_) (fun h2 => ?_)
    · try rw [h2]
      try simp only [decide_eq_true_eq, decide_eq_false_iff_not, beq_iff_eq, bne_iff_ne, ne_eq, Bool.not_eq_true', Bool.not_eq_false', beq_eq_false_iff_ne, bne_eq_false_iff_eq, Bool.not_eq_true, Bool.not_eq_false, Int.not_lt, Int.not_le, gt_iff_lt, ge_iff_le, Bool.and_eq_true, Bool.and_eq_false_iff, Bool.or_eq_true, Bool.or_eq_false_iff] at h2
      refine W_seq (fun K7 hK7 => ?_)
      refine W_region (WL_cons rfl (WX_q rfl rfl (q_assign rfl rfl) (?_)))
      refine WL_nil (hK7 _ ?_)
      clear hK7 K7
      refine W_ret (fin_one rfl (rc_v ?_))
      all_goals clear hK5 K5
      all_goals (first | rfl | (simp_all [eqL]; done))
    · try rw [h2]
      try simp only [decide_eq_true_eq, decide_eq_false_iff_not, beq_iff_eq, bne_iff_ne, ne_eq, Bool.not_eq_true', Bool.not_eq_false', beq_eq_false_iff_ne, bne_eq_false_iff_eq, Bool.not_eq_true, Bool.not_eq_false, Int.not_lt, Int.not_le, gt_iff_lt, ge_iff_le, Bool.and_eq_true, Bool.and_eq_false_iff, Bool.or_eq_true, Bool.or_eq_false_iff] at h2
      refine W_skip (hK5 _ ?_)
      clear hK5 K5
      refine W_seq (fun K8 hK8 => ?_)
      refine W_seq (fun K9 hK9 => ?_)
      refine W_region (WL_cons rfl (WX_q rfl rfl (q_field_ptr G rfl rfl rfl rfl) (WL_cons rfl (WX_q rfl rfl (q_load_box G rfl rfl rfl rfl rfl rfl rfl) (WL_cons rfl (WX_q rfl rfl (q_field_ptr G rfl rfl rfl rfl) (WL_cons rfl (WX_q rfl rfl (q_load_box G rfl rfl rfl rfl rfl rfl rfl) (WL_cons rfl (WX_q rfl rfl (q_cmp rfl rfl rfl rfl) (?_)))))))))))
      refine WL_nil (hK9 _ ?_)
      clear hK9 K9
      refine W_cond rfl (fun h3 => ?_) (fun h3 => ?_)
      · try rw [h3]
        try simp only [decide_eq_true_eq, decide_eq_false_iff_not, beq_iff_eq, bne_iff_ne, ne_eq, Bool.not_eq_true', Bool.not_eq_false', beq_eq_false_iff_ne, bne_eq_false_iff_eq, Bool.not_eq_true, Bool.not_eq_false, Int.not_lt, Int.not_le, gt_iff_lt, ge_iff_le, Bool.and_eq_true, Bool.and_eq_false_iff, Bool.or_eq_true, Bool.or_eq_false_iff] at h3
        refine W_seq (fun K10 hK10 => ?_)
        refine W_region (WL_cons rfl (WX_q rfl rfl (q_assign rfl rfl) (?_)))
        refine WL_nil (hK10 _ ?_)
        clear hK10 K10
        refine W_ret (fin_one rfl (rc_v ?_))
        all_goals clear hK8 K8
        all_goals (first | rfl | (simp_all [eqL]; done))
      · try rw [h3]
        try simp only [decide_eq_true_eq, decide_eq_false_iff_not, beq_iff_eq, bne_iff_ne, ne_eq, Bool.not_eq_true', Bool.not_eq_false', beq_eq_false_iff_ne, bne_eq_false_iff_eq, Bool.not_eq_true, Bool.not_eq_false, Int.not_lt, Int.not_le, gt_iff_lt, ge_iff_le, Bool.and_eq_true, Bool.and_eq_false_iff, Bool.or_eq_true, Bool.or_eq_false_iff] at h3
        refine W_skip (hK8 _ ?_)
        clear hK8 K8
        refine W_seq (fun K11 hK11 => ?_)
        refine W_region (WL_cons rfl (WX_q rfl rfl (q_assign rfl rfl) (?_)))
        refine WL_nil (hK11 _ ?_)
        clear hK11 K11
        refine W_ret (fin_one rfl (rc_v ?_))
        all_goals (first | rfl | (simp_all [eqL]; done))

theorem c_spec_RecoverLog (s : ByteArray) (hs : s.size ≤ 1048576) : Ctr Tryd.prog 17 [.v (.string s)] (.many [.v (encL (rcE s)), .v (.int .i64 (rcN s)), .v (.bool (rcOK s))]) := by
  have hll := logN_le (s := s)
  have hpi : posI s (logN s) = (posN s (logN s) : Int) := rfl
  have hge := ends_at (s := s)
  have hrl := recs_len (s := s)
  have hel : (pre (posI s) (logN s + 1)).length = logN s + 1 := pre_len
  have hem : ((pre (posI s) (logN s + 1)).map encI).length = logN s + 1 := (by rw [List.length_map, pre_len])
  refine Ctr.of (n := 23) G Tryd.func17 rfl (by kernel_rfl) rfl rfl rfl (fun w0 => ?_)
  refine W_seq (fun K1 hK1 => ?_)
  refine W_region (WL_cons rfl (WX_alloc_s G 1 rfl rfl rfl rfl rfl (WL_cons rfl (WX_q rfl rfl (q_assign rfl rfl) (WL_cons rfl (WX_q rfl rfl (q_assign rfl rfl) (?_)))))))
  refine WL_nil (hK1 _ ?_)
  clear hK1 K1
  refine W_seq (fun K2 hK2 => ?_)
  refine W_seq (fun K3 hK3 => ?_)
  refine W_region (WL_cons rfl (WX_q rfl rfl (q_move rfl rfl) (WL_cons rfl (WX_q rfl rfl (q_len_str G rfl rfl rfl) (WL_cons rfl (WX_q rfl rfl (q_cmp rfl rfl rfl rfl) (?_)))))))
  refine WL_nil (hK3 _ ?_)
  clear hK3 K3
  refine W_cond rfl (fun h1 => ?_) (fun h1 => ?_)
  · try rw [h1]
    try simp only [decide_eq_true_eq, decide_eq_false_iff_not, beq_iff_eq, bne_iff_ne, ne_eq, Bool.not_eq_true', Bool.not_eq_false', beq_eq_false_iff_ne, bne_eq_false_iff_eq, Bool.not_eq_true, Bool.not_eq_false, Int.not_lt, Int.not_le, gt_iff_lt, ge_iff_le, Bool.and_eq_true, Bool.and_eq_false_iff, Bool.or_eq_true, Bool.or_eq_false_iff] at h1
    have hO := rc_f (s := s) (by omega)
    refine W_seq (fun K4 hK4 => ?_)
    refine W_region (WL_cons rfl (WX_q rfl rfl (q_build G rfl rfl rfl rfl) (WL_cons rfl (WX_store G rfl rfl rfl rfl rfl rfl rfl rfl rfl rfl rfl (WL_cons rfl (WX_q rfl rfl (q_assign rfl rfl) (WL_cons rfl (WX_q rfl rfl (q_assign rfl rfl) (?_)))))))))
    refine WL_nil (hK4 _ ?_)
    clear hK4 K4
    refine W_ret (fin_many rfl rfl rfl rfl (rcs_cons (rc_agg rfl ?_) (rcs_cons (rc_v ?_) (rcs_cons (rc_v ?_) rcs_nil))))
    all_goals clear hK2 K2
    all_goals (first | (rw [hO.1]; rfl) | (rw [hO.2.1]; done) | (rw [hO.2.1]; rfl) | (rw [hO.2.2]; done) | (rw [hO.2.2]; rfl))
  · try rw [h1]
    try simp only [decide_eq_true_eq, decide_eq_false_iff_not, beq_iff_eq, bne_iff_ne, ne_eq, Bool.not_eq_true', Bool.not_eq_false', beq_eq_false_iff_ne, bne_eq_false_iff_eq, Bool.not_eq_true, Bool.not_eq_false, Int.not_lt, Int.not_le, gt_iff_lt, ge_iff_le, Bool.and_eq_true, Bool.and_eq_false_iff, Bool.or_eq_true, Bool.or_eq_false_iff] at h1
    have hO := rc_t (s := s) (by omega)
    refine W_skip (hK2 _ ?_)
    clear hK2 K2
    refine W_seq (fun K5 hK5 => ?_)
    refine W_region (WL_cons rfl (WX_q rfl rfl (q_move rfl rfl) (WL_cons rfl (?_))))
    refine WX_call 2 rfl rfl rfl (ArgsOK.of rfl) (c_spec_l27Open _ (by first | assumption | omega)) rfl rfl ?_
    refine WL_cons rfl (WX_q rfl rfl (q_move rfl rfl) (WL_cons rfl (WX_q rfl rfl (q_extract rfl rfl rfl) (WL_cons rfl (WX_q rfl rfl (q_extract rfl rfl rfl) (WL_cons rfl (WX_q rfl rfl (q_assign rfl rfl) (WL_cons rfl (WX_q rfl rfl (q_assign rfl rfl) (?_))))))))))
    refine WL_nil (hK5 _ ?_)
    clear hK5 K5
    refine W_seq (fun K6 hK6 => ?_)
    refine W_region (WL_cons rfl (WX_q rfl rfl (q_move rfl rfl) (WL_cons rfl (WX_q rfl rfl (q_move rfl rfl) (WL_cons rfl (?_))))))
    refine WX_q rfl rfl (q_cut_str G rfl rfl rfl rfl rfl (by omega) (by omega) (by omega)) ?_
    refine WL_cons rfl (WX_q rfl rfl (q_move rfl rfl) (WL_cons rfl (?_)))
    first | refine WX_q rfl rfl (q_len' G rfl rfl rfl rfl (List.length_map _)) ?_ | refine WX_q rfl rfl (q_len G rfl rfl rfl rfl) ?_
    refine WL_cons rfl (WX_q rfl rfl (q_build G rfl rfl rfl rfl) (WL_cons rfl (WX_q rfl rfl (q_move rfl rfl) (WL_cons rfl (WX_store G rfl rfl rfl rfl rfl rfl rfl rfl rfl rfl rfl (WL_cons rfl (WX_q rfl rfl (q_assign rfl rfl) (WL_cons rfl (WX_q rfl rfl (q_assign rfl rfl) (?_))))))))))
    refine WL_nil (hK6 _ ?_)
    clear hK6 K6
    rw [hrl]
    refine W_ret (fin_many rfl rfl rfl rfl (rcs_cons (rc_agg rfl ?_) (rcs_cons (rc_v ?_) (rcs_cons (rc_v ?_) rcs_nil))))
    all_goals (first | (rw [hO.1]; rfl) | (rw [hO.2.1]; done) | (rw [hO.2.1]; rfl) | (rw [hO.2.2]; done) | (rw [hO.2.2]; rfl))

theorem c_impl_RecoverLog (s : ByteArray) (hs : s.size ≤ 1048576) : Ctr Tryd.prog 18 [.v (.string s)] (.many [.v (encL (rcE s)), .v (.int .i64 (rcN s)), .v (.bool (rcOK s))]) := by
  have hll := logN_le (s := s)
  have hpi : posI s (logN s) = (posN s (logN s) : Int) := rfl
  have hge := ends_at (s := s)
  have hrl := recs_len (s := s)
  have hel : (pre (posI s) (logN s + 1)).length = logN s + 1 := pre_len
  have hem : ((pre (posI s) (logN s + 1)).map encI).length = logN s + 1 := (by rw [List.length_map, pre_len])
  refine Ctr.of (n := 29) G Tryd.func18 rfl (by kernel_rfl) rfl rfl rfl (fun w0 => ?_)
  refine W_seq (fun K1 hK1 => ?_)
  refine W_region (WL_cons rfl (WX_alloc_s G 1 rfl rfl rfl rfl rfl (WL_cons rfl (WX_q rfl rfl (q_assign rfl rfl) (WL_cons rfl (WX_q rfl rfl (q_assign rfl rfl) (?_)))))))
  refine WL_nil (hK1 _ ?_)
  clear hK1 K1
  refine W_seq (fun K2 hK2 => ?_)
  refine W_seq (fun K3 hK3 => ?_)
  refine W_region (WL_cons rfl (WX_q rfl rfl (q_move rfl rfl) (WL_cons rfl (WX_q rfl rfl (q_len_str G rfl rfl rfl) (WL_cons rfl (WX_q rfl rfl (q_cmp rfl rfl rfl rfl) (?_)))))))
  refine WL_nil (hK3 _ ?_)
  clear hK3 K3
  refine W_cond rfl (fun h1 => ?_) (fun h1 => ?_)
  · try rw [h1]
    try simp only [decide_eq_true_eq, decide_eq_false_iff_not, beq_iff_eq, bne_iff_ne, ne_eq, Bool.not_eq_true', Bool.not_eq_false', beq_eq_false_iff_ne, bne_eq_false_iff_eq, Bool.not_eq_true, Bool.not_eq_false, Int.not_lt, Int.not_le, gt_iff_lt, ge_iff_le, Bool.and_eq_true, Bool.and_eq_false_iff, Bool.or_eq_true, Bool.or_eq_false_iff] at h1
    have hO := rc_f (s := s) (by omega)
    refine W_seq (fun K4 hK4 => ?_)
    refine W_region (WL_cons rfl (WX_q rfl rfl (q_build G rfl rfl rfl rfl) (WL_cons rfl (WX_store G rfl rfl rfl rfl rfl rfl rfl rfl rfl rfl rfl (WL_cons rfl (WX_q rfl rfl (q_assign rfl rfl) (WL_cons rfl (WX_q rfl rfl (q_assign rfl rfl) (?_)))))))))
    refine WL_nil (hK4 _ ?_)
    clear hK4 K4
    refine W_ret (fin_many rfl rfl rfl rfl (rcs_cons (rc_agg rfl ?_) (rcs_cons (rc_v ?_) (rcs_cons (rc_v ?_) rcs_nil))))
    all_goals clear hK2 K2
    all_goals (first | (rw [hO.1]; rfl) | (rw [hO.2.1]; done) | (rw [hO.2.1]; rfl) | (rw [hO.2.2]; done) | (rw [hO.2.2]; rfl))
  · try rw [h1]
    try simp only [decide_eq_true_eq, decide_eq_false_iff_not, beq_iff_eq, bne_iff_ne, ne_eq, Bool.not_eq_true', Bool.not_eq_false', beq_eq_false_iff_ne, bne_eq_false_iff_eq, Bool.not_eq_true, Bool.not_eq_false, Int.not_lt, Int.not_le, gt_iff_lt, ge_iff_le, Bool.and_eq_true, Bool.and_eq_false_iff, Bool.or_eq_true, Bool.or_eq_false_iff] at h1
    have hO := rc_t (s := s) (by omega)
    refine W_skip (hK2 _ ?_)
    clear hK2 K2
    refine W_seq (fun K5 hK5 => ?_)
    refine W_region (WL_cons rfl (WX_q rfl rfl (q_move rfl rfl) (WL_cons rfl (?_))))
    refine WX_call 3 rfl rfl rfl (ArgsOK.of rfl) (c_impl_readRecords _ (by first | assumption | omega)) rfl rfl ?_
    refine WL_cons rfl (WX_q rfl rfl (q_move rfl rfl) (WL_cons rfl (WX_q rfl rfl (q_extract rfl rfl rfl) (WL_cons rfl (WX_q rfl rfl (q_extract rfl rfl rfl) (WL_cons rfl (WX_q rfl rfl (q_assign rfl rfl) (WL_cons rfl (WX_q rfl rfl (q_assign rfl rfl) (?_))))))))))
    refine WL_nil (hK5 _ ?_)
    clear hK5 K5
    refine W_seq (fun K6 hK6 => ?_)
    refine W_region (WL_cons rfl (WX_q rfl rfl (q_move rfl rfl) (WL_cons rfl (WX_q rfl rfl (q_move rfl rfl) (WL_cons rfl (?_))))))
    first | refine WX_q rfl rfl (q_len' G rfl rfl rfl rfl (List.length_map _)) ?_ | refine WX_q rfl rfl (q_len G rfl rfl rfl rfl) ?_
    refine WL_cons rfl (?_)
    first | refine WX_q rfl rfl (q_index_own G rfl rfl rfl rfl rfl (by omega) (by simp; omega)) ?_ | refine WX_q rfl rfl (q_index_own G rfl rfl rfl rfl rfl (by omega) (by omega)) ?_
    refine WL_cons rfl (?_)
    refine WX_q rfl rfl (q_load_rpt G rfl rfl rfl rfl rfl (getM (by omega) (by simp; omega)) rfl) ?_
    refine WL_cons rfl (WX_q rfl rfl (q_assign rfl rfl) (?_))
    refine WL_nil (hK6 _ ?_)
    clear hK6 K6
    rw [hge]
    refine W_seq (fun K7 hK7 => ?_)
    refine W_region (WL_cons rfl (WX_q rfl rfl (q_move rfl rfl) (WL_cons rfl (WX_q rfl rfl (q_move rfl rfl) (WL_cons rfl (?_))))))
    refine WX_q rfl rfl (q_cut_str G rfl rfl rfl rfl rfl (by omega) (by omega) (by omega)) ?_
    refine WL_cons rfl (WX_q rfl rfl (q_move rfl rfl) (WL_cons rfl (?_)))
    first | refine WX_q rfl rfl (q_len' G rfl rfl rfl rfl (List.length_map _)) ?_ | refine WX_q rfl rfl (q_len G rfl rfl rfl rfl) ?_
    refine WL_cons rfl (WX_q rfl rfl (q_build G rfl rfl rfl rfl) (WL_cons rfl (WX_q rfl rfl (q_move rfl rfl) (WL_cons rfl (WX_store G rfl rfl rfl rfl rfl rfl rfl rfl rfl rfl rfl (WL_cons rfl (WX_q rfl rfl (q_assign rfl rfl) (WL_cons rfl (WX_q rfl rfl (q_assign rfl rfl) (?_))))))))))
    refine WL_nil (hK7 _ ?_)
    clear hK7 K7
    rw [hrl]
    refine W_ret (fin_many rfl rfl rfl rfl (rcs_cons (rc_agg rfl ?_) (rcs_cons (rc_v ?_) (rcs_cons (rc_v ?_) rcs_nil))))
    all_goals (first | (rw [hO.1]; rfl) | (rw [hO.2.1]; done) | (rw [hO.2.1]; rfl) | (rw [hO.2.2]; done) | (rw [hO.2.2]; rfl))

theorem c_laws_FnExactRecoverLog (s : ByteArray) (h0 : s.size ≤ 9223372036854775807) : Ctr Tryd.prog 4 [.v (.string s)] (.one (.v (.bool true))) := by
  refine Ctr.of (n := 38) G Tryd.func4 rfl (by kernel_rfl) rfl rfl rfl (fun w0 => ?_)
  refine W_seq (fun K1 hK1 => ?_)
  refine W_region (WL_cons rfl (WX_q rfl rfl (q_assign rfl rfl) (?_)))
  refine WL_nil (hK1 _ ?_)
  clear hK1 K1
  refine W_seq (fun K2 hK2 => ?_)
  refine W_seq (fun K3 hK3 => ?_)
  refine W_region (WL_cons rfl (WX_q rfl rfl (q_move rfl rfl) (WL_cons rfl (WX_q rfl rfl (q_len_str G rfl rfl rfl) (WL_cons rfl (WX_q rfl rfl (q_cmp rfl rfl rfl rfl) (?_)))))))
  refine WL_nil (hK3 _ ?_)
  clear hK3 K3
  refine W_cond rfl (fun h1 => ?_) (fun h1 => ?_)
  · try rw [h1]
    try simp only [decide_eq_true_eq, decide_eq_false_iff_not, beq_iff_eq, bne_iff_ne, ne_eq, Bool.not_eq_true', Bool.not_eq_false', beq_eq_false_iff_ne, bne_eq_false_iff_eq, Bool.not_eq_true, Bool.not_eq_false, Int.not_lt, Int.not_le, gt_iff_lt, ge_iff_le, Bool.and_eq_true, Bool.and_eq_false_iff, Bool.or_eq_true, Bool.or_eq_false_iff] at h1
    refine W_seq (fun K4 hK4 => ?_)
    refine W_region (WL_cons rfl (WX_q rfl rfl (q_assign rfl rfl) (?_)))
    refine WL_nil (hK4 _ ?_)
    clear hK4 K4
    refine W_ret (fin_one rfl (rc_v ?_))
    all_goals clear hK2 K2
    all_goals (first | rfl | (simp_all [eqL_self]; done))
  · try rw [h1]
    try simp only [decide_eq_true_eq, decide_eq_false_iff_not, beq_iff_eq, bne_iff_ne, ne_eq, Bool.not_eq_true', Bool.not_eq_false', beq_eq_false_iff_ne, bne_eq_false_iff_eq, Bool.not_eq_true, Bool.not_eq_false, Int.not_lt, Int.not_le, gt_iff_lt, ge_iff_le, Bool.and_eq_true, Bool.and_eq_false_iff, Bool.or_eq_true, Bool.or_eq_false_iff] at h1
    refine W_skip (hK2 _ ?_)
    clear hK2 K2
    refine W_seq (fun K5 hK5 => ?_)
    refine W_region (WL_cons rfl (WX_q rfl rfl (q_move rfl rfl) (WL_cons rfl (?_))))
    refine WX_q rfl rfl (q_call rfl (ArgsOK.of rfl) (c_spec_RecoverLog _ (by first | assumption | omega)) rfl) ?_
    refine WL_cons rfl (WX_q rfl rfl (q_move rfl rfl) (WL_cons rfl (WX_q rfl rfl (q_extract rfl rfl rfl) (WL_cons rfl (WX_q rfl rfl (q_extract rfl rfl rfl) (WL_cons rfl (WX_q rfl rfl (q_extract rfl rfl rfl) (WL_cons rfl (WX_alloc_s G 1 rfl rfl rfl rfl rfl (WL_cons rfl (WX_store G rfl rfl rfl rfl rfl rfl rfl rfl rfl rfl rfl (WL_cons rfl (WX_q rfl rfl (q_assign rfl rfl) (WL_cons rfl (WX_q rfl rfl (q_assign rfl rfl) (?_))))))))))))))))
    refine WL_nil (hK5 _ ?_)
    clear hK5 K5
    refine W_seq (fun K6 hK6 => ?_)
    refine W_region (WL_cons rfl (WX_q rfl rfl (q_move rfl rfl) (WL_cons rfl (?_))))
    refine WX_q rfl rfl (q_call rfl (ArgsOK.of rfl) (c_impl_RecoverLog _ (by first | assumption | omega)) rfl) ?_
    refine WL_cons rfl (WX_q rfl rfl (q_move rfl rfl) (WL_cons rfl (WX_q rfl rfl (q_extract rfl rfl rfl) (WL_cons rfl (WX_q rfl rfl (q_extract rfl rfl rfl) (WL_cons rfl (WX_q rfl rfl (q_extract rfl rfl rfl) (WL_cons rfl (WX_alloc_s G 2 rfl rfl rfl rfl rfl (WL_cons rfl (WX_store G rfl rfl rfl rfl rfl rfl rfl rfl rfl rfl rfl (WL_cons rfl (WX_q rfl rfl (q_assign rfl rfl) (WL_cons rfl (WX_q rfl rfl (q_assign rfl rfl) (?_))))))))))))))))
    refine WL_nil (hK6 _ ?_)
    clear hK6 K6
    refine W_seq (fun K7 hK7 => ?_)
    refine W_seq (fun K8 hK8 => ?_)
    refine W_region (WL_cons rfl (WX_q rfl rfl (q_load_box_struct G rfl rfl rfl rfl rfl rfl) (WL_cons rfl (WX_q rfl rfl (q_load_box_struct G rfl rfl rfl rfl rfl rfl) (WL_cons rfl (?_))))))
    refine WX_q rfl rfl (q_call rfl (ArgsOK.of rfl) (c_laws_eqLog _ _) rfl) ?_
    refine WL_cons rfl (WX_q rfl rfl (q_not rfl rfl) (WL_cons rfl (WX_q rfl rfl (q_move rfl rfl) (WL_part rfl rfl rfl (fun h2 => ?_) (fun h2 => ?_)))))
    · try rw [h2]
      try simp only [decide_eq_true_eq, decide_eq_false_iff_not, beq_iff_eq, bne_iff_ne, ne_eq, Bool.not_eq_true', Bool.not_eq_false', beq_eq_false_iff_ne, bne_eq_false_iff_eq, Bool.not_eq_true, Bool.not_eq_false, Int.not_lt, Int.not_le, gt_iff_lt, ge_iff_le, Bool.and_eq_true, Bool.and_eq_false_iff, Bool.or_eq_true, Bool.or_eq_false_iff] at h2
      refine WL_skip rfl rfl rfl rfl rfl rfl (WL_skip rfl rfl rfl rfl rfl rfl (WL_skip rfl rfl rfl rfl rfl rfl (WL_cons rfl (WX_q rfl rfl (q_pick_t rfl rfl rfl) (WL_cons rfl (WX_q rfl rfl (q_move rfl rfl) (WL_skip rfl rfl rfl rfl rfl rfl (WL_skip rfl rfl rfl rfl rfl rfl (WL_skip rfl rfl rfl rfl rfl rfl (WL_cons rfl (WX_q rfl rfl (q_pick_t rfl rfl rfl) (?_))))))))))))
      refine WL_nil (hK8 _ ?_)
      clear hK8 K8
      refine W_true rfl ?_
      refine W_seq (fun K9 hK9 => ?_)
      refine W_region (WL_cons rfl (WX_q rfl rfl (q_assign rfl rfl) (?_)))
      refine WL_nil (hK9 _ ?_)
      clear hK9 K9
      refine W_ret (fin_one rfl (rc_v ?_))
      all_goals clear hK7 K7
      all_goals (first | rfl | (simp_all [eqL_self]; done))
    · try rw [h2]
      try simp only [decide_eq_true_eq, decide_eq_false_iff_not, beq_iff_eq, bne_iff_ne, ne_eq, Bool.not_eq_true', Bool.not_eq_false', beq_eq_false_iff_ne, bne_eq_false_iff_eq, Bool.not_eq_true, Bool.not_eq_false, Int.not_lt, Int.not_le, gt_iff_lt, ge_iff_le, Bool.and_eq_true, Bool.and_eq_false_iff, Bool.or_eq_true, Bool.or_eq_false_iff] at h2
      refine WL_run rfl rfl rfl (WX_q rfl rfl (q_move rfl rfl) (WL_run rfl rfl rfl (WX_q rfl rfl (q_move rfl rfl) (WL_run rfl rfl rfl (WX_q rfl rfl (q_cmp rfl rfl rfl rfl) (WL_cons rfl (WX_q rfl rfl (q_pick_f rfl rfl rfl) (WL_cons rfl (WX_q rfl rfl (q_move rfl rfl) (WL_part rfl rfl rfl (fun h3 => ?_) (fun h3 => ?_)))))))))))
      · try rw [h3]
        try simp only [decide_eq_true_eq, decide_eq_false_iff_not, beq_iff_eq, bne_iff_ne, ne_eq, Bool.not_eq_true', Bool.not_eq_false', beq_eq_false_iff_ne, bne_eq_false_iff_eq, Bool.not_eq_true, Bool.not_eq_false, Int.not_lt, Int.not_le, gt_iff_lt, ge_iff_le, Bool.and_eq_true, Bool.and_eq_false_iff, Bool.or_eq_true, Bool.or_eq_false_iff] at h3
        refine WL_skip rfl rfl rfl rfl rfl rfl (WL_skip rfl rfl rfl rfl rfl rfl (WL_skip rfl rfl rfl rfl rfl rfl (WL_cons rfl (WX_q rfl rfl (q_pick_t rfl rfl rfl) (?_)))))
        refine WL_nil (hK8 _ ?_)
        clear hK8 K8
        refine W_true rfl ?_
        refine W_seq (fun K10 hK10 => ?_)
        refine W_region (WL_cons rfl (WX_q rfl rfl (q_assign rfl rfl) (?_)))
        refine WL_nil (hK10 _ ?_)
        clear hK10 K10
        refine W_ret (fin_one rfl (rc_v ?_))
        all_goals clear hK7 K7
        all_goals (first | rfl | (simp_all [eqL_self]; done))
      · try rw [h3]
        try simp only [decide_eq_true_eq, decide_eq_false_iff_not, beq_iff_eq, bne_iff_ne, ne_eq, Bool.not_eq_true', Bool.not_eq_false', beq_eq_false_iff_ne, bne_eq_false_iff_eq, Bool.not_eq_true, Bool.not_eq_false, Int.not_lt, Int.not_le, gt_iff_lt, ge_iff_le, Bool.and_eq_true, Bool.and_eq_false_iff, Bool.or_eq_true, Bool.or_eq_false_iff] at h3
        refine WL_run rfl rfl rfl (WX_q rfl rfl (q_move rfl rfl) (WL_run rfl rfl rfl (WX_q rfl rfl (q_move rfl rfl) (WL_run rfl rfl rfl (WX_q rfl rfl (q_bne (G 4 _ rfl).1 rfl rfl rfl) (WL_cons rfl (WX_q rfl rfl (q_pick_f rfl rfl rfl) (?_))))))))
        refine WL_nil (hK8 _ ?_)
        clear hK8 K8
        refine W_cond rfl (fun h4 => ?_) (fun h4 => ?_)
        · try rw [h4]
          try simp only [decide_eq_true_eq, decide_eq_false_iff_not, beq_iff_eq, bne_iff_ne, ne_eq, Bool.not_eq_true', Bool.not_eq_false', beq_eq_false_iff_ne, bne_eq_false_iff_eq, Bool.not_eq_true, Bool.not_eq_false, Int.not_lt, Int.not_le, gt_iff_lt, ge_iff_le, Bool.and_eq_true, Bool.and_eq_false_iff, Bool.or_eq_true, Bool.or_eq_false_iff] at h4
          refine W_seq (fun K11 hK11 => ?_)
          refine W_region (WL_cons rfl (WX_q rfl rfl (q_assign rfl rfl) (?_)))
          refine WL_nil (hK11 _ ?_)
          clear hK11 K11
          refine W_ret (fin_one rfl (rc_v ?_))
          all_goals clear hK7 K7
          all_goals (first | rfl | (simp_all [eqL_self]; done))
        · try rw [h4]
          try simp only [decide_eq_true_eq, decide_eq_false_iff_not, beq_iff_eq, bne_iff_ne, ne_eq, Bool.not_eq_true', Bool.not_eq_false', beq_eq_false_iff_ne, bne_eq_false_iff_eq, Bool.not_eq_true, Bool.not_eq_false, Int.not_lt, Int.not_le, gt_iff_lt, ge_iff_le, Bool.and_eq_true, Bool.and_eq_false_iff, Bool.or_eq_true, Bool.or_eq_false_iff] at h4
          refine W_skip (hK7 _ ?_)
          clear hK7 K7
          refine W_seq (fun K12 hK12 => ?_)
          refine W_region (WL_cons rfl (WX_q rfl rfl (q_assign rfl rfl) (?_)))
          refine WL_nil (hK12 _ ?_)
          clear hK12 K12
          refine W_ret (fin_one rfl (rc_v ?_))
          all_goals (first | rfl | (simp_all [eqL_self]; done))

end Go.Proofs.YthpllgbaeokeiaaDoor

/- Walks through functions of the program, one contract each (written by gen.py). -/
set_option maxRecDepth 20000
set_option linter.unusedVariables false
set_option linter.unusedSimpArgs false
namespace Go.Proofs.YthpllgbaeokeiaaDoor
open Go Go.Rf

theorem c_laws_toLog (x : Lg) : Ctr Tryd.prog 22 [.v (encL x)] (.one (.v (encL x))) := by
  refine Ctr.of (n := 14) G Tryd.func22 rfl (by kernel_rfl) rfl rfl rfl (fun w0 => ?_)
  refine W_seq (fun K1 hK1 => ?_)
  refine W_region (WL_cons rfl (WX_box 1 rfl rfl rfl rfl rfl rfl rfl (WL_cons rfl (WX_alloc_s G 2 rfl rfl rfl rfl rfl (?_)))))
  refine WL_nil (hK1 _ ?_)
  clear hK1 K1
  refine W_seq (fun K2 hK2 => ?_)
  refine W_region (WL_cons rfl (WX_alloc_s G 3 rfl rfl rfl rfl rfl (?_)))
  refine WL_nil (hK2 _ ?_)
  clear hK2 K2
  refine W_seq (fun K3 hK3 => ?_)
  refine W_region (WL_cons rfl (WX_q rfl rfl (q_field_ptr G rfl rfl rfl rfl) (WL_cons rfl (WX_q rfl rfl (q_load_box G rfl rfl rfl rfl rfl rfl rfl) (WL_cons rfl (WX_q rfl rfl (q_field_ptr G rfl rfl rfl rfl) (WL_cons rfl (WX_store G rfl rfl rfl rfl rfl rfl rfl rfl rfl rfl rfl (?_)))))))))
  refine WL_nil (hK3 _ ?_)
  clear hK3 K3
  refine W_seq (fun K4 hK4 => ?_)
  refine W_region (WL_cons rfl (WX_q rfl rfl (q_field_ptr G rfl rfl rfl rfl) (WL_cons rfl (WX_q rfl rfl (q_load_box G rfl rfl rfl rfl rfl rfl rfl) (WL_cons rfl (WX_q rfl rfl (q_field_ptr G rfl rfl rfl rfl) (WL_cons rfl (WX_store G rfl rfl rfl rfl rfl rfl rfl rfl rfl rfl rfl (?_)))))))))
  refine WL_nil (hK4 _ ?_)
  clear hK4 K4
  refine W_seq (fun K5 hK5 => ?_)
  refine W_region (WL_cons rfl (WX_q rfl rfl (q_field_ptr G rfl rfl rfl rfl) (WL_cons rfl (WX_q rfl rfl (q_load_box G rfl rfl rfl rfl rfl rfl rfl) (WL_cons rfl (WX_q rfl rfl (q_field_ptr G rfl rfl rfl rfl) (WL_cons rfl (WX_store G rfl rfl rfl rfl rfl rfl rfl rfl rfl rfl rfl (?_)))))))))
  refine WL_nil (hK5 _ ?_)
  clear hK5 K5
  refine W_seq (fun K6 hK6 => ?_)
  refine W_region (WL_cons rfl (WX_q rfl rfl (q_load_box_struct G rfl rfl rfl rfl rfl rfl) (WL_cons rfl (WX_store G rfl rfl rfl rfl rfl rfl rfl rfl rfl rfl rfl (?_)))))
  refine WL_nil (hK6 _ ?_)
  clear hK6 K6
  refine W_ret (fin_one rfl (rc_agg rfl ?_))
  all_goals ((first | rfl | (simp_all; done) | (simp_all; omega)))

theorem c_laws_szLog (x : Lg) (l : Int) (h0 : x.d.size ≤ 9223372036854775807 ∧ x.p.size ≤ 9223372036854775807) (hl : 0 ≤ l ∧ l ≤ 1048576) : Ctr Tryd.prog 20 [.v (encL x), .v (.int .i64 l)] (.one (.v (.int .i64 (szL x l)))) := by
  refine Ctr.of (n := 20) G Tryd.func20 rfl (by kernel_rfl) rfl rfl rfl (fun w0 => ?_)
  refine W_seq (fun K1 hK1 => ?_)
  refine W_region (WL_cons rfl (WX_box 1 rfl rfl rfl rfl rfl rfl rfl (WL_cons rfl (WX_q rfl rfl (q_assign rfl rfl) (?_)))))
  refine WL_nil (hK1 _ ?_)
  clear hK1 K1
  refine W_seq (fun K2 hK2 => ?_)
  refine W_region (WL_cons rfl (WX_q rfl rfl (q_move rfl rfl) (WL_cons rfl (WX_q rfl rfl (q_field_ptr G rfl rfl rfl rfl) (WL_cons rfl (WX_q rfl rfl (q_load_box G rfl rfl rfl rfl rfl rfl rfl) (WL_cons rfl (WX_q rfl rfl (q_len_str G rfl rfl rfl) (WL_cons rfl (?_))))))))))
  first | refine WX_q rfl rfl (q_arith rfl rfl rfl rfl (by omega) (by omega)) ?_ | refine WX_q rfl rfl (q_wrap rfl rfl rfl rfl) ?_
  refine WL_cons rfl (WX_q rfl rfl (q_assign rfl rfl) (?_))
  refine WL_nil (hK2 _ ?_)
  clear hK2 K2
  refine W_seq (fun K3 hK3 => ?_)
  refine W_seq (fun K4 hK4 => ?_)
  refine W_region (WL_cons rfl (WX_q rfl rfl (q_move rfl rfl) (WL_cons rfl (WX_q rfl rfl (q_cmp rfl rfl rfl rfl) (?_)))))
  refine WL_nil (hK4 _ ?_)
  clear hK4 K4
  refine W_cond rfl (fun h1 => ?_) (fun h1 => ?_)
  · try rw [h1]
    try simp only [decide_eq_true_eq, decide_eq_false_iff_not, beq_iff_eq, bne_iff_ne, ne_eq, Bool.not_eq_true', Bool.not_eq_false', beq_eq_false_iff_ne, bne_eq_false_iff_eq, Bool.not_eq_true, Bool.not_eq_false, Int.not_lt, Int.not_le, gt_iff_lt, ge_iff_le, Bool.and_eq_true, Bool.and_eq_false_iff, Bool.or_eq_true, Bool.or_eq_false_iff] at h1
    refine W_seq (fun K5 hK5 => ?_)
    refine W_region (WL_cons rfl (WX_q rfl rfl (q_assign rfl rfl) (?_)))
    refine WL_nil (hK5 _ ?_)
    clear hK5 K5
    refine W_ret (fin_one rfl (rc_v ?_))
    all_goals clear hK3 K3
    all_goals ((first | (simp only [szL]; rw [if_pos (by omega)]; done) | (simp only [szL]; rw [if_neg (by omega), if_pos (by omega)]; done) | (simp only [szL]; rw [if_neg (by omega), if_neg (by omega)]; done)))
  · try rw [h1]
    try simp only [decide_eq_true_eq, decide_eq_false_iff_not, beq_iff_eq, bne_iff_ne, ne_eq, Bool.not_eq_true', Bool.not_eq_false', beq_eq_false_iff_ne, bne_eq_false_iff_eq, Bool.not_eq_true, Bool.not_eq_false, Int.not_lt, Int.not_le, gt_iff_lt, ge_iff_le, Bool.and_eq_true, Bool.and_eq_false_iff, Bool.or_eq_true, Bool.or_eq_false_iff] at h1
    refine W_skip (hK3 _ ?_)
    clear hK3 K3
    refine W_seq (fun K6 hK6 => ?_)
    refine W_region (WL_cons rfl (WX_q rfl rfl (q_move rfl rfl) (WL_cons rfl (WX_q rfl rfl (q_field_ptr G rfl rfl rfl rfl) (WL_cons rfl (WX_q rfl rfl (q_load_box G rfl rfl rfl rfl rfl rfl rfl) (WL_cons rfl (WX_q rfl rfl (q_len_str G rfl rfl rfl) (WL_cons rfl (?_))))))))))
    first | refine WX_q rfl rfl (q_arith rfl rfl rfl rfl (by omega) (by omega)) ?_ | refine WX_q rfl rfl (q_wrap rfl rfl rfl rfl) ?_
    refine WL_cons rfl (WX_q rfl rfl (q_assign rfl rfl) (?_))
    refine WL_nil (hK6 _ ?_)
    clear hK6 K6
    refine W_seq (fun K7 hK7 => ?_)
    refine W_seq (fun K8 hK8 => ?_)
    refine W_region (WL_cons rfl (WX_q rfl rfl (q_move rfl rfl) (WL_cons rfl (WX_q rfl rfl (q_cmp rfl rfl rfl rfl) (?_)))))
    refine WL_nil (hK8 _ ?_)
    clear hK8 K8
    refine W_cond rfl (fun h2 => ?_) (fun h2 => ?_)
    · try rw [h2]
      try simp only [decide_eq_true_eq, decide_eq_false_iff_not, beq_iff_eq, bne_iff_ne, ne_eq, Bool.not_eq_true', Bool.not_eq_false', beq_eq_false_iff_ne, bne_eq_false_iff_eq, Bool.not_eq_true, Bool.not_eq_false, Int.not_lt, Int.not_le, gt_iff_lt, ge_iff_le, Bool.and_eq_true, Bool.and_eq_false_iff, Bool.or_eq_true, Bool.or_eq_false_iff] at h2
      refine W_seq (fun K9 hK9 => ?_)
      refine W_region (WL_cons rfl (WX_q rfl rfl (q_assign rfl rfl) (?_)))
      refine WL_nil (hK9 _ ?_)
      clear hK9 K9
      refine W_ret (fin_one rfl (rc_v ?_))
      all_goals clear hK7 K7
      all_goals ((first | (simp only [szL]; rw [if_pos (by omega)]; done) | (simp only [szL]; rw [if_neg (by omega), if_pos (by omega)]; done) | (simp only [szL]; rw [if_neg (by omega), if_neg (by omega)]; done)))
    · try rw [h2]
      try simp only [decide_eq_true_eq, decide_eq_false_iff_not, beq_iff_eq, bne_iff_ne, ne_eq, Bool.not_eq_true', Bool.not_eq_false', beq_eq_false_iff_ne, bne_eq_false_iff_eq, Bool.not_eq_true, Bool.not_eq_false, Int.not_lt, Int.not_le, gt_iff_lt, ge_iff_le, Bool.and_eq_true, Bool.and_eq_false_iff, Bool.or_eq_true, Bool.or_eq_false_iff] at h2
      refine W_skip (hK7 _ ?_)
      clear hK7 K7
      refine W_seq (fun K10 hK10 => ?_)
      refine W_region (WL_cons rfl (WX_q rfl rfl (q_move rfl rfl) (WL_cons rfl (WX_q rfl rfl (q_assign rfl rfl) (?_)))))
      refine WL_nil (hK10 _ ?_)
      clear hK10 K10
      refine W_ret (fin_one rfl (rc_v ?_))
      all_goals ((first | (simp only [szL]; rw [if_pos (by omega)]; done) | (simp only [szL]; rw [if_neg (by omega), if_pos (by omega)]; done) | (simp only [szL]; rw [if_neg (by omega), if_neg (by omega)]; done)))

theorem c_spec_l27Log (x : Lg) (hx : x.d.size + x.p.size ≤ 1048576) : Ctr Tryd.prog 49 [.v (encL x)] (.one (.v (.bool (okLg x)))) := by
  have hl1 := logN_le (s := x.d ++ x.p)
  have hl2 := logN_le (s := x.d)
  have hp1 : posI (x.d ++ x.p) (logN (x.d ++ x.p)) = (posN (x.d ++ x.p) (logN (x.d ++ x.p)) : Int) := rfl
  have hp2 : posI x.d (logN x.d) = (posN x.d (logN x.d) : Int) := rfl
  have hrl := recs_len (s := x.d ++ x.p)
  have hap : (x.d ++ x.p).size = x.d.size + x.p.size := ByteArray.size_append
  have hge := ends_at (s := x.d ++ x.p)
  have hel : (pre (posI (x.d ++ x.p)) (logN (x.d ++ x.p) + 1)).length = logN (x.d ++ x.p) + 1 := pre_len
  have hem : ((pre (posI (x.d ++ x.p)) (logN (x.d ++ x.p) + 1)).map encI).length = logN (x.d ++ x.p) + 1 := (by rw [List.length_map, pre_len])
  refine Ctr.of (n := 53) G Tryd.func49 rfl (by kernel_rfl) rfl rfl rfl (fun w0 => ?_)
  refine W_seq (fun K1 hK1 => ?_)
  refine W_region (WL_cons rfl (WX_box 1 rfl rfl rfl rfl rfl rfl rfl (WL_cons rfl (WX_q rfl rfl (q_assign rfl rfl) (?_)))))
  refine WL_nil (hK1 _ ?_)
  clear hK1 K1
  refine W_seq (fun K2 hK2 => ?_)
  refine W_seq (fun K3 hK3 => ?_)
  refine W_region (WL_cons rfl (WX_q rfl rfl (q_field_ptr G rfl rfl rfl rfl) (WL_cons rfl (WX_q rfl rfl (q_load_box G rfl rfl rfl rfl rfl rfl rfl) (WL_cons rfl (WX_q rfl rfl (q_len_str G rfl rfl rfl) (WL_cons rfl (WX_q rfl rfl (q_field_ptr G rfl rfl rfl rfl) (WL_cons rfl (WX_q rfl rfl (q_load_box G rfl rfl rfl rfl rfl rfl rfl) (WL_cons rfl (WX_q rfl rfl (q_len_str G rfl rfl rfl) (WL_cons rfl (?_))))))))))))))
  first | refine WX_q rfl rfl (q_arith rfl rfl rfl rfl (by omega) (by omega)) ?_ | refine WX_q rfl rfl (q_wrap rfl rfl rfl rfl) ?_
  refine WL_cons rfl (WX_q rfl rfl (q_cmp rfl rfl rfl rfl) (?_))
  refine WL_nil (hK3 _ ?_)
  clear hK3 K3
  refine W_cond rfl (fun h1 => ?_) (fun h1 => ?_)
  · try rw [h1]
    try simp only [decide_eq_true_eq, decide_eq_false_iff_not, beq_iff_eq, bne_iff_ne, ne_eq, Bool.not_eq_true', Bool.not_eq_false', beq_eq_false_iff_ne, bne_eq_false_iff_eq, Bool.not_eq_true, Bool.not_eq_false, Int.not_lt, Int.not_le, gt_iff_lt, ge_iff_le, Bool.and_eq_true, Bool.and_eq_false_iff, Bool.or_eq_true, Bool.or_eq_false_iff] at h1
    have hO := okLg_f1 (x := x) (by omega)
    refine W_seq (fun K4 hK4 => ?_)
    refine W_region (WL_cons rfl (WX_q rfl rfl (q_assign rfl rfl) (?_)))
    refine WL_nil (hK4 _ ?_)
    clear hK4 K4
    refine W_ret (fin_one rfl (rc_v ?_))
    all_goals clear hK2 K2
    all_goals ((rw [hO]; try rw [← hrl]; try rfl))
  · try rw [h1]
    try simp only [decide_eq_true_eq, decide_eq_false_iff_not, beq_iff_eq, bne_iff_ne, ne_eq, Bool.not_eq_true', Bool.not_eq_false', beq_eq_false_iff_ne, bne_eq_false_iff_eq, Bool.not_eq_true, Bool.not_eq_false, Int.not_lt, Int.not_le, gt_iff_lt, ge_iff_le, Bool.and_eq_true, Bool.and_eq_false_iff, Bool.or_eq_true, Bool.or_eq_false_iff] at h1
    refine W_skip (hK2 _ ?_)
    clear hK2 K2
    refine W_seq (fun K5 hK5 => ?_)
    refine W_region (WL_cons rfl (WX_q rfl rfl (q_field_ptr G rfl rfl rfl rfl) (WL_cons rfl (WX_q rfl rfl (q_load_box G rfl rfl rfl rfl rfl rfl rfl) (WL_cons rfl (WX_q rfl rfl (q_field_ptr G rfl rfl rfl rfl) (WL_cons rfl (WX_q rfl rfl (q_load_box G rfl rfl rfl rfl rfl rfl rfl) (WL_cons rfl (?_))))))))))
    refine WX_q rfl rfl (q_cat rfl rfl rfl (by (try simp only [ByteArray.size_append, size_lit, List.size_toArray, List.length_cons, List.length_nil]); omega)) ?_
    refine WL_cons rfl (?_)
    refine WX_call 2 rfl rfl rfl (ArgsOK.of rfl) (c_spec_l27Open _ (by first | assumption | omega)) rfl rfl ?_
    refine WL_cons rfl (WX_q rfl rfl (q_move rfl rfl) (WL_cons rfl (WX_q rfl rfl (q_extract rfl rfl rfl) (WL_cons rfl (WX_q rfl rfl (q_extract rfl rfl rfl) (WL_cons rfl (WX_q rfl rfl (q_assign rfl rfl) (WL_cons rfl (WX_q rfl rfl (q_assign rfl rfl) (?_))))))))))
    refine WL_nil (hK5 _ ?_)
    clear hK5 K5
    refine W_seq (fun K6 hK6 => ?_)
    refine W_region (WL_cons rfl (WX_q rfl rfl (q_field_ptr G rfl rfl rfl rfl) (WL_cons rfl (WX_q rfl rfl (q_load_box G rfl rfl rfl rfl rfl rfl rfl) (WL_cons rfl (?_))))))
    refine WX_call 3 rfl rfl rfl (ArgsOK.of rfl) (c_spec_l27Open _ (by first | assumption | omega)) rfl rfl ?_
    refine WL_cons rfl (WX_q rfl rfl (q_move rfl rfl) (WL_cons rfl (WX_q rfl rfl (q_extract rfl rfl rfl) (WL_cons rfl (WX_q rfl rfl (q_extract rfl rfl rfl) (WL_cons rfl (WX_q rfl rfl (q_assign rfl rfl) (WL_cons rfl (WX_q rfl rfl (q_assign rfl rfl) (?_))))))))))
    refine WL_nil (hK6 _ ?_)
    clear hK6 K6
    refine W_seq (fun K7 hK7 => ?_)
    refine W_region (WL_cons rfl (WX_q rfl rfl (q_move rfl rfl) (WL_cons rfl (WX_q rfl rfl (q_field_ptr G rfl rfl rfl rfl) (WL_cons rfl (WX_q rfl rfl (q_load_box G rfl rfl rfl rfl rfl rfl rfl) (WL_cons rfl (WX_q rfl rfl (q_len_str G rfl rfl rfl) (WL_cons rfl (WX_q rfl rfl (q_field_ptr G rfl rfl rfl rfl) (WL_cons rfl (WX_q rfl rfl (q_load_box G rfl rfl rfl rfl rfl rfl rfl) (WL_cons rfl (WX_q rfl rfl (q_len_str G rfl rfl rfl) (WL_cons rfl (?_))))))))))))))))
    first | refine WX_q rfl rfl (q_arith rfl rfl rfl rfl (by omega) (by omega)) ?_ | refine WX_q rfl rfl (q_wrap rfl rfl rfl rfl) ?_
    refine WL_cons rfl (WX_q rfl rfl (q_cmp rfl rfl rfl rfl) (WL_cons rfl (WX_q rfl rfl (q_move rfl rfl) (WL_part rfl rfl rfl (fun h2 => ?_) (fun h2 => ?_)))))
    · try rw [h2]
      try simp only [decide_eq_true_eq, decide_eq_false_iff_not, beq_iff_eq, bne_iff_ne, ne_eq, Bool.not_eq_true', Bool.not_eq_false', beq_eq_false_iff_ne, bne_eq_false_iff_eq, Bool.not_eq_true, Bool.not_eq_false, Int.not_lt, Int.not_le, gt_iff_lt, ge_iff_le, Bool.and_eq_true, Bool.and_eq_false_iff, Bool.or_eq_true, Bool.or_eq_false_iff] at h2
      refine WL_run rfl rfl rfl (WX_q rfl rfl (q_move rfl rfl) (WL_run rfl rfl rfl (WX_q rfl rfl (q_field_ptr G rfl rfl rfl rfl) (WL_run rfl rfl rfl (WX_q rfl rfl (q_load_box G rfl rfl rfl rfl rfl rfl rfl) (WL_run rfl rfl rfl (WX_q rfl rfl (q_len_str G rfl rfl rfl) (WL_run rfl rfl rfl (WX_q rfl rfl (q_cmp rfl rfl rfl rfl) (WL_cons rfl (WX_q rfl rfl (q_pick_t rfl rfl rfl) (WL_cons rfl (WX_q rfl rfl (q_move rfl rfl) (WL_part rfl rfl rfl (fun h3 => ?_) (fun h3 => ?_)))))))))))))))
      · try rw [h3]
        try simp only [decide_eq_true_eq, decide_eq_false_iff_not, beq_iff_eq, bne_iff_ne, ne_eq, Bool.not_eq_true', Bool.not_eq_false', beq_eq_false_iff_ne, bne_eq_false_iff_eq, Bool.not_eq_true, Bool.not_eq_false, Int.not_lt, Int.not_le, gt_iff_lt, ge_iff_le, Bool.and_eq_true, Bool.and_eq_false_iff, Bool.or_eq_true, Bool.or_eq_false_iff] at h3
        have hO := okLg_v (x := x) (by omega) (by omega) (by omega)
        refine WL_run rfl rfl rfl (WX_q rfl rfl (q_move rfl rfl) (WL_run rfl rfl rfl (?_)))
        first | refine WX_q rfl rfl (q_len' G rfl rfl rfl rfl (List.length_map _)) ?_ | refine WX_q rfl rfl (q_len G rfl rfl rfl rfl) ?_
        refine WL_run rfl rfl rfl (WX_q rfl rfl (q_field_ptr G rfl rfl rfl rfl) (WL_run rfl rfl rfl (WX_q rfl rfl (q_load_box G rfl rfl rfl rfl rfl rfl rfl) (WL_run rfl rfl rfl (WX_q rfl rfl (q_cmp rfl rfl rfl rfl) (WL_cons rfl (WX_q rfl rfl (q_pick_t rfl rfl rfl) (WL_cons rfl (WX_q rfl rfl (q_assign rfl rfl) (?_))))))))))
        refine WL_nil (hK7 _ ?_)
        clear hK7 K7
        refine W_ret (fin_one rfl (rc_v ?_))
        all_goals ((rw [hO]; try rw [← hrl]; try rfl))
      · try rw [h3]
        try simp only [decide_eq_true_eq, decide_eq_false_iff_not, beq_iff_eq, bne_iff_ne, ne_eq, Bool.not_eq_true', Bool.not_eq_false', beq_eq_false_iff_ne, bne_eq_false_iff_eq, Bool.not_eq_true, Bool.not_eq_false, Int.not_lt, Int.not_le, gt_iff_lt, ge_iff_le, Bool.and_eq_true, Bool.and_eq_false_iff, Bool.or_eq_true, Bool.or_eq_false_iff] at h3
        have hO := okLg_f3 (x := x) (by omega)
        refine WL_skip rfl rfl rfl rfl rfl rfl (WL_skip rfl rfl rfl rfl rfl rfl (WL_skip rfl rfl rfl rfl rfl rfl (WL_skip rfl rfl rfl rfl rfl rfl (WL_skip rfl rfl rfl rfl rfl rfl (WL_cons rfl (WX_q rfl rfl (q_pick_f rfl rfl rfl) (WL_cons rfl (WX_q rfl rfl (q_assign rfl rfl) (?_)))))))))
        refine WL_nil (hK7 _ ?_)
        clear hK7 K7
        refine W_ret (fin_one rfl (rc_v ?_))
        all_goals ((rw [hO]; try rw [← hrl]; try rfl))
    · try rw [h2]
      try simp only [decide_eq_true_eq, decide_eq_false_iff_not, beq_iff_eq, bne_iff_ne, ne_eq, Bool.not_eq_true', Bool.not_eq_false', beq_eq_false_iff_ne, bne_eq_false_iff_eq, Bool.not_eq_true, Bool.not_eq_false, Int.not_lt, Int.not_le, gt_iff_lt, ge_iff_le, Bool.and_eq_true, Bool.and_eq_false_iff, Bool.or_eq_true, Bool.or_eq_false_iff] at h2
      have hO := okLg_f2 (x := x) (by omega)
      refine WL_skip rfl rfl rfl rfl rfl rfl (WL_skip rfl rfl rfl rfl rfl rfl (WL_skip rfl rfl rfl rfl rfl rfl (WL_skip rfl rfl rfl rfl rfl rfl (WL_skip rfl rfl rfl rfl rfl rfl (WL_cons rfl (WX_q rfl rfl (q_pick_f rfl rfl rfl) (WL_cons rfl (WX_q rfl rfl (q_move rfl rfl) (WL_skip rfl rfl rfl rfl rfl rfl (WL_skip rfl rfl rfl rfl rfl rfl (WL_skip rfl rfl rfl rfl rfl rfl (WL_skip rfl rfl rfl rfl rfl rfl (WL_skip rfl rfl rfl rfl rfl rfl (WL_cons rfl (WX_q rfl rfl (q_pick_f rfl rfl rfl) (WL_cons rfl (WX_q rfl rfl (q_assign rfl rfl) (?_))))))))))))))))))
      refine WL_nil (hK7 _ ?_)
      clear hK7 K7
      refine W_ret (fin_one rfl (rc_v ?_))
      all_goals ((rw [hO]; try rw [← hrl]; try rfl))

theorem c_spec_IsValidLog (x : Lg) (hx : x.d.size + x.p.size ≤ 1048576) : Ctr Tryd.prog 21 [.v (encL x)] (.one (.v (.bool (okLg x)))) := by
  refine Ctr.of (n := 5) G Tryd.func21 rfl (by kernel_rfl) rfl rfl rfl (fun w0 => ?_)
  refine W_seq (fun K1 hK1 => ?_)
  refine W_region (WL_cons rfl (WX_box 1 rfl rfl rfl rfl rfl rfl rfl (WL_cons rfl (WX_q rfl rfl (q_assign rfl rfl) (?_)))))
  refine WL_nil (hK1 _ ?_)
  clear hK1 K1
  refine W_seq (fun K2 hK2 => ?_)
  refine W_region (WL_cons rfl (WX_q rfl rfl (q_load_box_struct G rfl rfl rfl rfl rfl rfl) (WL_cons rfl (?_))))
  refine WX_q rfl rfl (q_call rfl (ArgsOK.of rfl) (c_spec_l27Log _ (by first | assumption | omega)) rfl) ?_
  refine WL_cons rfl (WX_q rfl rfl (q_assign rfl rfl) (?_))
  refine WL_nil (hK2 _ ?_)
  clear hK2 K2
  refine W_ret (fin_one rfl (rc_v ?_))
  all_goals ((first | rfl | (simp_all; done) | (simp_all; omega)))

theorem c_impl_IsValidLog (x : Lg) (hx : x.d.size + x.p.size ≤ 1048576) : Ctr Tryd.prog 23 [.v (encL x)] (.one (.v (.bool (okLg x)))) := by
  have hl1 := logN_le (s := x.d ++ x.p)
  have hl2 := logN_le (s := x.d)
  have hp1 : posI (x.d ++ x.p) (logN (x.d ++ x.p)) = (posN (x.d ++ x.p) (logN (x.d ++ x.p)) : Int) := rfl
  have hp2 : posI x.d (logN x.d) = (posN x.d (logN x.d) : Int) := rfl
  have hrl := recs_len (s := x.d ++ x.p)
  have hap : (x.d ++ x.p).size = x.d.size + x.p.size := ByteArray.size_append
  have hge := ends_at (s := x.d ++ x.p)
  have hel : (pre (posI (x.d ++ x.p)) (logN (x.d ++ x.p) + 1)).length = logN (x.d ++ x.p) + 1 := pre_len
  have hem : ((pre (posI (x.d ++ x.p)) (logN (x.d ++ x.p) + 1)).map encI).length = logN (x.d ++ x.p) + 1 := (by rw [List.length_map, pre_len])
  refine Ctr.of (n := 45) G Tryd.func23 rfl (by kernel_rfl) rfl rfl rfl (fun w0 => ?_)
  refine W_seq (fun K1 hK1 => ?_)
  refine W_region (WL_cons rfl (WX_box 1 rfl rfl rfl rfl rfl rfl rfl (WL_cons rfl (WX_q rfl rfl (q_assign rfl rfl) (?_)))))
  refine WL_nil (hK1 _ ?_)
  clear hK1 K1
  refine W_seq (fun K2 hK2 => ?_)
  refine W_region (WL_cons rfl (WX_q rfl rfl (q_field_ptr G rfl rfl rfl rfl) (WL_cons rfl (WX_q rfl rfl (q_load_box G rfl rfl rfl rfl rfl rfl rfl) (WL_cons rfl (WX_q rfl rfl (q_field_ptr G rfl rfl rfl rfl) (WL_cons rfl (WX_q rfl rfl (q_load_box G rfl rfl rfl rfl rfl rfl rfl) (WL_cons rfl (?_))))))))))
  refine WX_q rfl rfl (q_cat rfl rfl rfl (by (try simp only [ByteArray.size_append, size_lit, List.size_toArray, List.length_cons, List.length_nil]); omega)) ?_
  refine WL_cons rfl (WX_q rfl rfl (q_assign rfl rfl) (?_))
  refine WL_nil (hK2 _ ?_)
  clear hK2 K2
  refine W_seq (fun K3 hK3 => ?_)
  refine W_region (WL_cons rfl (WX_q rfl rfl (q_move rfl rfl) (WL_cons rfl (?_))))
  refine WX_call 3 rfl rfl rfl (ArgsOK.of rfl) (c_impl_readRecords _ (by first | assumption | omega)) rfl rfl ?_
  refine WL_cons rfl (WX_q rfl rfl (q_move rfl rfl) (WL_cons rfl (WX_q rfl rfl (q_extract rfl rfl rfl) (WL_cons rfl (WX_q rfl rfl (q_extract rfl rfl rfl) (WL_cons rfl (WX_q rfl rfl (q_assign rfl rfl) (WL_cons rfl (WX_q rfl rfl (q_assign rfl rfl) (?_))))))))))
  refine WL_nil (hK3 _ ?_)
  clear hK3 K3
  refine W_seq (fun K4 hK4 => ?_)
  refine W_seq (fun K5 hK5 => ?_)
  refine W_region (WL_cons rfl (WX_q rfl rfl (q_move rfl rfl) (WL_cons rfl (WX_q rfl rfl (q_move rfl rfl) (WL_cons rfl (?_))))))
  first | refine WX_q rfl rfl (q_len' G rfl rfl rfl rfl (List.length_map _)) ?_ | refine WX_q rfl rfl (q_len G rfl rfl rfl rfl) ?_
  refine WL_cons rfl (?_)
  first | refine WX_q rfl rfl (q_index_own G rfl rfl rfl rfl rfl (by omega) (by simp; omega)) ?_ | refine WX_q rfl rfl (q_index_own G rfl rfl rfl rfl rfl (by omega) (by omega)) ?_
  refine WL_cons rfl (?_)
  refine WX_q rfl rfl (q_load_rpt G rfl rfl rfl rfl rfl (getM (by omega) (by simp; omega)) rfl) ?_
  refine WL_cons rfl (WX_q rfl rfl (q_move rfl rfl) (WL_cons rfl (WX_q rfl rfl (q_len_str G rfl rfl rfl) (WL_cons rfl (WX_q rfl rfl (q_cmp rfl rfl rfl rfl) (WL_cons rfl (WX_q rfl rfl (q_move rfl rfl) (WL_part rfl rfl rfl (fun h1 => ?_) (fun h1 => ?_)))))))))
  · try rw [h1]
    try simp only [decide_eq_true_eq, decide_eq_false_iff_not, beq_iff_eq, bne_iff_ne, ne_eq, Bool.not_eq_true', Bool.not_eq_false', beq_eq_false_iff_ne, bne_eq_false_iff_eq, Bool.not_eq_true, Bool.not_eq_false, Int.not_lt, Int.not_le, gt_iff_lt, ge_iff_le, Bool.and_eq_true, Bool.and_eq_false_iff, Bool.or_eq_true, Bool.or_eq_false_iff] at h1
    have hO := okLg_f2 (x := x) (by omega)
    refine WL_skip rfl rfl rfl rfl rfl rfl (WL_skip rfl rfl rfl rfl rfl rfl (WL_skip rfl rfl rfl rfl rfl rfl (WL_skip rfl rfl rfl rfl rfl rfl (WL_skip rfl rfl rfl rfl rfl rfl (WL_cons rfl (WX_q rfl rfl (q_pick_t rfl rfl rfl) (?_)))))))
    refine WL_nil (hK5 _ ?_)
    clear hK5 K5
    refine W_true rfl ?_
    refine W_seq (fun K6 hK6 => ?_)
    refine W_region (WL_cons rfl (WX_q rfl rfl (q_assign rfl rfl) (?_)))
    refine WL_nil (hK6 _ ?_)
    clear hK6 K6
    refine W_ret (fin_one rfl (rc_v ?_))
    all_goals clear hK4 K4
    all_goals ((rw [hO]))
  · try rw [h1]
    try simp only [decide_eq_true_eq, decide_eq_false_iff_not, beq_iff_eq, bne_iff_ne, ne_eq, Bool.not_eq_true', Bool.not_eq_false', beq_eq_false_iff_ne, bne_eq_false_iff_eq, Bool.not_eq_true, Bool.not_eq_false, Int.not_lt, Int.not_le, gt_iff_lt, ge_iff_le, Bool.and_eq_true, Bool.and_eq_false_iff, Bool.or_eq_true, Bool.or_eq_false_iff] at h1
    refine WL_run rfl rfl rfl (WX_q rfl rfl (q_move rfl rfl) (WL_run rfl rfl rfl (?_)))
    first | refine WX_q rfl rfl (q_len' G rfl rfl rfl rfl (List.length_map _)) ?_ | refine WX_q rfl rfl (q_len G rfl rfl rfl rfl) ?_
    refine WL_run rfl rfl rfl (WX_q rfl rfl (q_field_ptr G rfl rfl rfl rfl) (WL_run rfl rfl rfl (WX_q rfl rfl (q_load_box G rfl rfl rfl rfl rfl rfl rfl) (WL_run rfl rfl rfl (WX_q rfl rfl (q_cmp rfl rfl rfl rfl) (WL_cons rfl (WX_q rfl rfl (q_pick_f rfl rfl rfl) (?_))))))))
    refine WL_nil (hK5 _ ?_)
    clear hK5 K5
    refine W_cond rfl (fun h2 => ?_) (fun h2 => ?_)
    · try rw [h2]
      try simp only [decide_eq_true_eq, decide_eq_false_iff_not, beq_iff_eq, bne_iff_ne, ne_eq, Bool.not_eq_true', Bool.not_eq_false', beq_eq_false_iff_ne, bne_eq_false_iff_eq, Bool.not_eq_true, Bool.not_eq_false, Int.not_lt, Int.not_le, gt_iff_lt, ge_iff_le, Bool.and_eq_true, Bool.and_eq_false_iff, Bool.or_eq_true, Bool.or_eq_false_iff] at h2
      have hO := okLg_f4 (x := x) (by omega)
      refine W_seq (fun K7 hK7 => ?_)
      refine W_region (WL_cons rfl (WX_q rfl rfl (q_assign rfl rfl) (?_)))
      refine WL_nil (hK7 _ ?_)
      clear hK7 K7
      refine W_ret (fin_one rfl (rc_v ?_))
      all_goals clear hK4 K4
      all_goals ((rw [hO]))
    · try rw [h2]
      try simp only [decide_eq_true_eq, decide_eq_false_iff_not, beq_iff_eq, bne_iff_ne, ne_eq, Bool.not_eq_true', Bool.not_eq_false', beq_eq_false_iff_ne, bne_eq_false_iff_eq, Bool.not_eq_true, Bool.not_eq_false, Int.not_lt, Int.not_le, gt_iff_lt, ge_iff_le, Bool.and_eq_true, Bool.and_eq_false_iff, Bool.or_eq_true, Bool.or_eq_false_iff] at h2
      refine W_skip (hK4 _ ?_)
      clear hK4 K4
      refine W_seq (fun K8 hK8 => ?_)
      refine W_seq (fun K9 hK9 => ?_)
      refine W_region (WL_cons rfl (WX_q rfl rfl (q_move rfl rfl) (WL_cons rfl (?_))))
      first | refine WX_q rfl rfl (q_len' G rfl rfl rfl rfl (List.length_map _)) ?_ | refine WX_q rfl rfl (q_len G rfl rfl rfl rfl) ?_
      refine WL_cons rfl (WX_q rfl rfl (q_move rfl rfl) (?_))
      refine WL_nil (hK9 _ ?_)
      clear hK9 K9
      refine W_block ?_
      refine W_loopK [1, 33, 34] [0, 1, 2] (fun (i : Nat) => [(35, .v (.int .i64 (i : Int)))]) (fun (i : Nat) => []) (fun (i : Nat) => i ≤ logN (x.d ++ x.p) + 1 ∧ ∀ j, j < i → ¬ posN (x.d ++ x.p) j = x.d.size) (fun (i : Nat) => logN (x.d ++ x.p) + 1 - i) 0 rfl rfl ?_ ?_ ?_ ?_
      · exact ⟨Nat.zero_le _, fun j hj => by omega⟩
      · exact ⟨⟨_, rfl, by rfl⟩, rfl, trivial⟩
      · exact trivial
      · intro i hinv
        have hi := hinv.1
        have hpi : posI (x.d ++ x.p) i = (posN (x.d ++ x.p) i : Int) := rfl
        have hgi : i < logN (x.d ++ x.p) + 1 → (pre (posI (x.d ++ x.p)) (logN (x.d ++ x.p) + 1)).getD ((i : Int)).toNat default = posI (x.d ++ x.p) i := fun h => pre_getD h
        simp only [List.cons_append, List.nil_append]
        refine W_seq (fun K10 hK10 => ?_)
        refine W_region (WL_cons rfl (WX_q rfl rfl (q_cmp rfl rfl rfl rfl) (?_)))
        refine WL_nil (hK10 _ ?_)
        clear hK10 K10
        refine W_seq (fun K11 hK11 => ?_)
        refine W_cond rfl (fun h3 => ?_) (fun h3 => ?_)
        · try rw [h3]
          try simp only [decide_eq_true_eq, decide_eq_false_iff_not, beq_iff_eq, bne_iff_ne, ne_eq, Bool.not_eq_true', Bool.not_eq_false', beq_eq_false_iff_ne, bne_eq_false_iff_eq, Bool.not_eq_true, Bool.not_eq_false, Int.not_lt, Int.not_le, gt_iff_lt, ge_iff_le, Bool.and_eq_true, Bool.and_eq_false_iff, Bool.or_eq_true, Bool.or_eq_false_iff] at h3
          refine W_skip (hK11 _ ?_)
          clear hK11 K11
          refine W_seq (fun K12 hK12 => ?_)
          refine W_block ?_
          refine W_seq (fun K13 hK13 => ?_)
          refine W_region (WL_cons rfl (?_))
          first | refine WX_q rfl rfl (q_index_own G rfl rfl rfl rfl rfl (by omega) (by simp; omega)) ?_ | refine WX_q rfl rfl (q_index_own G rfl rfl rfl rfl rfl (by omega) (by omega)) ?_
          refine WL_cons rfl (?_)
          refine WX_q rfl rfl (q_load_rpt G rfl rfl rfl rfl rfl (getM (by omega) (by simp; omega)) rfl) ?_
          refine WL_cons rfl (WX_q rfl rfl (q_assign rfl rfl) (?_))
          refine WL_nil (hK13 _ ?_)
          clear hK13 K13
          refine W_seq (fun K14 hK14 => ?_)
          refine W_region (WL_cons rfl (WX_q rfl rfl (q_move rfl rfl) (WL_cons rfl (WX_q rfl rfl (q_field_ptr G rfl rfl rfl rfl) (WL_cons rfl (WX_q rfl rfl (q_load_box G rfl rfl rfl rfl rfl rfl rfl) (WL_cons rfl (WX_q rfl rfl (q_len_str G rfl rfl rfl) (WL_cons rfl (WX_q rfl rfl (q_cmp rfl rfl rfl rfl) (?_)))))))))))
          refine WL_nil (hK14 _ ?_)
          clear hK14 K14
          refine W_cond rfl (fun h4 => ?_) (fun h4 => ?_)
          · try rw [h4]
            try simp only [decide_eq_true_eq, decide_eq_false_iff_not, beq_iff_eq, bne_iff_ne, ne_eq, Bool.not_eq_true', Bool.not_eq_false', beq_eq_false_iff_ne, bne_eq_false_iff_eq, Bool.not_eq_true, Bool.not_eq_false, Int.not_lt, Int.not_le, gt_iff_lt, ge_iff_le, Bool.and_eq_true, Bool.and_eq_false_iff, Bool.or_eq_true, Bool.or_eq_false_iff] at h4
            have hO := okLg_some (x := x) (j := i) (by omega) (by omega) (by omega) (by omega)
            refine W_seq (fun K15 hK15 => ?_)
            refine W_region (WL_cons rfl (WX_q rfl rfl (q_assign rfl rfl) (?_)))
            refine WL_nil (hK15 _ ?_)
            clear hK15 K15
            refine W_ret (fin_one rfl (rc_v ?_))
            all_goals clear hK12 K12 hK8 K8
            all_goals ((rw [hO]))
          · try rw [h4]
            try simp only [decide_eq_true_eq, decide_eq_false_iff_not, beq_iff_eq, bne_iff_ne, ne_eq, Bool.not_eq_true', Bool.not_eq_false', beq_eq_false_iff_ne, bne_eq_false_iff_eq, Bool.not_eq_true, Bool.not_eq_false, Int.not_lt, Int.not_le, gt_iff_lt, ge_iff_le, Bool.and_eq_true, Bool.and_eq_false_iff, Bool.or_eq_true, Bool.or_eq_false_iff] at h4
            refine W_skip (hK12 _ ?_)
            clear hK12 K12
            refine W_region (WL_cons rfl (?_))
            first | refine WX_q rfl rfl (q_arith rfl rfl rfl rfl (by omega) (by omega)) ?_ | refine WX_q rfl rfl (q_wrap rfl rfl rfl rfl) ?_
            refine WL_cons rfl (WX_q rfl rfl (q_move rfl rfl) (?_))
            refine WL_nil ⟨(i + 1), ?_, ?_, ⟨⟨_, rfl, by rfl⟩, rfl, trivial⟩, trivial, rfl, rfl, rfl⟩
            · exact ⟨by omega, upto_succ hinv.2 (by omega)⟩
            · omega
        · try rw [h3]
          try simp only [decide_eq_true_eq, decide_eq_false_iff_not, beq_iff_eq, bne_iff_ne, ne_eq, Bool.not_eq_true', Bool.not_eq_false', beq_eq_false_iff_ne, bne_eq_false_iff_eq, Bool.not_eq_true, Bool.not_eq_false, Int.not_lt, Int.not_le, gt_iff_lt, ge_iff_le, Bool.and_eq_true, Bool.and_eq_false_iff, Bool.or_eq_true, Bool.or_eq_false_iff] at h3
          have hO := okLg_none (x := x) (fun j hj => hinv.2 j (by omega))
          refine W_exit (hK8 _ ?_)
          clear hK11 K11 hK8 K8
          refine W_seq (fun K16 hK16 => ?_)
          refine W_region (WL_cons rfl (WX_q rfl rfl (q_assign rfl rfl) (?_)))
          refine WL_nil (hK16 _ ?_)
          clear hK16 K16
          refine W_ret (fin_one rfl (rc_v ?_))
          all_goals ((rw [hO]))

theorem c_laws_FnExactIsValidLog (x : Lg) (h0 : x.d.size ≤ 9223372036854775807 ∧ x.p.size ≤ 9223372036854775807) : Ctr Tryd.prog 5 [.v (encL x)] (.one (.v (.bool true))) := by
  refine Ctr.of (n := 20) G Tryd.func5 rfl (by kernel_rfl) rfl rfl rfl (fun w0 => ?_)
  refine W_seq (fun K1 hK1 => ?_)
  refine W_region (WL_cons rfl (WX_box 1 rfl rfl rfl rfl rfl rfl rfl (WL_cons rfl (WX_q rfl rfl (q_assign rfl rfl) (?_)))))
  refine WL_nil (hK1 _ ?_)
  clear hK1 K1
  refine W_seq (fun K2 hK2 => ?_)
  refine W_region (WL_cons rfl (WX_q rfl rfl (q_assign rfl rfl) (?_)))
  refine WL_nil (hK2 _ ?_)
  clear hK2 K2
  refine W_seq (fun K3 hK3 => ?_)
  refine W_region (WL_cons rfl (WX_q rfl rfl (q_load_box_struct G rfl rfl rfl rfl rfl rfl) (WL_cons rfl (WX_q rfl rfl (q_move rfl rfl) (WL_cons rfl (?_))))))
  refine WX_q rfl rfl (q_call rfl (ArgsOK.of rfl) (c_laws_szLog _ _ (by assumption) (by first | assumption | omega)) rfl) ?_
  refine WL_cons rfl (WX_q rfl rfl (q_assign rfl rfl) (?_))
  refine WL_nil (hK3 _ ?_)
  clear hK3 K3
  refine W_seq (fun K4 hK4 => ?_)
  refine W_seq (fun K5 hK5 => ?_)
  refine W_region (WL_cons rfl (WX_q rfl rfl (q_move rfl rfl) (WL_cons rfl (WX_q rfl rfl (q_cmp rfl rfl rfl rfl) (?_)))))
  refine WL_nil (hK5 _ ?_)
  clear hK5 K5
  refine W_cond rfl (fun h1 => ?_) (fun h1 => ?_)
  · try rw [h1]
    try simp only [decide_eq_true_eq, decide_eq_false_iff_not, beq_iff_eq, bne_iff_ne, ne_eq, Bool.not_eq_true', Bool.not_eq_false', beq_eq_false_iff_ne, bne_eq_false_iff_eq, Bool.not_eq_true, Bool.not_eq_false, Int.not_lt, Int.not_le, gt_iff_lt, ge_iff_le, Bool.and_eq_true, Bool.and_eq_false_iff, Bool.or_eq_true, Bool.or_eq_false_iff] at h1
    refine W_seq (fun K6 hK6 => ?_)
    refine W_region (WL_cons rfl (WX_q rfl rfl (q_assign rfl rfl) (?_)))
    refine WL_nil (hK6 _ ?_)
    clear hK6 K6
    refine W_ret (fin_one rfl (rc_v ?_))
    all_goals clear hK4 K4
    all_goals (first | rfl | (simp_all; done))
  · try rw [h1]
    try simp only [decide_eq_true_eq, decide_eq_false_iff_not, beq_iff_eq, bne_iff_ne, ne_eq, Bool.not_eq_true', Bool.not_eq_false', beq_eq_false_iff_ne, bne_eq_false_iff_eq, Bool.not_eq_true, Bool.not_eq_false, Int.not_lt, Int.not_le, gt_iff_lt, ge_iff_le, Bool.and_eq_true, Bool.and_eq_false_iff, Bool.or_eq_true, Bool.or_eq_false_iff] at h1
    have hx : x.d.size + x.p.size ≤ 1048576 := by simp only [szL] at h1; split at h1 <;> (try split at h1) <;> omega
    refine W_skip (hK4 _ ?_)
    clear hK4 K4
    refine W_seq (fun K7 hK7 => ?_)
    refine W_region (WL_cons rfl (WX_q rfl rfl (q_load_box_struct G rfl rfl rfl rfl rfl rfl) (WL_cons rfl (?_))))
    refine WX_q rfl rfl (q_call rfl (ArgsOK.of rfl) (c_laws_toLog _) rfl) ?_
    refine WL_cons rfl (?_)
    refine WX_q rfl rfl (q_call rfl (ArgsOK.of rfl) (c_spec_IsValidLog _ (by first | assumption | omega)) rfl) ?_
    refine WL_cons rfl (WX_q rfl rfl (q_assign rfl rfl) (?_))
    refine WL_nil (hK7 _ ?_)
    clear hK7 K7
    refine W_seq (fun K8 hK8 => ?_)
    refine W_region (WL_cons rfl (WX_q rfl rfl (q_load_box_struct G rfl rfl rfl rfl rfl rfl) (WL_cons rfl (?_))))
    refine WX_q rfl rfl (q_call rfl (ArgsOK.of rfl) (c_laws_toLog _) rfl) ?_
    refine WL_cons rfl (?_)
    refine WX_q rfl rfl (q_call rfl (ArgsOK.of rfl) (c_impl_IsValidLog _ (by first | assumption | omega)) rfl) ?_
    refine WL_cons rfl (WX_q rfl rfl (q_assign rfl rfl) (?_))
    refine WL_nil (hK8 _ ?_)
    clear hK8 K8
    refine W_seq (fun K9 hK9 => ?_)
    refine W_seq (fun K10 hK10 => ?_)
    refine W_region (WL_cons rfl (WX_q rfl rfl (q_move rfl rfl) (WL_cons rfl (WX_q rfl rfl (q_move rfl rfl) (WL_cons rfl (WX_q rfl rfl (q_bne (G 4 _ rfl).1 rfl rfl rfl) (?_)))))))
    refine WL_nil (hK10 _ ?_)
    clear hK10 K10
    refine W_cond rfl (fun h2 => ?_) (fun h2 => ?_)
    · try rw [h2]
      try simp only [decide_eq_true_eq, decide_eq_false_iff_not, beq_iff_eq, bne_iff_ne, ne_eq, Bool.not_eq_true', Bool.not_eq_false', beq_eq_false_iff_ne, bne_eq_false_iff_eq, Bool.not_eq_true, Bool.not_eq_false, Int.not_lt, Int.not_le, gt_iff_lt, ge_iff_le, Bool.and_eq_true, Bool.and_eq_false_iff, Bool.or_eq_true, Bool.or_eq_false_iff] at h2
      refine W_seq (fun K11 hK11 => ?_)
      refine W_region (WL_cons rfl (WX_q rfl rfl (q_assign rfl rfl) (?_)))
      refine WL_nil (hK11 _ ?_)
      clear hK11 K11
      refine W_ret (fin_one rfl (rc_v ?_))
      all_goals clear hK9 K9
      all_goals (first | rfl | (simp_all; done))
    · try rw [h2]
      try simp only [decide_eq_true_eq, decide_eq_false_iff_not, beq_iff_eq, bne_iff_ne, ne_eq, Bool.not_eq_true', Bool.not_eq_false', beq_eq_false_iff_ne, bne_eq_false_iff_eq, Bool.not_eq_true, Bool.not_eq_false, Int.not_lt, Int.not_le, gt_iff_lt, ge_iff_le, Bool.and_eq_true, Bool.and_eq_false_iff, Bool.or_eq_true, Bool.or_eq_false_iff] at h2
      refine W_skip (hK9 _ ?_)
      clear hK9 K9
      refine W_seq (fun K12 hK12 => ?_)
      refine W_region (WL_cons rfl (WX_q rfl rfl (q_assign rfl rfl) (?_)))
      refine WL_nil (hK12 _ ?_)
      clear hK12 K12
      refine W_ret (fin_one rfl (rc_v ?_))
      all_goals (first | rfl | (simp_all; done))

end Go.Proofs.YthpllgbaeokeiaaDoor

/- Walks through functions of the program, one contract each (written by gen.py). -/
set_option maxRecDepth 20000
set_option linter.unusedVariables false
set_option linter.unusedSimpArgs false
namespace Go.Proofs.YthpllgbaeokeiaaDoor
open Go Go.Rf

theorem c_spec_SyncLog (x : Lg) (hx : x.d.size + x.p.size ≤ 1048576) : Ctr Tryd.prog 26 [.v (encL x)] (.many [.v (encL (syE x)), .v (.bool (okLg x))]) := by
  refine Ctr.of (n := 16) G Tryd.func26 rfl (by kernel_rfl) rfl rfl rfl (fun w0 => ?_)
  refine W_seq (fun K1 hK1 => ?_)
  refine W_region (WL_cons rfl (WX_box 1 rfl rfl rfl rfl rfl rfl rfl (WL_cons rfl (WX_alloc_s G 2 rfl rfl rfl rfl rfl (WL_cons rfl (WX_q rfl rfl (q_assign rfl rfl) (?_)))))))
  refine WL_nil (hK1 _ ?_)
  clear hK1 K1
  refine W_seq (fun K2 hK2 => ?_)
  refine W_seq (fun K3 hK3 => ?_)
  refine W_region (WL_cons rfl (WX_q rfl rfl (q_load_box_struct G rfl rfl rfl rfl rfl rfl) (WL_cons rfl (?_))))
  refine WX_q rfl rfl (q_call rfl (ArgsOK.of rfl) (c_spec_l27Log _ (by first | assumption | omega)) rfl) ?_
  refine WL_cons rfl (WX_q rfl rfl (q_not rfl rfl) (?_))
  refine WL_nil (hK3 _ ?_)
  clear hK3 K3
  refine W_cond rfl (fun h1 => ?_) (fun h1 => ?_)
  · try rw [h1]
    try simp only [decide_eq_true_eq, decide_eq_false_iff_not, beq_iff_eq, bne_iff_ne, ne_eq, Bool.not_eq_true', Bool.not_eq_false', beq_eq_false_iff_ne, bne_eq_false_iff_eq, Bool.not_eq_true, Bool.not_eq_false, Int.not_lt, Int.not_le, gt_iff_lt, ge_iff_le, Bool.and_eq_true, Bool.and_eq_false_iff, Bool.or_eq_true, Bool.or_eq_false_iff] at h1
    have hO := sy_f h1
    refine W_seq (fun K4 hK4 => ?_)
    refine W_region (WL_cons rfl (WX_q rfl rfl (q_build G rfl rfl rfl rfl) (WL_cons rfl (WX_store G rfl rfl rfl rfl rfl rfl rfl rfl rfl rfl rfl (WL_cons rfl (WX_q rfl rfl (q_assign rfl rfl) (?_)))))))
    refine WL_nil (hK4 _ ?_)
    clear hK4 K4
    refine W_ret (fin_many rfl rfl rfl rfl (rcs_cons (rc_agg rfl ?_) (rcs_cons (rc_v ?_) rcs_nil)))
    all_goals clear hK2 K2
    all_goals (first | (rw [hO.1]; rfl) | (rw [hO.2]; done) | (rw [hO.2]; rfl))
  · try rw [h1]
    try simp only [decide_eq_true_eq, decide_eq_false_iff_not, beq_iff_eq, bne_iff_ne, ne_eq, Bool.not_eq_true', Bool.not_eq_false', beq_eq_false_iff_ne, bne_eq_false_iff_eq, Bool.not_eq_true, Bool.not_eq_false, Int.not_lt, Int.not_le, gt_iff_lt, ge_iff_le, Bool.and_eq_true, Bool.and_eq_false_iff, Bool.or_eq_true, Bool.or_eq_false_iff] at h1
    have hO := sy_t h1
    refine W_skip (hK2 _ ?_)
    clear hK2 K2
    refine W_seq (fun K5 hK5 => ?_)
    refine W_region (WL_cons rfl (WX_q rfl rfl (q_field_ptr G rfl rfl rfl rfl) (WL_cons rfl (WX_q rfl rfl (q_load_box G rfl rfl rfl rfl rfl rfl rfl) (WL_cons rfl (WX_q rfl rfl (q_field_ptr G rfl rfl rfl rfl) (WL_cons rfl (WX_q rfl rfl (q_load_box G rfl rfl rfl rfl rfl rfl rfl) (WL_cons rfl (?_))))))))))
    refine WX_q rfl rfl (q_cat rfl rfl rfl (by (try simp only [ByteArray.size_append, size_lit, List.size_toArray, List.length_cons, List.length_nil]); omega)) ?_
    refine WL_cons rfl (WX_q rfl rfl (q_field_ptr G rfl rfl rfl rfl) (WL_cons rfl (WX_q rfl rfl (q_load_box G rfl rfl rfl rfl rfl rfl rfl) (WL_cons rfl (WX_q rfl rfl (q_build G rfl rfl rfl rfl) (WL_cons rfl (WX_store G rfl rfl rfl rfl rfl rfl rfl rfl rfl rfl rfl (WL_cons rfl (WX_q rfl rfl (q_assign rfl rfl) (?_))))))))))
    refine WL_nil (hK5 _ ?_)
    clear hK5 K5
    refine W_ret (fin_many rfl rfl rfl rfl (rcs_cons (rc_agg rfl ?_) (rcs_cons (rc_v ?_) rcs_nil)))
    all_goals (first | (rw [hO.1]; rfl) | (rw [hO.2]; done) | (rw [hO.2]; rfl))

theorem c_impl_SyncLog (x : Lg) (hx : x.d.size + x.p.size ≤ 1048576) : Ctr Tryd.prog 27 [.v (encL x)] (.many [.v (encL (syE x)), .v (.bool (okLg x))]) := by
  refine Ctr.of (n := 16) G Tryd.func27 rfl (by kernel_rfl) rfl rfl rfl (fun w0 => ?_)
  refine W_seq (fun K1 hK1 => ?_)
  refine W_region (WL_cons rfl (WX_box 1 rfl rfl rfl rfl rfl rfl rfl (WL_cons rfl (WX_alloc_s G 2 rfl rfl rfl rfl rfl (WL_cons rfl (WX_q rfl rfl (q_assign rfl rfl) (?_)))))))
  refine WL_nil (hK1 _ ?_)
  clear hK1 K1
  refine W_seq (fun K2 hK2 => ?_)
  refine W_seq (fun K3 hK3 => ?_)
  refine W_region (WL_cons rfl (WX_q rfl rfl (q_load_box_struct G rfl rfl rfl rfl rfl rfl) (WL_cons rfl (?_))))
  refine WX_q rfl rfl (q_call rfl (ArgsOK.of rfl) (c_impl_IsValidLog _ (by first | assumption | omega)) rfl) ?_
  refine WL_cons rfl (WX_q rfl rfl (q_not rfl rfl) (?_))
  refine WL_nil (hK3 _ ?_)
  clear hK3 K3
  refine W_cond rfl (fun h1 => ?_) (fun h1 => ?_)
  · try rw [h1]
    try simp only [decide_eq_true_eq, decide_eq_false_iff_not, beq_iff_eq, bne_iff_ne, ne_eq, Bool.not_eq_true', Bool.not_eq_false', beq_eq_false_iff_ne, bne_eq_false_iff_eq, Bool.not_eq_true, Bool.not_eq_false, Int.not_lt, Int.not_le, gt_iff_lt, ge_iff_le, Bool.and_eq_true, Bool.and_eq_false_iff, Bool.or_eq_true, Bool.or_eq_false_iff] at h1
    have hO := sy_f h1
    refine W_seq (fun K4 hK4 => ?_)
    refine W_region (WL_cons rfl (WX_q rfl rfl (q_build G rfl rfl rfl rfl) (WL_cons rfl (WX_store G rfl rfl rfl rfl rfl rfl rfl rfl rfl rfl rfl (WL_cons rfl (WX_q rfl rfl (q_assign rfl rfl) (?_)))))))
    refine WL_nil (hK4 _ ?_)
    clear hK4 K4
    refine W_ret (fin_many rfl rfl rfl rfl (rcs_cons (rc_agg rfl ?_) (rcs_cons (rc_v ?_) rcs_nil)))
    all_goals clear hK2 K2
    all_goals (first | (rw [hO.1]; rfl) | (rw [hO.2]; done) | (rw [hO.2]; rfl))
  · try rw [h1]
    try simp only [decide_eq_true_eq, decide_eq_false_iff_not, beq_iff_eq, bne_iff_ne, ne_eq, Bool.not_eq_true', Bool.not_eq_false', beq_eq_false_iff_ne, bne_eq_false_iff_eq, Bool.not_eq_true, Bool.not_eq_false, Int.not_lt, Int.not_le, gt_iff_lt, ge_iff_le, Bool.and_eq_true, Bool.and_eq_false_iff, Bool.or_eq_true, Bool.or_eq_false_iff] at h1
    have hO := sy_t h1
    refine W_skip (hK2 _ ?_)
    clear hK2 K2
    refine W_seq (fun K5 hK5 => ?_)
    refine W_region (WL_cons rfl (WX_q rfl rfl (q_field_ptr G rfl rfl rfl rfl) (WL_cons rfl (WX_q rfl rfl (q_load_box G rfl rfl rfl rfl rfl rfl rfl) (WL_cons rfl (WX_q rfl rfl (q_field_ptr G rfl rfl rfl rfl) (WL_cons rfl (WX_q rfl rfl (q_load_box G rfl rfl rfl rfl rfl rfl rfl) (WL_cons rfl (?_))))))))))
    refine WX_q rfl rfl (q_cat rfl rfl rfl (by (try simp only [ByteArray.size_append, size_lit, List.size_toArray, List.length_cons, List.length_nil]); omega)) ?_
    refine WL_cons rfl (WX_q rfl rfl (q_field_ptr G rfl rfl rfl rfl) (WL_cons rfl (WX_q rfl rfl (q_load_box G rfl rfl rfl rfl rfl rfl rfl) (WL_cons rfl (WX_q rfl rfl (q_build G rfl rfl rfl rfl) (WL_cons rfl (WX_store G rfl rfl rfl rfl rfl rfl rfl rfl rfl rfl rfl (WL_cons rfl (WX_q rfl rfl (q_assign rfl rfl) (?_))))))))))
    refine WL_nil (hK5 _ ?_)
    clear hK5 K5
    refine W_ret (fin_many rfl rfl rfl rfl (rcs_cons (rc_agg rfl ?_) (rcs_cons (rc_v ?_) rcs_nil)))
    all_goals (first | (rw [hO.1]; rfl) | (rw [hO.2]; done) | (rw [hO.2]; rfl))

theorem c_laws_FnExactSyncLog (x : Lg) (h0 : x.d.size ≤ 9223372036854775807 ∧ x.p.size ≤ 9223372036854775807) : Ctr Tryd.prog 7 [.v (encL x)] (.one (.v (.bool true))) := by
  refine Ctr.of (n := 34) G Tryd.func7 rfl (by kernel_rfl) rfl rfl rfl (fun w0 => ?_)
  refine W_seq (fun K1 hK1 => ?_)
  refine W_region (WL_cons rfl (WX_box 1 rfl rfl rfl rfl rfl rfl rfl (WL_cons rfl (WX_q rfl rfl (q_assign rfl rfl) (?_)))))
  refine WL_nil (hK1 _ ?_)
  clear hK1 K1
  refine W_seq (fun K2 hK2 => ?_)
  refine W_region (WL_cons rfl (WX_q rfl rfl (q_assign rfl rfl) (?_)))
  refine WL_nil (hK2 _ ?_)
  clear hK2 K2
  refine W_seq (fun K3 hK3 => ?_)
  refine W_region (WL_cons rfl (WX_q rfl rfl (q_load_box_struct G rfl rfl rfl rfl rfl rfl) (WL_cons rfl (WX_q rfl rfl (q_move rfl rfl) (WL_cons rfl (?_))))))
  refine WX_q rfl rfl (q_call rfl (ArgsOK.of rfl) (c_laws_szLog _ _ (by assumption) (by first | assumption | omega)) rfl) ?_
  refine WL_cons rfl (WX_q rfl rfl (q_assign rfl rfl) (?_))
  refine WL_nil (hK3 _ ?_)
  clear hK3 K3
  refine W_seq (fun K4 hK4 => ?_)
  refine W_seq (fun K5 hK5 => ?_)
  refine W_region (WL_cons rfl (WX_q rfl rfl (q_move rfl rfl) (WL_cons rfl (WX_q rfl rfl (q_cmp rfl rfl rfl rfl) (?_)))))
  refine WL_nil (hK5 _ ?_)
  clear hK5 K5
  refine W_cond rfl (fun h1 => ?_) (fun h1 => ?_)
  · try rw [h1]
    try simp only [decide_eq_true_eq, decide_eq_false_iff_not, beq_iff_eq, bne_iff_ne, ne_eq, Bool.not_eq_true', Bool.not_eq_false', beq_eq_false_iff_ne, bne_eq_false_iff_eq, Bool.not_eq_true, Bool.not_eq_false, Int.not_lt, Int.not_le, gt_iff_lt, ge_iff_le, Bool.and_eq_true, Bool.and_eq_false_iff, Bool.or_eq_true, Bool.or_eq_false_iff] at h1
    refine W_seq (fun K6 hK6 => ?_)
    refine W_region (WL_cons rfl (WX_q rfl rfl (q_assign rfl rfl) (?_)))
    refine WL_nil (hK6 _ ?_)
    clear hK6 K6
    refine W_ret (fin_one rfl (rc_v ?_))
    all_goals clear hK4 K4
    all_goals (first | rfl | (simp_all [eqL_self]; done))
  · try rw [h1]
    try simp only [decide_eq_true_eq, decide_eq_false_iff_not, beq_iff_eq, bne_iff_ne, ne_eq, Bool.not_eq_true', Bool.not_eq_false', beq_eq_false_iff_ne, bne_eq_false_iff_eq, Bool.not_eq_true, Bool.not_eq_false, Int.not_lt, Int.not_le, gt_iff_lt, ge_iff_le, Bool.and_eq_true, Bool.and_eq_false_iff, Bool.or_eq_true, Bool.or_eq_false_iff] at h1
    have hx : x.d.size + x.p.size ≤ 1048576 := by simp only [szL] at h1; split at h1 <;> (try split at h1) <;> omega
    refine W_skip (hK4 _ ?_)
    clear hK4 K4
    refine W_seq (fun K7 hK7 => ?_)
    refine W_region (WL_cons rfl (WX_q rfl rfl (q_load_box_struct G rfl rfl rfl rfl rfl rfl) (WL_cons rfl (?_))))
    refine WX_q rfl rfl (q_call rfl (ArgsOK.of rfl) (c_laws_toLog _) rfl) ?_
    refine WL_cons rfl (?_)
    refine WX_q rfl rfl (q_call rfl (ArgsOK.of rfl) (c_spec_SyncLog _ (by first | assumption | omega)) rfl) ?_
    refine WL_cons rfl (WX_q rfl rfl (q_move rfl rfl) (WL_cons rfl (WX_q rfl rfl (q_extract rfl rfl rfl) (WL_cons rfl (WX_q rfl rfl (q_extract rfl rfl rfl) (WL_cons rfl (WX_alloc_s G 2 rfl rfl rfl rfl rfl (WL_cons rfl (WX_store G rfl rfl rfl rfl rfl rfl rfl rfl rfl rfl rfl (WL_cons rfl (WX_q rfl rfl (q_assign rfl rfl) (?_))))))))))))
    refine WL_nil (hK7 _ ?_)
    clear hK7 K7
    refine W_seq (fun K8 hK8 => ?_)
    refine W_region (WL_cons rfl (WX_q rfl rfl (q_load_box_struct G rfl rfl rfl rfl rfl rfl) (WL_cons rfl (?_))))
    refine WX_q rfl rfl (q_call rfl (ArgsOK.of rfl) (c_laws_toLog _) rfl) ?_
    refine WL_cons rfl (?_)
    refine WX_q rfl rfl (q_call rfl (ArgsOK.of rfl) (c_impl_SyncLog _ (by first | assumption | omega)) rfl) ?_
    refine WL_cons rfl (WX_q rfl rfl (q_move rfl rfl) (WL_cons rfl (WX_q rfl rfl (q_extract rfl rfl rfl) (WL_cons rfl (WX_q rfl rfl (q_extract rfl rfl rfl) (WL_cons rfl (WX_alloc_s G 3 rfl rfl rfl rfl rfl (WL_cons rfl (WX_store G rfl rfl rfl rfl rfl rfl rfl rfl rfl rfl rfl (WL_cons rfl (WX_q rfl rfl (q_assign rfl rfl) (?_))))))))))))
    refine WL_nil (hK8 _ ?_)
    clear hK8 K8
    refine W_seq (fun K9 hK9 => ?_)
    refine W_seq (fun K10 hK10 => ?_)
    refine W_region (WL_cons rfl (WX_q rfl rfl (q_load_box_struct G rfl rfl rfl rfl rfl rfl) (WL_cons rfl (WX_q rfl rfl (q_load_box_struct G rfl rfl rfl rfl rfl rfl) (WL_cons rfl (?_))))))
    refine WX_q rfl rfl (q_call rfl (ArgsOK.of rfl) (c_laws_eqLog _ _) rfl) ?_
    refine WL_cons rfl (WX_q rfl rfl (q_not rfl rfl) (WL_cons rfl (WX_q rfl rfl (q_move rfl rfl) (WL_part rfl rfl rfl (fun h2 => ?_) (fun h2 => ?_)))))
    · try rw [h2]
      try simp only [decide_eq_true_eq, decide_eq_false_iff_not, beq_iff_eq, bne_iff_ne, ne_eq, Bool.not_eq_true', Bool.not_eq_false', beq_eq_false_iff_ne, bne_eq_false_iff_eq, Bool.not_eq_true, Bool.not_eq_false, Int.not_lt, Int.not_le, gt_iff_lt, ge_iff_le, Bool.and_eq_true, Bool.and_eq_false_iff, Bool.or_eq_true, Bool.or_eq_false_iff] at h2
      refine WL_skip rfl rfl rfl rfl rfl rfl (WL_skip rfl rfl rfl rfl rfl rfl (WL_skip rfl rfl rfl rfl rfl rfl (WL_cons rfl (WX_q rfl rfl (q_pick_t rfl rfl rfl) (?_)))))
      refine WL_nil (hK10 _ ?_)
      clear hK10 K10
      refine W_true rfl ?_
      refine W_seq (fun K11 hK11 => ?_)
      refine W_region (WL_cons rfl (WX_q rfl rfl (q_assign rfl rfl) (?_)))
      refine WL_nil (hK11 _ ?_)
      clear hK11 K11
      refine W_ret (fin_one rfl (rc_v ?_))
      all_goals clear hK9 K9
      all_goals (first | rfl | (simp_all [eqL_self]; done))
    · try rw [h2]
      try simp only [decide_eq_true_eq, decide_eq_false_iff_not, beq_iff_eq, bne_iff_ne, ne_eq, Bool.not_eq_true', Bool.not_eq_false', beq_eq_false_iff_ne, bne_eq_false_iff_eq, Bool.not_eq_true, Bool.not_eq_false, Int.not_lt, Int.not_le, gt_iff_lt, ge_iff_le, Bool.and_eq_true, Bool.and_eq_false_iff, Bool.or_eq_true, Bool.or_eq_false_iff] at h2
      refine WL_run rfl rfl rfl (WX_q rfl rfl (q_move rfl rfl) (WL_run rfl rfl rfl (WX_q rfl rfl (q_move rfl rfl) (WL_run rfl rfl rfl (WX_q rfl rfl (q_bne (G 4 _ rfl).1 rfl rfl rfl) (WL_cons rfl (WX_q rfl rfl (q_pick_f rfl rfl rfl) (?_))))))))
      refine WL_nil (hK10 _ ?_)
      clear hK10 K10
      refine W_cond rfl (fun h3 => ?_) (fun h3 => ?_)
      · try rw [h3]
        try simp only [decide_eq_true_eq, decide_eq_false_iff_not, beq_iff_eq, bne_iff_ne, ne_eq, Bool.not_eq_true', Bool.not_eq_false', beq_eq_false_iff_ne, bne_eq_false_iff_eq, Bool.not_eq_true, Bool.not_eq_false, Int.not_lt, Int.not_le, gt_iff_lt, ge_iff_le, Bool.and_eq_true, Bool.and_eq_false_iff, Bool.or_eq_true, Bool.or_eq_false_iff] at h3
        refine W_seq (fun K12 hK12 => ?_)
        refine W_region (WL_cons rfl (WX_q rfl rfl (q_assign rfl rfl) (?_)))
        refine WL_nil (hK12 _ ?_)
        clear hK12 K12
        refine W_ret (fin_one rfl (rc_v ?_))
        all_goals clear hK9 K9
        all_goals (first | rfl | (simp_all [eqL_self]; done))
      · try rw [h3]
        try simp only [decide_eq_true_eq, decide_eq_false_iff_not, beq_iff_eq, bne_iff_ne, ne_eq, Bool.not_eq_true', Bool.not_eq_false', beq_eq_false_iff_ne, bne_eq_false_iff_eq, Bool.not_eq_true, Bool.not_eq_false, Int.not_lt, Int.not_le, gt_iff_lt, ge_iff_le, Bool.and_eq_true, Bool.and_eq_false_iff, Bool.or_eq_true, Bool.or_eq_false_iff] at h3
        refine W_skip (hK9 _ ?_)
        clear hK9 K9
        refine W_seq (fun K13 hK13 => ?_)
        refine W_region (WL_cons rfl (WX_q rfl rfl (q_assign rfl rfl) (?_)))
        refine WL_nil (hK13 _ ?_)
        clear hK13 K13
        refine W_ret (fin_one rfl (rc_v ?_))
        all_goals (first | rfl | (simp_all [eqL_self]; done))

theorem c_spec_AppendRecord (x : Lg) (r : Rec) (hx : x.d.size + x.p.size ≤ 1048576) (hr : r.c.size ≤ 9223372036854775807 ∧ r.r.size ≤ 9223372036854775807) : Ctr Tryd.prog 28 [.v (encL x), .v (encR r)] (.many [.v (encL (apE x r)), .v (.int .i64 (apN x r))]) := by
  refine Ctr.of (n := 32) G Tryd.func28 rfl (by kernel_rfl) rfl rfl rfl (fun w0 => ?_)
  refine W_seq (fun K1 hK1 => ?_)
  refine W_region (WL_cons rfl (WX_box 1 rfl rfl rfl rfl rfl rfl rfl (WL_cons rfl (WX_box 2 rfl rfl rfl rfl rfl rfl rfl (WL_cons rfl (WX_alloc_s G 3 rfl rfl rfl rfl rfl (WL_cons rfl (WX_q rfl rfl (q_assign rfl rfl) (?_)))))))))
  refine WL_nil (hK1 _ ?_)
  clear hK1 K1
  refine W_seq (fun K2 hK2 => ?_)
  refine W_seq (fun K3 hK3 => ?_)
  refine W_region (WL_cons rfl (WX_q rfl rfl (q_load_box_struct G rfl rfl rfl rfl rfl rfl) (WL_cons rfl (?_))))
  refine WX_q rfl rfl (q_call rfl (ArgsOK.of rfl) (c_spec_l27Log _ (by first | assumption | omega)) rfl) ?_
  refine WL_cons rfl (WX_q rfl rfl (q_not rfl rfl) (WL_cons rfl (WX_q rfl rfl (q_move rfl rfl) (WL_part rfl rfl rfl (fun h1 => ?_) (fun h1 => ?_)))))
  · try rw [h1]
    try simp only [decide_eq_true_eq, decide_eq_false_iff_not, beq_iff_eq, bne_iff_ne, ne_eq, Bool.not_eq_true', Bool.not_eq_false', beq_eq_false_iff_ne, bne_eq_false_iff_eq, Bool.not_eq_true, Bool.not_eq_false, Int.not_lt, Int.not_le, gt_iff_lt, ge_iff_le, Bool.and_eq_true, Bool.and_eq_false_iff, Bool.or_eq_true, Bool.or_eq_false_iff] at h1
    have hO := ap_f (x := x) (r := r) (ap_f1 h1)
    refine WL_skip rfl rfl rfl rfl rfl rfl (WL_skip rfl rfl rfl rfl rfl rfl (WL_skip rfl rfl rfl rfl rfl rfl (WL_cons rfl (WX_q rfl rfl (q_pick_t rfl rfl rfl) (?_)))))
    refine WL_nil (hK3 _ ?_)
    clear hK3 K3
    refine W_true rfl ?_
    refine W_seq (fun K4 hK4 => ?_)
    refine W_region (WL_cons rfl (WX_q rfl rfl (q_load_box_struct G rfl rfl rfl rfl rfl rfl) (WL_cons rfl (WX_store G rfl rfl rfl rfl rfl rfl rfl rfl rfl rfl rfl (WL_cons rfl (WX_q rfl rfl (q_assign rfl rfl) (?_)))))))
    refine WL_nil (hK4 _ ?_)
    clear hK4 K4
    refine W_ret (fin_many rfl rfl rfl rfl (rcs_cons (rc_agg rfl ?_) (rcs_cons (rc_v ?_) rcs_nil)))
    all_goals clear hK2 K2
    all_goals (first | (rw [hO.1]; done) | (rw [hO.1]; rfl) | (rw [hO.2]; done) | (rw [hO.2]; rfl))
  · try rw [h1]
    try simp only [decide_eq_true_eq, decide_eq_false_iff_not, beq_iff_eq, bne_iff_ne, ne_eq, Bool.not_eq_true', Bool.not_eq_false', beq_eq_false_iff_ne, bne_eq_false_iff_eq, Bool.not_eq_true, Bool.not_eq_false, Int.not_lt, Int.not_le, gt_iff_lt, ge_iff_le, Bool.and_eq_true, Bool.and_eq_false_iff, Bool.or_eq_true, Bool.or_eq_false_iff] at h1
    refine WL_run rfl rfl rfl (WX_q rfl rfl (q_load_box_struct G rfl rfl rfl rfl rfl rfl) (WL_run rfl rfl rfl (?_)))
    refine WX_q rfl rfl (q_call rfl (ArgsOK.of rfl) (c_spec_l27Good _ (by assumption)) rfl) ?_
    refine WL_run rfl rfl rfl (WX_q rfl rfl (q_not rfl rfl) (WL_cons rfl (WX_q rfl rfl (q_pick_f rfl rfl rfl) (?_))))
    refine WL_nil (hK3 _ ?_)
    clear hK3 K3
    refine W_cond rfl (fun h2 => ?_) (fun h2 => ?_)
    · try rw [h2]
      try simp only [decide_eq_true_eq, decide_eq_false_iff_not, beq_iff_eq, bne_iff_ne, ne_eq, Bool.not_eq_true', Bool.not_eq_false', beq_eq_false_iff_ne, bne_eq_false_iff_eq, Bool.not_eq_true, Bool.not_eq_false, Int.not_lt, Int.not_le, gt_iff_lt, ge_iff_le, Bool.and_eq_true, Bool.and_eq_false_iff, Bool.or_eq_true, Bool.or_eq_false_iff] at h2
      have hO := ap_f (x := x) (r := r) (ap_f2 h2)
      refine W_seq (fun K5 hK5 => ?_)
      refine W_region (WL_cons rfl (WX_q rfl rfl (q_load_box_struct G rfl rfl rfl rfl rfl rfl) (WL_cons rfl (WX_store G rfl rfl rfl rfl rfl rfl rfl rfl rfl rfl rfl (WL_cons rfl (WX_q rfl rfl (q_assign rfl rfl) (?_)))))))
      refine WL_nil (hK5 _ ?_)
      clear hK5 K5
      refine W_ret (fin_many rfl rfl rfl rfl (rcs_cons (rc_agg rfl ?_) (rcs_cons (rc_v ?_) rcs_nil)))
      all_goals clear hK2 K2
      all_goals (first | (rw [hO.1]; done) | (rw [hO.1]; rfl) | (rw [hO.2]; done) | (rw [hO.2]; rfl))
    · try rw [h2]
      try simp only [decide_eq_true_eq, decide_eq_false_iff_not, beq_iff_eq, bne_iff_ne, ne_eq, Bool.not_eq_true', Bool.not_eq_false', beq_eq_false_iff_ne, bne_eq_false_iff_eq, Bool.not_eq_true, Bool.not_eq_false, Int.not_lt, Int.not_le, gt_iff_lt, ge_iff_le, Bool.and_eq_true, Bool.and_eq_false_iff, Bool.or_eq_true, Bool.or_eq_false_iff] at h2
      refine W_skip (hK2 _ ?_)
      clear hK2 K2
      refine W_seq (fun K6 hK6 => ?_)
      refine W_seq (fun K7 hK7 => ?_)
      refine W_region (WL_cons rfl (WX_q rfl rfl (q_field_ptr G rfl rfl rfl rfl) (WL_cons rfl (WX_q rfl rfl (q_load_box G rfl rfl rfl rfl rfl rfl rfl) (WL_cons rfl (WX_q rfl rfl (q_cmp rfl rfl rfl rfl) (?_)))))))
      refine WL_nil (hK7 _ ?_)
      clear hK7 K7
      refine W_cond rfl (fun h3 => ?_) (fun h3 => ?_)
      · try rw [h3]
        try simp only [decide_eq_true_eq, decide_eq_false_iff_not, beq_iff_eq, bne_iff_ne, ne_eq, Bool.not_eq_true', Bool.not_eq_false', beq_eq_false_iff_ne, bne_eq_false_iff_eq, Bool.not_eq_true, Bool.not_eq_false, Int.not_lt, Int.not_le, gt_iff_lt, ge_iff_le, Bool.and_eq_true, Bool.and_eq_false_iff, Bool.or_eq_true, Bool.or_eq_false_iff] at h3
        have hO := ap_n (x := x) (r := r) h1 h2 h3
        refine W_seq (fun K8 hK8 => ?_)
        refine W_region (WL_cons rfl (WX_q rfl rfl (q_load_box_struct G rfl rfl rfl rfl rfl rfl) (WL_cons rfl (WX_store G rfl rfl rfl rfl rfl rfl rfl rfl rfl rfl rfl (WL_cons rfl (WX_q rfl rfl (q_assign rfl rfl) (?_)))))))
        refine WL_nil (hK8 _ ?_)
        clear hK8 K8
        refine W_ret (fin_many rfl rfl rfl rfl (rcs_cons (rc_agg rfl ?_) (rcs_cons (rc_v ?_) rcs_nil)))
        all_goals clear hK6 K6
        all_goals (first | (rw [hO.1]; done) | (rw [hO.1]; rfl) | (rw [hO.2]; done) | (rw [hO.2]; rfl))
      · try rw [h3]
        try simp only [decide_eq_true_eq, decide_eq_false_iff_not, beq_iff_eq, bne_iff_ne, ne_eq, Bool.not_eq_true', Bool.not_eq_false', beq_eq_false_iff_ne, bne_eq_false_iff_eq, Bool.not_eq_true, Bool.not_eq_false, Int.not_lt, Int.not_le, gt_iff_lt, ge_iff_le, Bool.and_eq_true, Bool.and_eq_false_iff, Bool.or_eq_true, Bool.or_eq_false_iff] at h3
        have hz := okLg_ok (x := x) (by assumption)
        have hls := line_size (k := x.n) (x := r) (by omega) (by omega) (by assumption)
        have hO := ap_t (x := x) (r := r) h1 h2 h3
        refine W_skip (hK6 _ ?_)
        clear hK6 K6
        refine W_seq (fun K9 hK9 => ?_)
        apply W_drawsJ [2, 4] [0, 1, 2] 3 9 [1, 2] mixed (by kernel_rfl) rfl rfl hK9
        · intro r0
          refine WA_take 0 rfl (by kernel_rfl) (by kernel_rfl) rfl rfl rfl rfl (q_field_ptr G rfl rfl rfl rfl) (WA_take 2 rfl (by kernel_rfl) (by kernel_rfl) rfl rfl rfl rfl (q_field_ptr G rfl rfl rfl rfl) (WA_take 4 rfl (by kernel_rfl) (by kernel_rfl) rfl rfl rfl rfl (q_load_box_struct G rfl rfl rfl rfl rfl rfl) (?_)))
          refine WA_branch (rs := [1, 3]) (by kernel_rfl) rfl (AllB.cons ?_ (AllB.cons ?_ AllB.nil))
          · refine WB_run [1, 2] rfl rfl (WX_q rfl rfl (q_load_box G rfl rfl rfl rfl rfl rfl rfl) (WL_nil ⟨rfl, ?_⟩))
            refine WA_branch (rs := [3]) (by kernel_rfl) rfl (AllB.cons ?_ AllB.nil)
            refine WB_run [1, 2] rfl rfl (WX_q rfl rfl (q_load_box G rfl rfl rfl rfl rfl rfl rfl) (WL_nil ⟨rfl, ?_⟩))
            refine WA_branch (rs := [5]) (by kernel_rfl) rfl (AllB.cons ?_ AllB.nil)
            refine WB_run [1, 2] rfl rfl (WX_q rfl rfl (q_call rfl (ArgsOK.of rfl) (c_spec_l27Line _ _ (by first | assumption | omega) (by first | assumption | omega) (by assumption)) rfl) (WL_nil ⟨rfl, ?_⟩))
            refine WA_take 6 rfl (by kernel_rfl) (by kernel_rfl) rfl rfl rfl rfl (q_cat rfl rfl rfl (by (try simp only [ByteArray.size_append, size_lit, List.size_toArray, List.length_cons, List.length_nil]); omega)) ?_
            refine WA_take 7 rfl (by kernel_rfl) (by kernel_rfl) rfl rfl rfl rfl (q_field_ptr G rfl rfl rfl rfl) (?_)
            refine WA_branch (rs := [8]) (by kernel_rfl) rfl (AllB.cons ?_ AllB.nil)
            refine WB_run [1, 2] rfl rfl (WX_store G rfl rfl rfl rfl rfl rfl rfl rfl rfl rfl rfl (WL_nil ⟨rfl, ?_⟩))
            exact WA_end (by kernel_rfl) (Meet.mk rfl rfl rfl rfl)
          · refine WB_run [1, 2] rfl rfl (WX_q rfl rfl (q_load_box G rfl rfl rfl rfl rfl rfl rfl) (WL_nil ⟨rfl, ?_⟩))
            refine WA_branch (rs := [1, 5]) (by kernel_rfl) rfl (AllB.cons ?_ (AllB.cons ?_ AllB.nil))
            · refine WB_run [1, 2] rfl rfl (WX_q rfl rfl (q_load_box G rfl rfl rfl rfl rfl rfl rfl) (WL_nil ⟨rfl, ?_⟩))
              refine WA_branch (rs := [5]) (by kernel_rfl) rfl (AllB.cons ?_ AllB.nil)
              refine WB_run [1, 2] rfl rfl (WX_q rfl rfl (q_call rfl (ArgsOK.of rfl) (c_spec_l27Line _ _ (by first | assumption | omega) (by first | assumption | omega) (by assumption)) rfl) (WL_nil ⟨rfl, ?_⟩))
              refine WA_take 6 rfl (by kernel_rfl) (by kernel_rfl) rfl rfl rfl rfl (q_cat rfl rfl rfl (by (try simp only [ByteArray.size_append, size_lit, List.size_toArray, List.length_cons, List.length_nil]); omega)) ?_
              refine WA_take 7 rfl (by kernel_rfl) (by kernel_rfl) rfl rfl rfl rfl (q_field_ptr G rfl rfl rfl rfl) (?_)
              refine WA_branch (rs := [8]) (by kernel_rfl) rfl (AllB.cons ?_ AllB.nil)
              refine WB_run [1, 2] rfl rfl (WX_store G rfl rfl rfl rfl rfl rfl rfl rfl rfl rfl rfl (WL_nil ⟨rfl, ?_⟩))
              exact WA_end (by kernel_rfl) (Meet.mk rfl rfl rfl rfl)
            · refine WB_run [1, 2] rfl rfl (WX_q rfl rfl (q_call rfl (ArgsOK.of rfl) (c_spec_l27Line _ _ (by first | assumption | omega) (by first | assumption | omega) (by assumption)) rfl) (WL_nil ⟨rfl, ?_⟩))
              refine WA_branch (rs := [1]) (by kernel_rfl) rfl (AllB.cons ?_ AllB.nil)
              refine WB_run [1, 2] rfl rfl (WX_q rfl rfl (q_load_box G rfl rfl rfl rfl rfl rfl rfl) (WL_nil ⟨rfl, ?_⟩))
              refine WA_take 6 rfl (by kernel_rfl) (by kernel_rfl) rfl rfl rfl rfl (q_cat rfl rfl rfl (by (try simp only [ByteArray.size_append, size_lit, List.size_toArray, List.length_cons, List.length_nil]); omega)) ?_
              refine WA_take 7 rfl (by kernel_rfl) (by kernel_rfl) rfl rfl rfl rfl (q_field_ptr G rfl rfl rfl rfl) (?_)
              refine WA_branch (rs := [8]) (by kernel_rfl) rfl (AllB.cons ?_ AllB.nil)
              refine WB_run [1, 2] rfl rfl (WX_store G rfl rfl rfl rfl rfl rfl rfl rfl rfl rfl rfl (WL_nil ⟨rfl, ?_⟩))
              exact WA_end (by kernel_rfl) (Meet.mk rfl rfl rfl rfl)
        · clear hK9 K9
          refine W_seq (fun K10 hK10 => ?_)
          refine W_region (WL_cons rfl (WX_q rfl rfl (q_field_ptr G rfl rfl rfl rfl) (WL_cons rfl (WX_q rfl rfl (q_load_box G rfl rfl rfl rfl rfl rfl rfl) (WL_cons rfl (?_))))))
          first | refine WX_q rfl rfl (q_arith rfl rfl rfl rfl (by omega) (by omega)) ?_ | refine WX_q rfl rfl (q_wrap rfl rfl rfl rfl) ?_
          refine WL_cons rfl (WX_q rfl rfl (q_field_ptr G rfl rfl rfl rfl) (WL_cons rfl (WX_store G rfl rfl rfl rfl rfl rfl rfl rfl rfl rfl rfl (?_))))
          refine WL_nil (hK10 _ ?_)
          clear hK10 K10
          refine W_seq (fun K11 hK11 => ?_)
          refine W_region (WL_cons rfl (WX_q rfl rfl (q_load_box_struct G rfl rfl rfl rfl rfl rfl) (WL_cons rfl (WX_store G rfl rfl rfl rfl rfl rfl rfl rfl rfl rfl rfl (WL_cons rfl (WX_q rfl rfl (q_assign rfl rfl) (?_)))))))
          refine WL_nil (hK11 _ ?_)
          clear hK11 K11
          refine W_ret (fin_many rfl rfl rfl rfl (rcs_cons (rc_agg rfl ?_) (rcs_cons (rc_v ?_) rcs_nil)))
          all_goals (first | (rw [hO.1]; done) | (rw [hO.1]; rfl) | (rw [hO.2]; done) | (rw [hO.2]; rfl))

theorem c_impl_AppendRecord (x : Lg) (r : Rec) (hx : x.d.size + x.p.size ≤ 1048576) (hr : r.c.size ≤ 9223372036854775807 ∧ r.r.size ≤ 9223372036854775807) : Ctr Tryd.prog 29 [.v (encL x), .v (encR r)] (.many [.v (encL (apE x r)), .v (.int .i64 (apN x r))]) := by
  refine Ctr.of (n := 34) G Tryd.func29 rfl (by kernel_rfl) rfl rfl rfl (fun w0 => ?_)
  refine W_seq (fun K1 hK1 => ?_)
  refine W_region (WL_cons rfl (WX_box 1 rfl rfl rfl rfl rfl rfl rfl (WL_cons rfl (WX_box 2 rfl rfl rfl rfl rfl rfl rfl (WL_cons rfl (WX_alloc_s G 3 rfl rfl rfl rfl rfl (WL_cons rfl (WX_q rfl rfl (q_assign rfl rfl) (?_)))))))))
  refine WL_nil (hK1 _ ?_)
  clear hK1 K1
  refine W_seq (fun K2 hK2 => ?_)
  refine W_block ?_
  refine W_seq (fun K3 hK3 => ?_)
  refine W_region (WL_cons rfl (WX_q rfl rfl (q_load_box_struct G rfl rfl rfl rfl rfl rfl) (WL_cons rfl (?_))))
  refine WX_q rfl rfl (q_call rfl (ArgsOK.of rfl) (c_impl_IsValidLog _ (by first | assumption | omega)) rfl) ?_
  refine WL_cons rfl (WX_q rfl rfl (q_not rfl rfl) (WL_cons rfl (WX_q rfl rfl (q_move rfl rfl) (WL_part rfl rfl rfl (fun h1 => ?_) (fun h1 => ?_)))))
  · try rw [h1]
    try simp only [decide_eq_true_eq, decide_eq_false_iff_not, beq_iff_eq, bne_iff_ne, ne_eq, Bool.not_eq_true', Bool.not_eq_false', beq_eq_false_iff_ne, bne_eq_false_iff_eq, Bool.not_eq_true, Bool.not_eq_false, Int.not_lt, Int.not_le, gt_iff_lt, ge_iff_le, Bool.and_eq_true, Bool.and_eq_false_iff, Bool.or_eq_true, Bool.or_eq_false_iff] at h1
    have hO := ap_f (x := x) (r := r) (ap_f1 h1)
    refine WL_skip rfl rfl rfl rfl rfl rfl (WL_skip rfl rfl rfl rfl rfl rfl (WL_skip rfl rfl rfl rfl rfl rfl (WL_cons rfl (WX_q rfl rfl (q_pick_t rfl rfl rfl) (WL_cons rfl (WX_q rfl rfl (q_assign rfl rfl) (?_)))))))
    refine WL_nil (hK3 _ ?_)
    clear hK3 K3
    refine W_true rfl ?_
    refine W_seq (fun K4 hK4 => ?_)
    refine W_region (WL_cons rfl (WX_q rfl rfl (q_load_box_struct G rfl rfl rfl rfl rfl rfl) (WL_cons rfl (WX_store G rfl rfl rfl rfl rfl rfl rfl rfl rfl rfl rfl (WL_cons rfl (WX_q rfl rfl (q_assign rfl rfl) (?_)))))))
    refine WL_nil (hK4 _ ?_)
    clear hK4 K4
    refine W_ret (fin_many rfl rfl rfl rfl (rcs_cons (rc_agg rfl ?_) (rcs_cons (rc_v ?_) rcs_nil)))
    all_goals clear hK2 K2
    all_goals (first | (rw [hO.1]; done) | (rw [hO.1]; rfl) | (rw [hO.2]; done) | (rw [hO.2]; rfl))
  · try rw [h1]
    try simp only [decide_eq_true_eq, decide_eq_false_iff_not, beq_iff_eq, bne_iff_ne, ne_eq, Bool.not_eq_true', Bool.not_eq_false', beq_eq_false_iff_ne, bne_eq_false_iff_eq, Bool.not_eq_true, Bool.not_eq_false, Int.not_lt, Int.not_le, gt_iff_lt, ge_iff_le, Bool.and_eq_true, Bool.and_eq_false_iff, Bool.or_eq_true, Bool.or_eq_false_iff] at h1
    refine WL_run rfl rfl rfl (WX_q rfl rfl (q_load_box_struct G rfl rfl rfl rfl rfl rfl) (WL_run rfl rfl rfl (?_)))
    refine WX_q rfl rfl (q_call rfl (ArgsOK.of rfl) (c_impl_IsValidRecord _ (by assumption)) rfl) ?_
    refine WL_run rfl rfl rfl (WX_q rfl rfl (q_not rfl rfl) (WL_cons rfl (WX_q rfl rfl (q_pick_f rfl rfl rfl) (WL_cons rfl (WX_q rfl rfl (q_assign rfl rfl) (?_))))))
    refine WL_nil (hK3 _ ?_)
    clear hK3 K3
    refine W_cond rfl (fun h2 => ?_) (fun h2 => ?_)
    · try rw [h2]
      try simp only [decide_eq_true_eq, decide_eq_false_iff_not, beq_iff_eq, bne_iff_ne, ne_eq, Bool.not_eq_true', Bool.not_eq_false', beq_eq_false_iff_ne, bne_eq_false_iff_eq, Bool.not_eq_true, Bool.not_eq_false, Int.not_lt, Int.not_le, gt_iff_lt, ge_iff_le, Bool.and_eq_true, Bool.and_eq_false_iff, Bool.or_eq_true, Bool.or_eq_false_iff] at h2
      have hO := ap_f (x := x) (r := r) (ap_f2 h2)
      refine W_seq (fun K5 hK5 => ?_)
      refine W_region (WL_cons rfl (WX_q rfl rfl (q_load_box_struct G rfl rfl rfl rfl rfl rfl) (WL_cons rfl (WX_store G rfl rfl rfl rfl rfl rfl rfl rfl rfl rfl rfl (WL_cons rfl (WX_q rfl rfl (q_assign rfl rfl) (?_)))))))
      refine WL_nil (hK5 _ ?_)
      clear hK5 K5
      refine W_ret (fin_many rfl rfl rfl rfl (rcs_cons (rc_agg rfl ?_) (rcs_cons (rc_v ?_) rcs_nil)))
      all_goals clear hK2 K2
      all_goals (first | (rw [hO.1]; done) | (rw [hO.1]; rfl) | (rw [hO.2]; done) | (rw [hO.2]; rfl))
    · try rw [h2]
      try simp only [decide_eq_true_eq, decide_eq_false_iff_not, beq_iff_eq, bne_iff_ne, ne_eq, Bool.not_eq_true', Bool.not_eq_false', beq_eq_false_iff_ne, bne_eq_false_iff_eq, Bool.not_eq_true, Bool.not_eq_false, Int.not_lt, Int.not_le, gt_iff_lt, ge_iff_le, Bool.and_eq_true, Bool.and_eq_false_iff, Bool.or_eq_true, Bool.or_eq_false_iff] at h2
      refine W_seq (fun K6 hK6 => ?_)
      refine W_region (WL_cons rfl (WX_q rfl rfl (q_field_ptr G rfl rfl rfl rfl) (WL_cons rfl (WX_q rfl rfl (q_load_box G rfl rfl rfl rfl rfl rfl rfl) (WL_cons rfl (WX_q rfl rfl (q_cmp rfl rfl rfl rfl) (WL_cons rfl (WX_q rfl rfl (q_assign rfl rfl) (?_)))))))))
      refine WL_nil (hK6 _ ?_)
      clear hK6 K6
      refine W_cond rfl (fun h3 => ?_) (fun h3 => ?_)
      · try rw [h3]
        try simp only [decide_eq_true_eq, decide_eq_false_iff_not, beq_iff_eq, bne_iff_ne, ne_eq, Bool.not_eq_true', Bool.not_eq_false', beq_eq_false_iff_ne, bne_eq_false_iff_eq, Bool.not_eq_true, Bool.not_eq_false, Int.not_lt, Int.not_le, gt_iff_lt, ge_iff_le, Bool.and_eq_true, Bool.and_eq_false_iff, Bool.or_eq_true, Bool.or_eq_false_iff] at h3
        have hO := ap_n (x := x) (r := r) h1 h2 h3
        refine W_seq (fun K7 hK7 => ?_)
        refine W_region (WL_cons rfl (WX_q rfl rfl (q_load_box_struct G rfl rfl rfl rfl rfl rfl) (WL_cons rfl (WX_store G rfl rfl rfl rfl rfl rfl rfl rfl rfl rfl rfl (WL_cons rfl (WX_q rfl rfl (q_assign rfl rfl) (?_)))))))
        refine WL_nil (hK7 _ ?_)
        clear hK7 K7
        refine W_ret (fin_many rfl rfl rfl rfl (rcs_cons (rc_agg rfl ?_) (rcs_cons (rc_v ?_) rcs_nil)))
        all_goals clear hK2 K2
        all_goals (first | (rw [hO.1]; done) | (rw [hO.1]; rfl) | (rw [hO.2]; done) | (rw [hO.2]; rfl))
      · try rw [h3]
        try simp only [decide_eq_true_eq, decide_eq_false_iff_not, beq_iff_eq, bne_iff_ne, ne_eq, Bool.not_eq_true', Bool.not_eq_false', beq_eq_false_iff_ne, bne_eq_false_iff_eq, Bool.not_eq_true, Bool.not_eq_false, Int.not_lt, Int.not_le, gt_iff_lt, ge_iff_le, Bool.and_eq_true, Bool.and_eq_false_iff, Bool.or_eq_true, Bool.or_eq_false_iff] at h3
        have hz := okLg_ok (x := x) (by assumption)
        have hls := line_size (k := x.n) (x := r) (by omega) (by omega) (by assumption)
        have hO := ap_t (x := x) (r := r) h1 h2 h3
        refine W_skip (hK2 _ ?_)
        clear hK2 K2
        refine W_seq (fun K8 hK8 => ?_)
        refine W_drawsH 15 [0, 1] mixed (by kernel_rfl) rfl rfl (fun r0 => ?_) (fun _ h => h)
        refine WA_take 0 rfl (by kernel_rfl) (by kernel_rfl) rfl rfl rfl rfl (q_field_ptr G rfl rfl rfl rfl) (WA_take 1 rfl (by kernel_rfl) (by kernel_rfl) rfl rfl rfl rfl (q_load_box G rfl rfl rfl rfl rfl rfl rfl) (WA_take 2 rfl (by kernel_rfl) (by kernel_rfl) rfl rfl rfl rfl (q_field_ptr G rfl rfl rfl rfl) (WA_take 3 rfl (by kernel_rfl) (by kernel_rfl) rfl rfl rfl rfl (q_load_box G rfl rfl rfl rfl rfl rfl rfl) (WA_take 4 rfl (by kernel_rfl) (by kernel_rfl) rfl rfl rfl rfl (q_field_ptr G rfl rfl rfl rfl) (WA_take 5 rfl (by kernel_rfl) (by kernel_rfl) rfl rfl rfl rfl (q_load_box G rfl rfl rfl rfl rfl rfl rfl) (WA_take 6 rfl (by kernel_rfl) (by kernel_rfl) rfl rfl rfl rfl (q_load_box_struct G rfl rfl rfl rfl rfl rfl) (WA_take 9 rfl (by kernel_rfl) (by kernel_rfl) rfl rfl rfl rfl (q_field_ptr G rfl rfl rfl rfl) (WA_take 10 rfl (by kernel_rfl) (by kernel_rfl) rfl rfl rfl rfl (q_load_box G rfl rfl rfl rfl rfl rfl rfl) (?_)))))))))
        first | refine WA_take 11 rfl (by kernel_rfl) (by kernel_rfl) rfl rfl rfl rfl (q_arith rfl rfl rfl rfl (by omega) (by omega)) ?_ | refine WA_take 11 rfl (by kernel_rfl) (by kernel_rfl) rfl rfl rfl rfl (q_wrap rfl rfl rfl rfl) ?_
        refine WA_branch (rs := [7]) (by kernel_rfl) rfl (AllB.cons ?_ AllB.nil)
        refine WB_run [0, 1] rfl rfl (WX_q rfl rfl (q_call rfl (ArgsOK.of rfl) (c_impl_encodeRecord _ _ (by first | assumption | omega) (by first | assumption | omega) (by assumption)) rfl) (WL_nil ⟨rfl, ?_⟩))
        refine WA_take 8 rfl (by kernel_rfl) (by kernel_rfl) rfl rfl rfl rfl (q_cat rfl rfl rfl (by (try simp only [ByteArray.size_append, size_lit, List.size_toArray, List.length_cons, List.length_nil]); omega)) ?_
        refine WA_take 12 rfl (by kernel_rfl) (by kernel_rfl) rfl rfl rfl rfl (q_build G rfl rfl rfl rfl) (?_)
        refine WA_branch (rs := [13]) (by kernel_rfl) rfl (AllB.cons ?_ AllB.nil)
        refine WB_run [0, 1] rfl rfl (WX_store G rfl rfl rfl rfl rfl rfl rfl rfl rfl rfl rfl (WL_nil ⟨rfl, ?_⟩))
        refine WA_take 14 rfl (by kernel_rfl) (by kernel_rfl) rfl rfl rfl rfl (q_assign rfl rfl) (?_)
        refine WA_end (by kernel_rfl) (hK8 _ ?_)
        clear hK8 K8
        refine W_ret (fin_many rfl rfl rfl rfl (rcs_cons (rc_agg rfl ?_) (rcs_cons (rc_v ?_) rcs_nil)))
        all_goals (first | (rw [hO.1]; done) | (rw [hO.1]; rfl) | (rw [hO.2]; done) | (rw [hO.2]; rfl))

theorem c_laws_FnExactAppendRecord (x : Lg) (r : Rec) (h0 : x.d.size ≤ 9223372036854775807 ∧ x.p.size ≤ 9223372036854775807) (h2 : r.c.size ≤ 9223372036854775807 ∧ r.r.size ≤ 9223372036854775807) : Ctr Tryd.prog 8 [.v (encL x), .v (encR r)] (.one (.v (.bool true))) := by
  refine Ctr.of (n := 45) G Tryd.func8 rfl (by kernel_rfl) rfl rfl rfl (fun w0 => ?_)
  refine W_seq (fun K1 hK1 => ?_)
  refine W_region (WL_cons rfl (WX_box 1 rfl rfl rfl rfl rfl rfl rfl (WL_cons rfl (WX_box 2 rfl rfl rfl rfl rfl rfl rfl (WL_cons rfl (WX_q rfl rfl (q_assign rfl rfl) (?_)))))))
  refine WL_nil (hK1 _ ?_)
  clear hK1 K1
  refine W_seq (fun K2 hK2 => ?_)
  refine W_region (WL_cons rfl (WX_q rfl rfl (q_assign rfl rfl) (?_)))
  refine WL_nil (hK2 _ ?_)
  clear hK2 K2
  refine W_seq (fun K3 hK3 => ?_)
  refine W_region (WL_cons rfl (WX_q rfl rfl (q_load_box_struct G rfl rfl rfl rfl rfl rfl) (WL_cons rfl (WX_q rfl rfl (q_move rfl rfl) (WL_cons rfl (?_))))))
  refine WX_q rfl rfl (q_call rfl (ArgsOK.of rfl) (c_laws_szLog _ _ (by assumption) (by first | assumption | omega)) rfl) ?_
  refine WL_cons rfl (WX_q rfl rfl (q_assign rfl rfl) (?_))
  refine WL_nil (hK3 _ ?_)
  clear hK3 K3
  refine W_seq (fun K4 hK4 => ?_)
  refine W_seq (fun K5 hK5 => ?_)
  refine W_region (WL_cons rfl (WX_q rfl rfl (q_move rfl rfl) (WL_cons rfl (WX_q rfl rfl (q_cmp rfl rfl rfl rfl) (?_)))))
  refine WL_nil (hK5 _ ?_)
  clear hK5 K5
  refine W_cond rfl (fun h1 => ?_) (fun h1 => ?_)
  · try rw [h1]
    try simp only [decide_eq_true_eq, decide_eq_false_iff_not, beq_iff_eq, bne_iff_ne, ne_eq, Bool.not_eq_true', Bool.not_eq_false', beq_eq_false_iff_ne, bne_eq_false_iff_eq, Bool.not_eq_true, Bool.not_eq_false, Int.not_lt, Int.not_le, gt_iff_lt, ge_iff_le, Bool.and_eq_true, Bool.and_eq_false_iff, Bool.or_eq_true, Bool.or_eq_false_iff] at h1
    refine W_seq (fun K6 hK6 => ?_)
    refine W_region (WL_cons rfl (WX_q rfl rfl (q_assign rfl rfl) (?_)))
    refine WL_nil (hK6 _ ?_)
    clear hK6 K6
    refine W_ret (fin_one rfl (rc_v ?_))
    all_goals clear hK4 K4
    all_goals (first | rfl | (simp_all [eqL_self]; done))
  · try rw [h1]
    try simp only [decide_eq_true_eq, decide_eq_false_iff_not, beq_iff_eq, bne_iff_ne, ne_eq, Bool.not_eq_true', Bool.not_eq_false', beq_eq_false_iff_ne, bne_eq_false_iff_eq, Bool.not_eq_true, Bool.not_eq_false, Int.not_lt, Int.not_le, gt_iff_lt, ge_iff_le, Bool.and_eq_true, Bool.and_eq_false_iff, Bool.or_eq_true, Bool.or_eq_false_iff] at h1
    have hx : x.d.size + x.p.size ≤ 1048576 := by simp only [szL] at h1; split at h1 <;> (try split at h1) <;> omega
    have hsz : szL x 1048576 ≤ 1048576 := by simp only [szL]; split <;> (try split) <;> omega
    refine W_skip (hK4 _ ?_)
    clear hK4 K4
    refine W_seq (fun K7 hK7 => ?_)
    refine W_region (WL_cons rfl (WX_q rfl rfl (q_load_box_struct G rfl rfl rfl rfl rfl rfl) (WL_cons rfl (WX_q rfl rfl (q_move rfl rfl) (WL_cons rfl (?_))))))
    refine WX_q rfl rfl (q_call rfl (ArgsOK.of rfl) (c_laws_szLogRecord _ _ (by assumption) (by first | assumption | omega)) rfl) ?_
    refine WL_cons rfl (WX_q rfl rfl (q_assign rfl rfl) (?_))
    refine WL_nil (hK7 _ ?_)
    clear hK7 K7
    refine W_seq (fun K8 hK8 => ?_)
    refine W_seq (fun K9 hK9 => ?_)
    refine W_region (WL_cons rfl (WX_q rfl rfl (q_move rfl rfl) (WL_cons rfl (WX_q rfl rfl (q_cmp rfl rfl rfl rfl) (?_)))))
    refine WL_nil (hK9 _ ?_)
    clear hK9 K9
    refine W_cond rfl (fun h2 => ?_) (fun h2 => ?_)
    · try rw [h2]
      try simp only [decide_eq_true_eq, decide_eq_false_iff_not, beq_iff_eq, bne_iff_ne, ne_eq, Bool.not_eq_true', Bool.not_eq_false', beq_eq_false_iff_ne, bne_eq_false_iff_eq, Bool.not_eq_true, Bool.not_eq_false, Int.not_lt, Int.not_le, gt_iff_lt, ge_iff_le, Bool.and_eq_true, Bool.and_eq_false_iff, Bool.or_eq_true, Bool.or_eq_false_iff] at h2
      refine W_seq (fun K10 hK10 => ?_)
      refine W_region (WL_cons rfl (WX_q rfl rfl (q_assign rfl rfl) (?_)))
      refine WL_nil (hK10 _ ?_)
      clear hK10 K10
      refine W_ret (fin_one rfl (rc_v ?_))
      all_goals clear hK8 K8
      all_goals (first | rfl | (simp_all [eqL_self]; done))
    · try rw [h2]
      try simp only [decide_eq_true_eq, decide_eq_false_iff_not, beq_iff_eq, bne_iff_ne, ne_eq, Bool.not_eq_true', Bool.not_eq_false', beq_eq_false_iff_ne, bne_eq_false_iff_eq, Bool.not_eq_true, Bool.not_eq_false, Int.not_lt, Int.not_le, gt_iff_lt, ge_iff_le, Bool.and_eq_true, Bool.and_eq_false_iff, Bool.or_eq_true, Bool.or_eq_false_iff] at h2
      refine W_skip (hK8 _ ?_)
      clear hK8 K8
      refine W_seq (fun K11 hK11 => ?_)
      apply W_drawsJ [2, 3, 6, 7] [0, 1, 2] 3 11 [0, 1] mixed (by kernel_rfl) rfl rfl hK11
      · intro r0
        refine WA_take 0 rfl (by kernel_rfl) (by kernel_rfl) rfl rfl rfl rfl (q_load_box_struct G rfl rfl rfl rfl rfl rfl) (WA_take 2 rfl (by kernel_rfl) (by kernel_rfl) rfl rfl rfl rfl (q_load_box_struct G rfl rfl rfl rfl rfl rfl) (?_))
        refine WA_branch (rs := [1, 8]) (by kernel_rfl) rfl (AllB.cons ?_ (AllB.cons ?_ AllB.nil))
        · refine WB_run [0, 1] rfl rfl (WX_q rfl rfl (q_call rfl (ArgsOK.of rfl) (c_laws_toLog _) rfl) (WL_nil ⟨rfl, ?_⟩))
          refine WA_branch (rs := [3, 8]) (by kernel_rfl) rfl (AllB.cons ?_ (AllB.cons ?_ AllB.nil))
          · refine WB_run [0, 1] rfl rfl (WX_q rfl rfl (q_call rfl (ArgsOK.of rfl) (c_laws_toLogRecord _) rfl) (WL_nil ⟨rfl, ?_⟩))
            refine WA_branch (rs := [4, 8]) (by kernel_rfl) rfl (AllB.cons ?_ (AllB.cons ?_ AllB.nil))
            · refine WB_run [0, 1] rfl rfl (WX_q rfl rfl (q_call rfl (ArgsOK.of rfl) (c_spec_AppendRecord _ _ (by first | assumption | omega) (by assumption)) rfl) (WL_nil ⟨rfl, ?_⟩))
              refine WA_take 5 rfl (by kernel_rfl) (by kernel_rfl) rfl rfl rfl rfl (q_move rfl rfl) (WA_take 6 rfl (by kernel_rfl) (by kernel_rfl) rfl rfl rfl rfl (q_extract rfl rfl rfl) (WA_take 7 rfl (by kernel_rfl) (by kernel_rfl) rfl rfl rfl rfl (q_extract rfl rfl rfl) (?_)))
              refine WA_branch (rs := [8]) (by kernel_rfl) rfl (AllB.cons ?_ AllB.nil)
              refine WB_run [0, 1] rfl rfl (WX_alloc_s G 3 rfl rfl rfl rfl rfl (WL_nil ⟨rfl, ?_⟩))
              refine WA_branch (rs := [9]) (by kernel_rfl) rfl (AllB.cons ?_ AllB.nil)
              refine WB_run [0, 1] rfl rfl (WX_store G rfl rfl rfl rfl rfl rfl rfl rfl rfl rfl rfl (WL_nil ⟨rfl, ?_⟩))
              refine WA_take 10 rfl (by kernel_rfl) (by kernel_rfl) rfl rfl rfl rfl (q_assign rfl rfl) (?_)
              exact WA_end (by kernel_rfl) (Meet.mk rfl rfl rfl rfl)
            · refine WB_run [0, 1] rfl rfl (WX_alloc_s G 3 rfl rfl rfl rfl rfl (WL_nil ⟨rfl, ?_⟩))
              refine WA_branch (rs := [4]) (by kernel_rfl) rfl (AllB.cons ?_ AllB.nil)
              refine WB_run [0, 1] rfl rfl (WX_q rfl rfl (q_call rfl (ArgsOK.of rfl) (c_spec_AppendRecord _ _ (by first | assumption | omega) (by assumption)) rfl) (WL_nil ⟨rfl, ?_⟩))
              refine WA_take 5 rfl (by kernel_rfl) (by kernel_rfl) rfl rfl rfl rfl (q_move rfl rfl) (WA_take 6 rfl (by kernel_rfl) (by kernel_rfl) rfl rfl rfl rfl (q_extract rfl rfl rfl) (WA_take 7 rfl (by kernel_rfl) (by kernel_rfl) rfl rfl rfl rfl (q_extract rfl rfl rfl) (?_)))
              refine WA_branch (rs := [9]) (by kernel_rfl) rfl (AllB.cons ?_ AllB.nil)
              refine WB_run [0, 1] rfl rfl (WX_store G rfl rfl rfl rfl rfl rfl rfl rfl rfl rfl rfl (WL_nil ⟨rfl, ?_⟩))
              refine WA_take 10 rfl (by kernel_rfl) (by kernel_rfl) rfl rfl rfl rfl (q_assign rfl rfl) (?_)
              exact WA_end (by kernel_rfl) (Meet.mk rfl rfl rfl rfl)
          · refine WB_run [0, 1] rfl rfl (WX_alloc_s G 3 rfl rfl rfl rfl rfl (WL_nil ⟨rfl, ?_⟩))
            refine WA_branch (rs := [3]) (by kernel_rfl) rfl (AllB.cons ?_ AllB.nil)
            refine WB_run [0, 1] rfl rfl (WX_q rfl rfl (q_call rfl (ArgsOK.of rfl) (c_laws_toLogRecord _) rfl) (WL_nil ⟨rfl, ?_⟩))
            refine WA_branch (rs := [4]) (by kernel_rfl) rfl (AllB.cons ?_ AllB.nil)
            refine WB_run [0, 1] rfl rfl (WX_q rfl rfl (q_call rfl (ArgsOK.of rfl) (c_spec_AppendRecord _ _ (by first | assumption | omega) (by assumption)) rfl) (WL_nil ⟨rfl, ?_⟩))
            refine WA_take 5 rfl (by kernel_rfl) (by kernel_rfl) rfl rfl rfl rfl (q_move rfl rfl) (WA_take 6 rfl (by kernel_rfl) (by kernel_rfl) rfl rfl rfl rfl (q_extract rfl rfl rfl) (WA_take 7 rfl (by kernel_rfl) (by kernel_rfl) rfl rfl rfl rfl (q_extract rfl rfl rfl) (?_)))
            refine WA_branch (rs := [9]) (by kernel_rfl) rfl (AllB.cons ?_ AllB.nil)
            refine WB_run [0, 1] rfl rfl (WX_store G rfl rfl rfl rfl rfl rfl rfl rfl rfl rfl rfl (WL_nil ⟨rfl, ?_⟩))
            refine WA_take 10 rfl (by kernel_rfl) (by kernel_rfl) rfl rfl rfl rfl (q_assign rfl rfl) (?_)
            exact WA_end (by kernel_rfl) (Meet.mk rfl rfl rfl rfl)
        · refine WB_run [0, 1] rfl rfl (WX_alloc_s G 3 rfl rfl rfl rfl rfl (WL_nil ⟨rfl, ?_⟩))
          refine WA_branch (rs := [1]) (by kernel_rfl) rfl (AllB.cons ?_ AllB.nil)
          refine WB_run [0, 1] rfl rfl (WX_q rfl rfl (q_call rfl (ArgsOK.of rfl) (c_laws_toLog _) rfl) (WL_nil ⟨rfl, ?_⟩))
          refine WA_branch (rs := [3]) (by kernel_rfl) rfl (AllB.cons ?_ AllB.nil)
          refine WB_run [0, 1] rfl rfl (WX_q rfl rfl (q_call rfl (ArgsOK.of rfl) (c_laws_toLogRecord _) rfl) (WL_nil ⟨rfl, ?_⟩))
          refine WA_branch (rs := [4]) (by kernel_rfl) rfl (AllB.cons ?_ AllB.nil)
          refine WB_run [0, 1] rfl rfl (WX_q rfl rfl (q_call rfl (ArgsOK.of rfl) (c_spec_AppendRecord _ _ (by first | assumption | omega) (by assumption)) rfl) (WL_nil ⟨rfl, ?_⟩))
          refine WA_take 5 rfl (by kernel_rfl) (by kernel_rfl) rfl rfl rfl rfl (q_move rfl rfl) (WA_take 6 rfl (by kernel_rfl) (by kernel_rfl) rfl rfl rfl rfl (q_extract rfl rfl rfl) (WA_take 7 rfl (by kernel_rfl) (by kernel_rfl) rfl rfl rfl rfl (q_extract rfl rfl rfl) (?_)))
          refine WA_branch (rs := [9]) (by kernel_rfl) rfl (AllB.cons ?_ AllB.nil)
          refine WB_run [0, 1] rfl rfl (WX_store G rfl rfl rfl rfl rfl rfl rfl rfl rfl rfl rfl (WL_nil ⟨rfl, ?_⟩))
          refine WA_take 10 rfl (by kernel_rfl) (by kernel_rfl) rfl rfl rfl rfl (q_assign rfl rfl) (?_)
          exact WA_end (by kernel_rfl) (Meet.mk rfl rfl rfl rfl)
      · clear hK11 K11
        refine W_seq (fun K12 hK12 => ?_)
        apply W_drawsJ [6, 7, 8, 9] [0, 1, 2, 3] 4 11 [0, 1, 2] mixed (by kernel_rfl) rfl rfl hK12
        · intro r0
          refine WA_take 0 rfl (by kernel_rfl) (by kernel_rfl) rfl rfl rfl rfl (q_load_box_struct G rfl rfl rfl rfl rfl rfl) (WA_take 2 rfl (by kernel_rfl) (by kernel_rfl) rfl rfl rfl rfl (q_load_box_struct G rfl rfl rfl rfl rfl rfl) (?_))
          refine WA_branch (rs := [1, 8]) (by kernel_rfl) rfl (AllB.cons ?_ (AllB.cons ?_ AllB.nil))
          · refine WB_run [0, 1, 2] rfl rfl (WX_q rfl rfl (q_call rfl (ArgsOK.of rfl) (c_laws_toLog _) rfl) (WL_nil ⟨rfl, ?_⟩))
            refine WA_branch (rs := [3, 8]) (by kernel_rfl) rfl (AllB.cons ?_ (AllB.cons ?_ AllB.nil))
            · refine WB_run [0, 1, 2] rfl rfl (WX_q rfl rfl (q_call rfl (ArgsOK.of rfl) (c_laws_toLogRecord _) rfl) (WL_nil ⟨rfl, ?_⟩))
              refine WA_branch (rs := [4, 8]) (by kernel_rfl) rfl (AllB.cons ?_ (AllB.cons ?_ AllB.nil))
              · refine WB_run [0, 1, 2] rfl rfl (WX_q rfl rfl (q_call rfl (ArgsOK.of rfl) (c_impl_AppendRecord _ _ (by first | assumption | omega) (by assumption)) rfl) (WL_nil ⟨rfl, ?_⟩))
                refine WA_take 5 rfl (by kernel_rfl) (by kernel_rfl) rfl rfl rfl rfl (q_move rfl rfl) (WA_take 6 rfl (by kernel_rfl) (by kernel_rfl) rfl rfl rfl rfl (q_extract rfl rfl rfl) (WA_take 7 rfl (by kernel_rfl) (by kernel_rfl) rfl rfl rfl rfl (q_extract rfl rfl rfl) (?_)))
                refine WA_branch (rs := [8]) (by kernel_rfl) rfl (AllB.cons ?_ AllB.nil)
                refine WB_run [0, 1, 2] rfl rfl (WX_alloc_s G 4 rfl rfl rfl rfl rfl (WL_nil ⟨rfl, ?_⟩))
                refine WA_branch (rs := [9]) (by kernel_rfl) rfl (AllB.cons ?_ AllB.nil)
                refine WB_run [0, 1, 2] rfl rfl (WX_store G rfl rfl rfl rfl rfl rfl rfl rfl rfl rfl rfl (WL_nil ⟨rfl, ?_⟩))
                refine WA_take 10 rfl (by kernel_rfl) (by kernel_rfl) rfl rfl rfl rfl (q_assign rfl rfl) (?_)
                exact WA_end (by kernel_rfl) (Meet.mk rfl rfl rfl rfl)
              · refine WB_run [0, 1, 2] rfl rfl (WX_alloc_s G 4 rfl rfl rfl rfl rfl (WL_nil ⟨rfl, ?_⟩))
                refine WA_branch (rs := [4]) (by kernel_rfl) rfl (AllB.cons ?_ AllB.nil)
                refine WB_run [0, 1, 2] rfl rfl (WX_q rfl rfl (q_call rfl (ArgsOK.of rfl) (c_impl_AppendRecord _ _ (by first | assumption | omega) (by assumption)) rfl) (WL_nil ⟨rfl, ?_⟩))
                refine WA_take 5 rfl (by kernel_rfl) (by kernel_rfl) rfl rfl rfl rfl (q_move rfl rfl) (WA_take 6 rfl (by kernel_rfl) (by kernel_rfl) rfl rfl rfl rfl (q_extract rfl rfl rfl) (WA_take 7 rfl (by kernel_rfl) (by kernel_rfl) rfl rfl rfl rfl (q_extract rfl rfl rfl) (?_)))
                refine WA_branch (rs := [9]) (by kernel_rfl) rfl (AllB.cons ?_ AllB.nil)
                refine WB_run [0, 1, 2] rfl rfl (WX_store G rfl rfl rfl rfl rfl rfl rfl rfl rfl rfl rfl (WL_nil ⟨rfl, ?_⟩))
                refine WA_take 10 rfl (by kernel_rfl) (by kernel_rfl) rfl rfl rfl rfl (q_assign rfl rfl) (?_)
                exact WA_end (by kernel_rfl) (Meet.mk rfl rfl rfl rfl)
            · refine WB_run [0, 1, 2] rfl rfl (WX_alloc_s G 4 rfl rfl rfl rfl rfl (WL_nil ⟨rfl, ?_⟩))
              refine WA_branch (rs := [3]) (by kernel_rfl) rfl (AllB.cons ?_ AllB.nil)
              refine WB_run [0, 1, 2] rfl rfl (WX_q rfl rfl (q_call rfl (ArgsOK.of rfl) (c_laws_toLogRecord _) rfl) (WL_nil ⟨rfl, ?_⟩))
              refine WA_branch (rs := [4]) (by kernel_rfl) rfl (AllB.cons ?_ AllB.nil)
              refine WB_run [0, 1, 2] rfl rfl (WX_q rfl rfl (q_call rfl (ArgsOK.of rfl) (c_impl_AppendRecord _ _ (by first | assumption | omega) (by assumption)) rfl) (WL_nil ⟨rfl, ?_⟩))
              refine WA_take 5 rfl (by kernel_rfl) (by kernel_rfl) rfl rfl rfl rfl (q_move rfl rfl) (WA_take 6 rfl (by kernel_rfl) (by kernel_rfl) rfl rfl rfl rfl (q_extract rfl rfl rfl) (WA_take 7 rfl (by kernel_rfl) (by kernel_rfl) rfl rfl rfl rfl (q_extract rfl rfl rfl) (?_)))
              refine WA_branch (rs := [9]) (by kernel_rfl) rfl (AllB.cons ?_ AllB.nil)
              refine WB_run [0, 1, 2] rfl rfl (WX_store G rfl rfl rfl rfl rfl rfl rfl rfl rfl rfl rfl (WL_nil ⟨rfl, ?_⟩))
              refine WA_take 10 rfl (by kernel_rfl) (by kernel_rfl) rfl rfl rfl rfl (q_assign rfl rfl) (?_)
              exact WA_end (by kernel_rfl) (Meet.mk rfl rfl rfl rfl)
          · refine WB_run [0, 1, 2] rfl rfl (WX_alloc_s G 4 rfl rfl rfl rfl rfl (WL_nil ⟨rfl, ?_⟩))
            refine WA_branch (rs := [1]) (by kernel_rfl) rfl (AllB.cons ?_ AllB.nil)
            refine WB_run [0, 1, 2] rfl rfl (WX_q rfl rfl (q_call rfl (ArgsOK.of rfl) (c_laws_toLog _) rfl) (WL_nil ⟨rfl, ?_⟩))
            refine WA_branch (rs := [3]) (by kernel_rfl) rfl (AllB.cons ?_ AllB.nil)
            refine WB_run [0, 1, 2] rfl rfl (WX_q rfl rfl (q_call rfl (ArgsOK.of rfl) (c_laws_toLogRecord _) rfl) (WL_nil ⟨rfl, ?_⟩))
            refine WA_branch (rs := [4]) (by kernel_rfl) rfl (AllB.cons ?_ AllB.nil)
            refine WB_run [0, 1, 2] rfl rfl (WX_q rfl rfl (q_call rfl (ArgsOK.of rfl) (c_impl_AppendRecord _ _ (by first | assumption | omega) (by assumption)) rfl) (WL_nil ⟨rfl, ?_⟩))
            refine WA_take 5 rfl (by kernel_rfl) (by kernel_rfl) rfl rfl rfl rfl (q_move rfl rfl) (WA_take 6 rfl (by kernel_rfl) (by kernel_rfl) rfl rfl rfl rfl (q_extract rfl rfl rfl) (WA_take 7 rfl (by kernel_rfl) (by kernel_rfl) rfl rfl rfl rfl (q_extract rfl rfl rfl) (?_)))
            refine WA_branch (rs := [9]) (by kernel_rfl) rfl (AllB.cons ?_ AllB.nil)
            refine WB_run [0, 1, 2] rfl rfl (WX_store G rfl rfl rfl rfl rfl rfl rfl rfl rfl rfl rfl (WL_nil ⟨rfl, ?_⟩))
            refine WA_take 10 rfl (by kernel_rfl) (by kernel_rfl) rfl rfl rfl rfl (q_assign rfl rfl) (?_)
            exact WA_end (by kernel_rfl) (Meet.mk rfl rfl rfl rfl)
        · clear hK12 K12
          refine W_seq (fun K13 hK13 => ?_)
          refine W_seq (fun K14 hK14 => ?_)
          refine W_region (WL_cons rfl (WX_q rfl rfl (q_load_box_struct G rfl rfl rfl rfl rfl rfl) (WL_cons rfl (WX_q rfl rfl (q_load_box_struct G rfl rfl rfl rfl rfl rfl) (WL_cons rfl (?_))))))
          refine WX_q rfl rfl (q_call rfl (ArgsOK.of rfl) (c_laws_eqLog _ _) rfl) ?_
          refine WL_cons rfl (WX_q rfl rfl (q_not rfl rfl) (WL_cons rfl (WX_q rfl rfl (q_move rfl rfl) (WL_part rfl rfl rfl (fun h3 => ?_) (fun h3 => ?_)))))
          · try rw [h3]
            try simp only [decide_eq_true_eq, decide_eq_false_iff_not, beq_iff_eq, bne_iff_ne, ne_eq, Bool.not_eq_true', Bool.not_eq_false', beq_eq_false_iff_ne, bne_eq_false_iff_eq, Bool.not_eq_true, Bool.not_eq_false, Int.not_lt, Int.not_le, gt_iff_lt, ge_iff_le, Bool.and_eq_true, Bool.and_eq_false_iff, Bool.or_eq_true, Bool.or_eq_false_iff] at h3
            refine WL_skip rfl rfl rfl rfl rfl rfl (WL_skip rfl rfl rfl rfl rfl rfl (WL_skip rfl rfl rfl rfl rfl rfl (WL_cons rfl (WX_q rfl rfl (q_pick_t rfl rfl rfl) (?_)))))
            refine WL_nil (hK14 _ ?_)
            clear hK14 K14
            refine W_true rfl ?_
            refine W_seq (fun K15 hK15 => ?_)
            refine W_region (WL_cons rfl (WX_q rfl rfl (q_assign rfl rfl) (?_)))
            refine WL_nil (hK15 _ ?_)
            clear hK15 K15
            refine W_ret (fin_one rfl (rc_v ?_))
            all_goals clear hK13 K13
            all_goals (first | rfl | (simp_all [eqL_self]; done))
          · try rw [h3]
            try simp only [decide_eq_true_eq, decide_eq_false_iff_not, beq_iff_eq, bne_iff_ne, ne_eq, Bool.not_eq_true', Bool.not_eq_false', beq_eq_false_iff_ne, bne_eq_false_iff_eq, Bool.not_eq_true, Bool.not_eq_false, Int.not_lt, Int.not_le, gt_iff_lt, ge_iff_le, Bool.and_eq_true, Bool.and_eq_false_iff, Bool.or_eq_true, Bool.or_eq_false_iff] at h3
            refine WL_run rfl rfl rfl (WX_q rfl rfl (q_move rfl rfl) (WL_run rfl rfl rfl (WX_q rfl rfl (q_move rfl rfl) (WL_run rfl rfl rfl (WX_q rfl rfl (q_cmp rfl rfl rfl rfl) (WL_cons rfl (WX_q rfl rfl (q_pick_f rfl rfl rfl) (?_))))))))
            refine WL_nil (hK14 _ ?_)
            clear hK14 K14
            refine W_cond rfl (fun h4 => ?_) (fun h4 => ?_)
            · try rw [h4]
              try simp only [decide_eq_true_eq, decide_eq_false_iff_not, beq_iff_eq, bne_iff_ne, ne_eq, Bool.not_eq_true', Bool.not_eq_false', beq_eq_false_iff_ne, bne_eq_false_iff_eq, Bool.not_eq_true, Bool.not_eq_false, Int.not_lt, Int.not_le, gt_iff_lt, ge_iff_le, Bool.and_eq_true, Bool.and_eq_false_iff, Bool.or_eq_true, Bool.or_eq_false_iff] at h4
              refine W_seq (fun K16 hK16 => ?_)
              refine W_region (WL_cons rfl (WX_q rfl rfl (q_assign rfl rfl) (?_)))
              refine WL_nil (hK16 _ ?_)
              clear hK16 K16
              refine W_ret (fin_one rfl (rc_v ?_))
              all_goals clear hK13 K13
              all_goals (first | rfl | (simp_all [eqL_self]; done))
            · try rw [h4]
              try simp only [decide_eq_true_eq, decide_eq_false_iff_not, beq_iff_eq, bne_iff_ne, ne_eq, Bool.not_eq_true', Bool.not_eq_false', beq_eq_false_iff_ne, bne_eq_false_iff_eq, Bool.not_eq_true, Bool.not_eq_false, Int.not_lt, Int.not_le, gt_iff_lt, ge_iff_le, Bool.and_eq_true, Bool.and_eq_false_iff, Bool.or_eq_true, Bool.or_eq_false_iff] at h4
              refine W_skip (hK13 _ ?_)
              clear hK13 K13
              refine W_seq (fun K17 hK17 => ?_)
              refine W_region (WL_cons rfl (WX_q rfl rfl (q_assign rfl rfl) (?_)))
              refine WL_nil (hK17 _ ?_)
              clear hK17 K17
              refine W_ret (fin_one rfl (rc_v ?_))
              all_goals (first | rfl | (simp_all [eqL_self]; done))

end Go.Proofs.YthpllgbaeokeiaaDoor

/- Walks through functions of the program, one contract each (written by gen.py). -/
set_option maxRecDepth 20000
set_option linter.unusedVariables false
set_option linter.unusedSimpArgs false
namespace Go.Proofs.YthpllgbaeokeiaaDoor
open Go Go.Rf

theorem c_spec_l1Cur_log (x : Cur) (h0 : 0 ≤ x.a ∧ x.a ≤ 4611686018427370000) (hc : bytesOK x.c) : CtrM Tryd.prog 59 [.ptr 0 0] [.box [.lst 1 (x.c.map encU), .v (.int .i64 x.a), .v (.int .u64 x.s)]] (.one (.v (encL (lgN x (pkV x 7).toNat).1))) [some (.box [.lst 1 ((lgN x (pkV x 7).toNat).2.c.map encU), .v (.int .i64 (lgN x (pkV x 7).toNat).2.a), .v (.int .u64 (lgN x (pkV x 7).toNat).2.s)])] := by
  have hp := pk_in (x := x) (n := 7) hc
  refine CtrM.of (n := 27) (k := 1) G Tryd.func59 rfl (by kernel_rfl) rfl rfl rfl rfl rfl rfl rfl (fun w0 _ hpin => ?_)
  refine W_seq (fun K1 hK1 => ?_)
  refine W_region (WL_cons rfl (WX_alloc_s G 2 rfl rfl rfl rfl rfl (?_)))
  refine WL_nil (hK1 _ ?_)
  clear hK1 K1
  refine W_seq (fun K2 hK2 => ?_)
  refine W_region (WL_cons rfl (WX_q rfl rfl (q_build G rfl rfl rfl rfl) (WL_cons rfl (WX_alloc_s G 3 rfl rfl rfl rfl rfl (WL_cons rfl (WX_store G rfl rfl rfl rfl rfl rfl rfl rfl rfl rfl rfl (?_)))))))
  refine WL_nil (hK2 _ ?_)
  clear hK2 K2
  refine W_seq (fun K3 hK3 => ?_)
  refine W_seq (fun K4 hK4 => ?_)
  refine W_region (WL_cons rfl (WX_q rfl rfl (q_move rfl rfl) (WL_cons rfl (?_))))
  refine WX_callm 3 [0] rfl rfl rfl (c_spec_l1Cur_pick x 7 (by omega) hc) rfl (RowsIn.cons rfl RowsIn.nil) rfl rfl rfl ?_
  refine WL_cons rfl (WX_q rfl rfl (q_assign rfl rfl) (?_))
  refine WL_nil (hK4 _ ?_)
  clear hK4 K4
  refine W_block ?_
  refine W_loopK [0, 2, 3] [1] (fun (k : Nat) => [(4, .v (.int .i64 (pkV x 7 - k)))]) (fun (k : Nat) => [(0, some (.box [.lst 1 ((lgN x k).2.c.map encU), .v (.int .i64 (lgN x k).2.a), .v (.int .u64 (lgN x k).2.s)])), (2, some (.box [.v (.string (lgN x k).1.d), .v (.string (lgN x k).1.p), .v (.int .i64 (lgN x k).1.n)]))]) (fun (k : Nat) => (k : Int) ≤ pkV x 7) (fun (k : Nat) => (pkV x 7).toNat - k) 0 rfl rfl ?_ ?_ ?_ ?_
  · exact hp.1
  · exact ⟨⟨_, rfl, by (first | rfl | (rw [Int.ofNat_zero, Int.sub_zero]) | simp)⟩, rfl, trivial⟩
  · exact ⟨⟨_, rfl, by rfl⟩, rfl, rfl, ⟨⟨_, rfl, by rfl⟩, rfl, rfl, trivial⟩⟩
  · intro k hinv
    have hok := lgN_ok (x := x) (k := k)
    have h20 := drR_20 (x := (lgN x k).2)
    have hdc := drC_at (x := (lgN x k).2)
    have has := apE_size (l := (lgN x k).1) (r := drR (lgN x k).2)
    have hcc : bytesOK (lgN x k).2.c := (by rw [hok.2.1]; exact hc)
    have hcd : bytesOK (drC (lgN x k).2).c := (by rw [hdc.1]; exact hcc)
    simp only [List.cons_append, List.nil_append]
    refine W_seq (fun K5 hK5 => ?_)
    refine W_seq (fun K6 hK6 => ?_)
    refine W_region (WL_cons rfl (WX_q rfl rfl (q_move rfl rfl) (WL_cons rfl (WX_q rfl rfl (q_cmp rfl rfl rfl rfl) (?_)))))
    refine WL_nil (hK6 _ ?_)
    clear hK6 K6
    refine W_cond rfl (fun h1 => ?_) (fun h1 => ?_)
    · try rw [h1]
      try simp only [decide_eq_true_eq, decide_eq_false_iff_not, beq_iff_eq, bne_iff_ne, ne_eq, Bool.not_eq_true', Bool.not_eq_false', beq_eq_false_iff_ne, bne_eq_false_iff_eq, Bool.not_eq_true, Bool.not_eq_false, Int.not_lt, Int.not_le, gt_iff_lt, ge_iff_le, Bool.and_eq_true, Bool.and_eq_false_iff, Bool.or_eq_true, Bool.or_eq_false_iff] at h1
      refine W_skip (hK5 _ ?_)
      clear hK5 K5
      refine W_seq (fun K7 hK7 => ?_)
      refine W_block ?_
      refine W_seq (fun K8 hK8 => ?_)
      apply W_drawsJ [0, 2, 3, 4] [0, 1, 2] 3 8 [1] mixed (by kernel_rfl) rfl rfl hK8
      · intro r0
        refine WA_take 1 rfl (by kernel_rfl) (by kernel_rfl) rfl rfl rfl rfl (q_move rfl rfl) (?_)
        refine WA_branch (rs := [0, 2]) (by kernel_rfl) rfl (AllB.cons ?_ (AllB.cons ?_ AllB.nil))
        · refine WB_run [1] rfl rfl (WX_q rfl rfl (q_load_box_struct G rfl rfl rfl rfl rfl rfl) (WL_nil ⟨rfl, ?_⟩))
          refine WA_branch (rs := [2]) (by kernel_rfl) rfl (AllB.cons ?_ AllB.nil)
          refine WB_run [1] rfl rfl (WX_callm 3 [0] rfl rfl rfl (c_spec_l1Cur_logRecord (lgN x k).2 (by omega) hcc) rfl (RowsIn.cons rfl RowsIn.nil) rfl rfl rfl (WL_nil ⟨rfl, ?_⟩))
          refine WA_branch (rs := [3]) (by kernel_rfl) rfl (AllB.cons ?_ AllB.nil)
          refine WB_run [1] rfl rfl (WX_q rfl rfl (q_call rfl (ArgsOK.of rfl) (c_spec_AppendRecord (lgN x k).1 (drR (lgN x k).2) (by omega) (by omega)) rfl) (WL_nil ⟨rfl, ?_⟩))
          refine WA_take 4 rfl (by kernel_rfl) (by kernel_rfl) rfl rfl rfl rfl (q_move rfl rfl) (WA_take 5 rfl (by kernel_rfl) (by kernel_rfl) rfl rfl rfl rfl (q_extract rfl rfl rfl) (WA_take 6 rfl (by kernel_rfl) (by kernel_rfl) rfl rfl rfl rfl (q_extract rfl rfl rfl) (?_)))
          refine WA_branch (rs := [7]) (by kernel_rfl) rfl (AllB.cons ?_ AllB.nil)
          refine WB_run [1] rfl rfl (WX_store G rfl rfl rfl rfl rfl rfl rfl rfl rfl rfl rfl (WL_nil ⟨rfl, ?_⟩))
          exact WA_end (by kernel_rfl) (Meet.mk rfl rfl rfl rfl)
        · refine WB_run [1] rfl rfl (WX_callm 3 [0] rfl rfl rfl (c_spec_l1Cur_logRecord (lgN x k).2 (by omega) hcc) rfl (RowsIn.cons rfl RowsIn.nil) rfl rfl rfl (WL_nil ⟨rfl, ?_⟩))
          refine WA_branch (rs := [0]) (by kernel_rfl) rfl (AllB.cons ?_ AllB.nil)
          refine WB_run [1] rfl rfl (WX_q rfl rfl (q_load_box_struct G rfl rfl rfl rfl rfl rfl) (WL_nil ⟨rfl, ?_⟩))
          refine WA_branch (rs := [3]) (by kernel_rfl) rfl (AllB.cons ?_ AllB.nil)
          refine WB_run [1] rfl rfl (WX_q rfl rfl (q_call rfl (ArgsOK.of rfl) (c_spec_AppendRecord (lgN x k).1 (drR (lgN x k).2) (by omega) (by omega)) rfl) (WL_nil ⟨rfl, ?_⟩))
          refine WA_take 4 rfl (by kernel_rfl) (by kernel_rfl) rfl rfl rfl rfl (q_move rfl rfl) (WA_take 5 rfl (by kernel_rfl) (by kernel_rfl) rfl rfl rfl rfl (q_extract rfl rfl rfl) (WA_take 6 rfl (by kernel_rfl) (by kernel_rfl) rfl rfl rfl rfl (q_extract rfl rfl rfl) (?_)))
          refine WA_branch (rs := [7]) (by kernel_rfl) rfl (AllB.cons ?_ AllB.nil)
          refine WB_run [1] rfl rfl (WX_store G rfl rfl rfl rfl rfl rfl rfl rfl rfl rfl rfl (WL_nil ⟨rfl, ?_⟩))
          exact WA_end (by kernel_rfl) (Meet.mk rfl rfl rfl rfl)
      · clear hK8 K8
        refine W_seq (fun K9 hK9 => ?_)
        refine W_region (WL_cons rfl (WX_q rfl rfl (q_move rfl rfl) (WL_cons rfl (?_))))
        refine WX_callm 3 [0] rfl rfl rfl (c_spec_l1Cur_one (drC (lgN x k).2) 4 (by omega) hcd) rfl (RowsIn.cons rfl RowsIn.nil) rfl rfl rfl ?_
        refine WL_nil (hK9 _ ?_)
        clear hK9 K9
        refine W_cond rfl (fun h2 => ?_) (fun h2 => ?_)
        · try rw [h2]
          try simp only [decide_eq_true_eq, decide_eq_false_iff_not, beq_iff_eq, bne_iff_ne, ne_eq, Bool.not_eq_true', Bool.not_eq_false', beq_eq_false_iff_ne, bne_eq_false_iff_eq, Bool.not_eq_true, Bool.not_eq_false, Int.not_lt, Int.not_le, gt_iff_lt, ge_iff_le, Bool.and_eq_true, Bool.and_eq_false_iff, Bool.or_eq_true, Bool.or_eq_false_iff] at h2
          have hs := lgN_t h2
          refine W_region (WL_cons rfl (WX_q rfl rfl (q_load_box_struct G rfl rfl rfl rfl rfl rfl) (WL_cons rfl (?_))))
          refine WX_q rfl rfl (q_call rfl (ArgsOK.of rfl) (c_spec_SyncLog (apE (lgN x k).1 (drR (lgN x k).2)) (by omega)) rfl) ?_
          refine WL_cons rfl (WX_q rfl rfl (q_move rfl rfl) (WL_cons rfl (WX_q rfl rfl (q_extract rfl rfl rfl) (WL_cons rfl (WX_q rfl rfl (q_extract rfl rfl rfl) (WL_cons rfl (WX_store G rfl rfl rfl rfl rfl rfl rfl rfl rfl rfl rfl (?_))))))))
          refine WL_nil (hK7 _ ?_)
          clear hK7 K7
          refine W_region (WL_cons rfl (WX_q rfl rfl (q_move rfl rfl) (WL_cons rfl (?_))))
          first | refine WX_q rfl rfl (q_arith rfl rfl rfl rfl (by omega) (by omega)) ?_ | refine WX_q rfl rfl (q_wrap rfl rfl rfl rfl) ?_
          refine WL_cons rfl (WX_q rfl rfl (q_assign rfl rfl) (?_))
          refine WL_nil ⟨(k + 1), ?_, ?_, ⟨⟨_, rfl, by (congr 2; omega)⟩, rfl, trivial⟩, ⟨⟨_, rfl, by (first | (rw [hs]; done) | (rw [hs]; rfl))⟩, rfl, rfl, ⟨⟨_, rfl, by (first | (rw [hs]; done) | (rw [hs]; rfl))⟩, rfl, rfl, trivial⟩⟩, rfl, rfl, rfl⟩
          · omega
          · omega
        · try rw [h2]
          try simp only [decide_eq_true_eq, decide_eq_false_iff_not, beq_iff_eq, bne_iff_ne, ne_eq, Bool.not_eq_true', Bool.not_eq_false', beq_eq_false_iff_ne, bne_eq_false_iff_eq, Bool.not_eq_true, Bool.not_eq_false, Int.not_lt, Int.not_le, gt_iff_lt, ge_iff_le, Bool.and_eq_true, Bool.and_eq_false_iff, Bool.or_eq_true, Bool.or_eq_false_iff] at h2
          have hs := lgN_f h2
          refine W_skip (hK7 _ ?_)
          clear hK7 K7
          refine W_region (WL_cons rfl (WX_q rfl rfl (q_move rfl rfl) (WL_cons rfl (?_))))
          first | refine WX_q rfl rfl (q_arith rfl rfl rfl rfl (by omega) (by omega)) ?_ | refine WX_q rfl rfl (q_wrap rfl rfl rfl rfl) ?_
          refine WL_cons rfl (WX_q rfl rfl (q_assign rfl rfl) (?_))
          refine WL_nil ⟨(k + 1), ?_, ?_, ⟨⟨_, rfl, by (congr 2; omega)⟩, rfl, trivial⟩, ⟨⟨_, rfl, by (first | (rw [hs]; done) | (rw [hs]; rfl))⟩, rfl, rfl, ⟨⟨_, rfl, by (first | (rw [hs]; done) | (rw [hs]; rfl))⟩, rfl, rfl, trivial⟩⟩, rfl, rfl, rfl⟩
          · omega
          · omega
    · try rw [h1]
      try simp only [decide_eq_true_eq, decide_eq_false_iff_not, beq_iff_eq, bne_iff_ne, ne_eq, Bool.not_eq_true', Bool.not_eq_false', beq_eq_false_iff_ne, bne_eq_false_iff_eq, Bool.not_eq_true, Bool.not_eq_false, Int.not_lt, Int.not_le, gt_iff_lt, ge_iff_le, Bool.and_eq_true, Bool.and_eq_false_iff, Bool.or_eq_true, Bool.or_eq_false_iff] at h1
      refine W_exit (hK3 _ ?_)
      clear hK5 K5 hK3 K3
      refine W_seq (fun K10 hK10 => ?_)
      refine W_region (WL_cons rfl (WX_q rfl rfl (q_load_box_struct G rfl rfl rfl rfl rfl rfl) (WL_cons rfl (WX_store G rfl rfl rfl rfl rfl rfl rfl rfl rfl rfl rfl (?_)))))
      refine WL_nil (hK10 _ ?_)
      clear hK10 K10
      refine W_ret (finm_one rfl (rc_agg rfl ?_) rfl (AftOK.stays rfl ?_ rfl AftOK.nil))
      all_goals ((have e : k = (pkV x 7).toNat := (by omega); subst e; rfl))

end Go.Proofs.YthpllgbaeokeiaaDoor

/- Walks through functions of the program, one contract each (written by gen.py). -/
set_option maxRecDepth 20000
set_option linter.unusedVariables false
set_option linter.unusedSimpArgs false
namespace Go.Proofs.YthpllgbaeokeiaaDoor
open Go Go.Rf

theorem c_spec_l1Cur_spoilt (x : Cur) (t w : ByteArray) (ht : t.size ≤ 1048576) (hw : 1 ≤ w.size ∧ w.size ≤ 1048576) (h0 : 0 ≤ x.a ∧ x.a ≤ 4611686018427380000) (hc : bytesOK x.c) : CtrM Tryd.prog 60 [.ptr 0 0, .v (.string t), .v (.string w)] [.box [.lst 1 (x.c.map encU), .v (.int .i64 x.a), .v (.int .u64 x.s)]] (.one (.v (.string (spV x t w)))) [some (.box [.lst 1 ((spC x t w).c.map encU), .v (.int .i64 (spC x t w).a), .v (.int .u64 (spC x t w).s)])] := by
  have hc1 : bytesOK (sp1 x t).c := bytes_pk hc
  have hc2 : bytesOK (sp2 x t w).c := bytes_pk hc1
  have hp1 := pk_in (x := x) (n := t.size) hc
  have hp2 := pk_in (x := sp1 x t) (n := w.size) hc1
  have ha1 : x.a ≤ (sp1 x t).a ∧ (sp1 x t).a ≤ x.a + 2 := pk_c.2
  have ha2 : (sp1 x t).a ≤ (sp2 x t w).a ∧ (sp2 x t w).a ≤ (sp1 x t).a + 2 := pk_c.2
  have hwz : (w.extract (pkV (sp1 x t) w.size).toNat ((w.size : Int)).toNat).size = w.size - (pkV (sp1 x t) w.size).toNat := (by rw [show ((w.size : Int)).toNat = w.size from rfl, size_ext (Nat.le_refl _)])
  have e1 : (t.extract ((0 : Int)).toNat (pkV x t.size).toNat).size ≤ t.size := ext_le
  have e2 : (t.extract (pkV x t.size).toNat ((t.size : Int)).toNat).size ≤ t.size := ext_le
  have e3 : (t.extract (pkV x t.size + 1).toNat ((t.size : Int)).toNat).size ≤ t.size := ext_le
  have e4 : ((w.extract (pkV (sp1 x t) w.size).toNat ((w.size : Int)).toNat).extract ((0 : Int)).toNat ((1 : Int)).toNat).size ≤ (w.extract (pkV (sp1 x t) w.size).toNat ((w.size : Int)).toNat).size := ext_le
  refine CtrM.of (n := 57) (k := 1) G Tryd.func60 rfl (by kernel_rfl) rfl rfl rfl rfl rfl rfl rfl (fun w0 _ hpin => ?_)
  refine W_seq (fun K1 hK1 => ?_)
  refine W_region (WL_cons rfl (WX_q rfl rfl (q_assign rfl rfl) (?_)))
  refine WL_nil (hK1 _ ?_)
  clear hK1 K1
  refine W_seq (fun K2 hK2 => ?_)
  refine W_seq (fun K3 hK3 => ?_)
  refine W_region (WL_cons rfl (WX_q rfl rfl (q_move rfl rfl) (WL_cons rfl (WX_q rfl rfl (q_cmp_str rfl rfl rfl rfl) (?_)))))
  refine WL_nil (hK3 _ ?_)
  clear hK3 K3
  refine W_cond rfl (fun h1 => ?_) (fun h1 => ?_)
  · try rw [h1]
    try simp only [decide_eq_true_eq, decide_eq_false_iff_not, beq_iff_eq, bne_iff_ne, ne_eq, Bool.not_eq_true', Bool.not_eq_false', beq_eq_false_iff_ne, bne_eq_false_iff_eq, Bool.not_eq_true, Bool.not_eq_false, Int.not_lt, Int.not_le, gt_iff_lt, ge_iff_le, Bool.and_eq_true, Bool.and_eq_false_iff, Bool.or_eq_true, Bool.or_eq_false_iff] at h1
    have hO := sp_e (x := x) (w := w) h1
    refine W_seq (fun K4 hK4 => ?_)
    refine W_region (WL_cons rfl (WX_q rfl rfl (q_move rfl rfl) (WL_cons rfl (?_))))
    refine WX_q rfl rfl (q_cut_str G rfl rfl rfl rfl rfl (by omega) (by omega) (by omega)) ?_
    refine WL_cons rfl (WX_q rfl rfl (q_assign rfl rfl) (?_))
    refine WL_nil (hK4 _ ?_)
    clear hK4 K4
    refine W_ret (finm_one rfl (rc_v ?_) rfl (AftOK.stays rfl ?_ rfl AftOK.nil))
    all_goals clear hK2 K2
    all_goals (first | (rw [hO.1]; done) | (rw [hO.2]; done) | (rw [hO.1]; rfl) | (rw [hO.2]; rfl))
  · try rw [h1]
    try simp only [decide_eq_true_eq, decide_eq_false_iff_not, beq_iff_eq, bne_iff_ne, ne_eq, Bool.not_eq_true', Bool.not_eq_false', beq_eq_false_iff_ne, bne_eq_false_iff_eq, Bool.not_eq_true, Bool.not_eq_false, Int.not_lt, Int.not_le, gt_iff_lt, ge_iff_le, Bool.and_eq_true, Bool.and_eq_false_iff, Bool.or_eq_true, Bool.or_eq_false_iff] at h1
    have hne := sp_ne h1
    refine W_skip (hK2 _ ?_)
    clear hK2 K2
    refine W_seq (fun K5 hK5 => ?_)
    refine W_region (WL_cons rfl (WX_q rfl rfl (q_move rfl rfl) (WL_cons rfl (WX_q rfl rfl (q_move rfl rfl) (WL_cons rfl (WX_q rfl rfl (q_len_str G rfl rfl rfl) (WL_cons rfl (?_))))))))
    refine WX_callm 1 [0] rfl rfl rfl (c_spec_l1Cur_pick x t.size (by omega) hc) rfl (RowsIn.cons rfl RowsIn.nil) rfl rfl rfl ?_
    refine WL_cons rfl (WX_q rfl rfl (q_assign rfl rfl) (?_))
    refine WL_nil (hK5 _ ?_)
    clear hK5 K5
    refine W_seq (fun K6 hK6 => ?_)
    refine W_region (WL_cons rfl (WX_q rfl rfl (q_move rfl rfl) (WL_cons rfl (WX_q rfl rfl (q_move rfl rfl) (WL_cons rfl (WX_q rfl rfl (q_move rfl rfl) (WL_cons rfl (WX_q rfl rfl (q_len_str G rfl rfl rfl) (WL_cons rfl (?_))))))))))
    refine WX_callm 1 [0] rfl rfl rfl (c_spec_l1Cur_pick (sp1 x t) w.size (by omega) hc1) rfl (RowsIn.cons rfl RowsIn.nil) rfl rfl rfl ?_
    refine WL_cons rfl (?_)
    refine WX_q rfl rfl (q_cut_str G rfl rfl rfl rfl rfl (by omega) (by omega) (by omega)) ?_
    refine WL_cons rfl (?_)
    refine WX_q rfl rfl (q_cut_str G rfl rfl rfl rfl rfl (by omega) (by omega) (by omega)) ?_
    refine WL_cons rfl (WX_q rfl rfl (q_assign rfl rfl) (?_))
    refine WL_nil (hK6 _ ?_)
    clear hK6 K6
    refine W_seq (fun K7 hK7 => ?_)
    refine W_seq (fun K8 hK8 => ?_)
    refine W_region (WL_cons rfl (WX_q rfl rfl (q_move rfl rfl) (WL_cons rfl (?_))))
    refine WX_callm 1 [0] rfl rfl rfl (c_spec_l1Cur_pick (sp2 x t w) 3 (by omega) hc2) rfl (RowsIn.cons rfl RowsIn.nil) rfl rfl rfl ?_
    refine WL_nil (hK8 _ ?_)
    clear hK8 K8
    refine W_block ?_
    refine W_seq (fun K9 hK9 => ?_)
    refine W_region (WL_cons rfl (WX_q rfl rfl (q_cmp rfl rfl rfl rfl) (WL_cons rfl (WX_q rfl rfl (q_assign rfl rfl) (?_)))))
    refine WL_nil (hK9 _ ?_)
    clear hK9 K9
    refine W_cond rfl (fun h2 => ?_) (fun h2 => ?_)
    · try rw [h2]
      try simp only [decide_eq_true_eq, decide_eq_false_iff_not, beq_iff_eq, bne_iff_ne, ne_eq, Bool.not_eq_true', Bool.not_eq_false', beq_eq_false_iff_ne, bne_eq_false_iff_eq, Bool.not_eq_true, Bool.not_eq_false, Int.not_lt, Int.not_le, gt_iff_lt, ge_iff_le, Bool.and_eq_true, Bool.and_eq_false_iff, Bool.or_eq_true, Bool.or_eq_false_iff] at h2
      have hO := sp_0 (x := x) (w := w) h1 h2
      refine W_seq (fun K10 hK10 => ?_)
      refine W_draws mixed (by kernel_rfl) (QL_cons rfl (QX_q rfl rfl (q_move rfl rfl) (QL_cons rfl (QX_q rfl rfl (q_move rfl rfl) (QL_cons rfl (?_))))))
      refine QX_q rfl rfl (q_cut_str G rfl rfl rfl rfl rfl (by omega) (by omega) (by omega)) ?_
      refine QL_cons rfl (QX_q rfl rfl (q_move rfl rfl) (QL_cons rfl (?_)))
      refine QX_q rfl rfl (q_cat rfl rfl rfl (by (try simp only [ByteArray.size_append]); omega)) ?_
      refine QL_cons rfl (QX_q rfl rfl (q_move rfl rfl) (QL_cons rfl (QX_q rfl rfl (q_move rfl rfl) (QL_cons rfl (?_)))))
      refine QX_q rfl rfl (q_cut_str G rfl rfl rfl rfl rfl (by omega) (by omega) (by omega)) ?_
      refine QL_cons rfl (?_)
      refine QX_q rfl rfl (q_cat rfl rfl rfl (by (try simp only [ByteArray.size_append]); omega)) ?_
      refine QL_cons rfl (QX_q rfl rfl (q_assign rfl rfl) (?_))
      refine QL_nil (hK10 _ ?_)
      clear hK10 K10
      refine W_ret (finm_one rfl (rc_v ?_) rfl (AftOK.stays rfl ?_ rfl AftOK.nil))
      all_goals clear hK7 K7
      all_goals (first | (rw [hO.1]; done) | (rw [hO.2]; done) | (rw [hO.1]; rfl) | (rw [hO.2]; rfl))
    · try rw [h2]
      try simp only [decide_eq_true_eq, decide_eq_false_iff_not, beq_iff_eq, bne_iff_ne, ne_eq, Bool.not_eq_true', Bool.not_eq_false', beq_eq_false_iff_ne, bne_eq_false_iff_eq, Bool.not_eq_true, Bool.not_eq_false, Int.not_lt, Int.not_le, gt_iff_lt, ge_iff_le, Bool.and_eq_true, Bool.and_eq_false_iff, Bool.or_eq_true, Bool.or_eq_false_iff] at h2
      refine W_seq (fun K11 hK11 => ?_)
      refine W_region (WL_cons rfl (WX_q rfl rfl (q_cmp rfl rfl rfl rfl) (WL_cons rfl (WX_q rfl rfl (q_assign rfl rfl) (?_)))))
      refine WL_nil (hK11 _ ?_)
      clear hK11 K11
      refine W_cond rfl (fun h3 => ?_) (fun h3 => ?_)
      · try rw [h3]
        try simp only [decide_eq_true_eq, decide_eq_false_iff_not, beq_iff_eq, bne_iff_ne, ne_eq, Bool.not_eq_true', Bool.not_eq_false', beq_eq_false_iff_ne, bne_eq_false_iff_eq, Bool.not_eq_true, Bool.not_eq_false, Int.not_lt, Int.not_le, gt_iff_lt, ge_iff_le, Bool.and_eq_true, Bool.and_eq_false_iff, Bool.or_eq_true, Bool.or_eq_false_iff] at h3
        have hO := sp_1 (x := x) (w := w) h1 h2 h3
        refine W_seq (fun K12 hK12 => ?_)
        refine W_draws mixed (by kernel_rfl) (QL_cons rfl (QX_q rfl rfl (q_move rfl rfl) (QL_cons rfl (QX_q rfl rfl (q_move rfl rfl) (QL_cons rfl (?_))))))
        refine QX_q rfl rfl (q_cut_str G rfl rfl rfl rfl rfl (by omega) (by omega) (by omega)) ?_
        refine QL_cons rfl (QX_q rfl rfl (q_move rfl rfl) (QL_cons rfl (?_)))
        refine QX_q rfl rfl (q_cat rfl rfl rfl (by (try simp only [ByteArray.size_append]); omega)) ?_
        refine QL_cons rfl (QX_q rfl rfl (q_move rfl rfl) (QL_cons rfl (QX_q rfl rfl (q_move rfl rfl) (QL_cons rfl (?_)))))
        first | refine QX_q rfl rfl (q_arith rfl rfl rfl rfl (by omega) (by omega)) ?_ | refine QX_q rfl rfl (q_wrap rfl rfl rfl rfl) ?_
        refine QL_cons rfl (?_)
        refine QX_q rfl rfl (q_cut_str G rfl rfl rfl rfl rfl (by omega) (by omega) (by omega)) ?_
        refine QL_cons rfl (?_)
        refine QX_q rfl rfl (q_cat rfl rfl rfl (by (try simp only [ByteArray.size_append]); omega)) ?_
        refine QL_cons rfl (QX_q rfl rfl (q_assign rfl rfl) (?_))
        refine QL_nil (hK12 _ ?_)
        clear hK12 K12
        refine W_ret (finm_one rfl (rc_v ?_) rfl (AftOK.stays rfl ?_ rfl AftOK.nil))
        all_goals clear hK7 K7
        all_goals (first | (rw [hO.1]; done) | (rw [hO.2]; done) | (rw [hO.1]; rfl) | (rw [hO.2]; rfl))
      · try rw [h3]
        try simp only [decide_eq_true_eq, decide_eq_false_iff_not, beq_iff_eq, bne_iff_ne, ne_eq, Bool.not_eq_true', Bool.not_eq_false', beq_eq_false_iff_ne, bne_eq_false_iff_eq, Bool.not_eq_true, Bool.not_eq_false, Int.not_lt, Int.not_le, gt_iff_lt, ge_iff_le, Bool.and_eq_true, Bool.and_eq_false_iff, Bool.or_eq_true, Bool.or_eq_false_iff] at h3
        have hO := sp_2 (x := x) (w := w) h1 h2 h3
        refine W_skip (hK7 _ ?_)
        clear hK7 K7
        refine W_seq (fun K13 hK13 => ?_)
        refine W_draws mixed (by kernel_rfl) (QL_cons rfl (QX_q rfl rfl (q_move rfl rfl) (QL_cons rfl (QX_q rfl rfl (q_move rfl rfl) (QL_cons rfl (?_))))))
        refine QX_q rfl rfl (q_cut_str G rfl rfl rfl rfl rfl (by omega) (by omega) (by omega)) ?_
        refine QL_cons rfl (QX_q rfl rfl (q_move rfl rfl) (QL_cons rfl (QX_q rfl rfl (q_move rfl rfl) (QL_cons rfl (?_)))))
        first | refine QX_q rfl rfl (q_arith rfl rfl rfl rfl (by omega) (by omega)) ?_ | refine QX_q rfl rfl (q_wrap rfl rfl rfl rfl) ?_
        refine QL_cons rfl (?_)
        refine QX_q rfl rfl (q_cut_str G rfl rfl rfl rfl rfl (by omega) (by omega) (by omega)) ?_
        refine QL_cons rfl (?_)
        refine QX_q rfl rfl (q_cat rfl rfl rfl (by (try simp only [ByteArray.size_append]); omega)) ?_
        refine QL_cons rfl (QX_q rfl rfl (q_assign rfl rfl) (?_))
        refine QL_nil (hK13 _ ?_)
        clear hK13 K13
        refine W_ret (finm_one rfl (rc_v ?_) rfl (AftOK.stays rfl ?_ rfl AftOK.nil))
        all_goals (first | (rw [hO.1]; done) | (rw [hO.2]; done) | (rw [hO.1]; rfl) | (rw [hO.2]; rfl))

end Go.Proofs.YthpllgbaeokeiaaDoor

/- Walks through functions of the program, one contract each (written by gen.py). -/
set_option maxRecDepth 20000
set_option linter.unusedVariables false
set_option linter.unusedSimpArgs false
namespace Go.Proofs.YthpllgbaeokeiaaDoor
open Go Go.Rf

theorem c_spec_l1Cur_anyLog (x : Cur) (h0 : 0 ≤ x.a ∧ x.a ≤ 4611686018427360000) (hc : bytesOK x.c) : CtrM Tryd.prog 52 [.ptr 0 0] [.box [.lst 1 (x.c.map encU), .v (.int .i64 x.a), .v (.int .u64 x.s)]] (.one (.v (encL (alE x)))) [some (.box [.lst 1 ((alC x).c.map encU), .v (.int .i64 (alC x).a), .v (.int .u64 (alC x).s)])] := by
  have hk := al_ok (x := x) hc
  have hc1 : bytesOK (al x).2.c := (by rw [hk.2.1]; exact hc)
  have hc2 : bytesOK (pkC (al x).2 24).c := bytes_pk hc1
  have hp2 : (al x).2.a ≤ (pkC (al x).2 24).a ∧ (pkC (al x).2 24).a ≤ (al x).2.a + 2 := pk_c.2
  refine CtrM.of (n := 30) (k := 1) G Tryd.func52 rfl (by kernel_rfl) rfl rfl rfl rfl rfl rfl rfl (fun w0 _ hpin => ?_)
  refine W_seq (fun K1 hK1 => ?_)
  refine W_region (WL_cons rfl (WX_alloc_s G 2 rfl rfl rfl rfl rfl (?_)))
  refine WL_nil (hK1 _ ?_)
  clear hK1 K1
  refine W_seq (fun K2 hK2 => ?_)
  refine W_region (WL_cons rfl (WX_q rfl rfl (q_move rfl rfl) (WL_cons rfl (?_))))
  refine WX_callm 2 [0] rfl rfl rfl (c_spec_l1Cur_log x (by omega) hc) rfl (RowsIn.cons rfl RowsIn.nil) rfl rfl rfl ?_
  refine WL_cons rfl (WX_alloc_s G 3 rfl rfl rfl rfl rfl (WL_cons rfl (WX_store G rfl rfl rfl rfl rfl rfl rfl rfl rfl rfl rfl (?_))))
  refine WL_nil (hK2 _ ?_)
  clear hK2 K2
  rw [show lgN x (pkV x 7).toNat = al x from rfl]
  refine W_seq (fun K3 hK3 => ?_)
  refine W_seq (fun K4 hK4 => ?_)
  refine W_region (WL_cons rfl (WX_q rfl rfl (q_move rfl rfl) (WL_cons rfl (?_))))
  refine WX_callm 3 [0] rfl rfl rfl (c_spec_l1Cur_pick (al x).2 24 (by omega) hc1) rfl (RowsIn.cons rfl RowsIn.nil) rfl rfl rfl ?_
  refine WL_nil (hK4 _ ?_)
  clear hK4 K4
  refine W_block ?_
  refine W_seq (fun K5 hK5 => ?_)
  refine W_region (WL_cons rfl (WX_q rfl rfl (q_cmp rfl rfl rfl rfl) (WL_cons rfl (WX_q rfl rfl (q_assign rfl rfl) (?_)))))
  refine WL_nil (hK5 _ ?_)
  clear hK5 K5
  refine W_cond rfl (fun h1 => ?_) (fun h1 => ?_)
  · try rw [h1]
    try simp only [decide_eq_true_eq, decide_eq_false_iff_not, beq_iff_eq, bne_iff_ne, ne_eq, Bool.not_eq_true', Bool.not_eq_false', beq_eq_false_iff_ne, bne_eq_false_iff_eq, Bool.not_eq_true, Bool.not_eq_false, Int.not_lt, Int.not_le, gt_iff_lt, ge_iff_le, Bool.and_eq_true, Bool.and_eq_false_iff, Bool.or_eq_true, Bool.or_eq_false_iff] at h1
    have hO := al_0 (x := x) h1
    refine W_region (WL_cons rfl (WX_q rfl rfl (q_field_ptr G rfl rfl rfl rfl) (WL_cons rfl (WX_q rfl rfl (q_load_box G rfl rfl rfl rfl rfl rfl rfl) (WL_cons rfl (?_))))))
    first | refine WX_q rfl rfl (q_arith rfl rfl rfl rfl (by omega) (by omega)) ?_ | refine WX_q rfl rfl (q_wrap rfl rfl rfl rfl) ?_
    refine WL_cons rfl (WX_q rfl rfl (q_field_ptr G rfl rfl rfl rfl) (WL_cons rfl (WX_store G rfl rfl rfl rfl rfl rfl rfl rfl rfl rfl rfl (?_))))
    refine WL_nil (hK3 _ ?_)
    clear hK3 K3
    refine W_seq (fun K6 hK6 => ?_)
    refine W_region (WL_cons rfl (WX_q rfl rfl (q_load_box_struct G rfl rfl rfl rfl rfl rfl) (WL_cons rfl (WX_store G rfl rfl rfl rfl rfl rfl rfl rfl rfl rfl rfl (?_)))))
    refine WL_nil (hK6 _ ?_)
    clear hK6 K6
    refine W_ret (finm_one rfl (rc_agg rfl ?_) rfl (AftOK.stays rfl ?_ rfl AftOK.nil))
    all_goals (first | (rw [hO.1]; done) | (rw [hO.2]; done) | (rw [hO.1]; rfl) | (rw [hO.2]; rfl))
  · try rw [h1]
    try simp only [decide_eq_true_eq, decide_eq_false_iff_not, beq_iff_eq, bne_iff_ne, ne_eq, Bool.not_eq_true', Bool.not_eq_false', beq_eq_false_iff_ne, bne_eq_false_iff_eq, Bool.not_eq_true, Bool.not_eq_false, Int.not_lt, Int.not_le, gt_iff_lt, ge_iff_le, Bool.and_eq_true, Bool.and_eq_false_iff, Bool.or_eq_true, Bool.or_eq_false_iff] at h1
    refine W_seq (fun K7 hK7 => ?_)
    refine W_region (WL_cons rfl (WX_q rfl rfl (q_cmp rfl rfl rfl rfl) (WL_cons rfl (WX_q rfl rfl (q_assign rfl rfl) (?_)))))
    refine WL_nil (hK7 _ ?_)
    clear hK7 K7
    refine W_cond rfl (fun h2 => ?_) (fun h2 => ?_)
    · try rw [h2]
      try simp only [decide_eq_true_eq, decide_eq_false_iff_not, beq_iff_eq, bne_iff_ne, ne_eq, Bool.not_eq_true', Bool.not_eq_false', beq_eq_false_iff_ne, bne_eq_false_iff_eq, Bool.not_eq_true, Bool.not_eq_false, Int.not_lt, Int.not_le, gt_iff_lt, ge_iff_le, Bool.and_eq_true, Bool.and_eq_false_iff, Bool.or_eq_true, Bool.or_eq_false_iff] at h2
      have hO := al_1 (x := x) h2
      refine W_region (WL_cons rfl (WX_q rfl rfl (q_move rfl rfl) (WL_cons rfl (WX_q rfl rfl (q_field_ptr G rfl rfl rfl rfl) (WL_cons rfl (WX_q rfl rfl (q_load_box G rfl rfl rfl rfl rfl rfl rfl) (WL_cons rfl (?_))))))))
      refine WX_callm 3 [0] rfl rfl rfl (c_spec_l1Cur_spoilt (pkC (al x).2 24) (al x).1.p spW (by omega) (by decide) (by omega) hc2) rfl (RowsIn.cons rfl RowsIn.nil) rfl rfl rfl ?_
      refine WL_cons rfl (WX_q rfl rfl (q_field_ptr G rfl rfl rfl rfl) (WL_cons rfl (WX_store G rfl rfl rfl rfl rfl rfl rfl rfl rfl rfl rfl (?_))))
      refine WL_nil (hK3 _ ?_)
      clear hK3 K3
      refine W_seq (fun K8 hK8 => ?_)
      refine W_region (WL_cons rfl (WX_q rfl rfl (q_load_box_struct G rfl rfl rfl rfl rfl rfl) (WL_cons rfl (WX_store G rfl rfl rfl rfl rfl rfl rfl rfl rfl rfl rfl (?_)))))
      refine WL_nil (hK8 _ ?_)
      clear hK8 K8
      refine W_ret (finm_one rfl (rc_agg rfl ?_) rfl (AftOK.stays rfl ?_ rfl AftOK.nil))
      all_goals (first | (rw [hO.1]; done) | (rw [hO.2]; done) | (rw [hO.1]; rfl) | (rw [hO.2]; rfl))
    · try rw [h2]
      try simp only [decide_eq_true_eq, decide_eq_false_iff_not, beq_iff_eq, bne_iff_ne, ne_eq, Bool.not_eq_true', Bool.not_eq_false', beq_eq_false_iff_ne, bne_eq_false_iff_eq, Bool.not_eq_true, Bool.not_eq_false, Int.not_lt, Int.not_le, gt_iff_lt, ge_iff_le, Bool.and_eq_true, Bool.and_eq_false_iff, Bool.or_eq_true, Bool.or_eq_false_iff] at h2
      refine W_seq (fun K9 hK9 => ?_)
      refine W_region (WL_cons rfl (WX_q rfl rfl (q_cmp rfl rfl rfl rfl) (WL_cons rfl (WX_q rfl rfl (q_assign rfl rfl) (?_)))))
      refine WL_nil (hK9 _ ?_)
      clear hK9 K9
      refine W_cond rfl (fun h3 => ?_) (fun h3 => ?_)
      · try rw [h3]
        try simp only [decide_eq_true_eq, decide_eq_false_iff_not, beq_iff_eq, bne_iff_ne, ne_eq, Bool.not_eq_true', Bool.not_eq_false', beq_eq_false_iff_ne, bne_eq_false_iff_eq, Bool.not_eq_true, Bool.not_eq_false, Int.not_lt, Int.not_le, gt_iff_lt, ge_iff_le, Bool.and_eq_true, Bool.and_eq_false_iff, Bool.or_eq_true, Bool.or_eq_false_iff] at h3
        have hO := al_2 (x := x) h3
        refine W_region (WL_cons rfl (WX_q rfl rfl (q_field_ptr G rfl rfl rfl rfl) (WL_cons rfl (WX_q rfl rfl (q_load_box G rfl rfl rfl rfl rfl rfl rfl) (WL_cons rfl (WX_q rfl rfl (q_field_ptr G rfl rfl rfl rfl) (WL_cons rfl (WX_q rfl rfl (q_load_box G rfl rfl rfl rfl rfl rfl rfl) (WL_cons rfl (?_))))))))))
        refine WX_q rfl rfl (q_cat rfl rfl rfl (by (try simp only [ByteArray.size_append]); omega)) ?_
        refine WL_cons rfl (WX_q rfl rfl (q_field_ptr G rfl rfl rfl rfl) (WL_cons rfl (WX_store G rfl rfl rfl rfl rfl rfl rfl rfl rfl rfl rfl (?_))))
        refine WL_nil (hK3 _ ?_)
        clear hK3 K3
        refine W_seq (fun K10 hK10 => ?_)
        refine W_region (WL_cons rfl (WX_q rfl rfl (q_load_box_struct G rfl rfl rfl rfl rfl rfl) (WL_cons rfl (WX_store G rfl rfl rfl rfl rfl rfl rfl rfl rfl rfl rfl (?_)))))
        refine WL_nil (hK10 _ ?_)
        clear hK10 K10
        refine W_ret (finm_one rfl (rc_agg rfl ?_) rfl (AftOK.stays rfl ?_ rfl AftOK.nil))
        all_goals (first | (rw [hO.1]; done) | (rw [hO.2]; done) | (rw [hO.1]; rfl) | (rw [hO.2]; rfl))
      · try rw [h3]
        try simp only [decide_eq_true_eq, decide_eq_false_iff_not, beq_iff_eq, bne_iff_ne, ne_eq, Bool.not_eq_true', Bool.not_eq_false', beq_eq_false_iff_ne, bne_eq_false_iff_eq, Bool.not_eq_true, Bool.not_eq_false, Int.not_lt, Int.not_le, gt_iff_lt, ge_iff_le, Bool.and_eq_true, Bool.and_eq_false_iff, Bool.or_eq_true, Bool.or_eq_false_iff] at h3
        have hO := al_3 (x := x) h1 h2 h3
        refine W_skip (hK3 _ ?_)
        clear hK3 K3
        refine W_seq (fun K11 hK11 => ?_)
        refine W_region (WL_cons rfl (WX_q rfl rfl (q_load_box_struct G rfl rfl rfl rfl rfl rfl) (WL_cons rfl (WX_store G rfl rfl rfl rfl rfl rfl rfl rfl rfl rfl rfl (?_)))))
        refine WL_nil (hK11 _ ?_)
        clear hK11 K11
        refine W_ret (finm_one rfl (rc_agg rfl ?_) rfl (AftOK.stays rfl ?_ rfl AftOK.nil))
        all_goals (first | (rw [hO.1]; done) | (rw [hO.2]; done) | (rw [hO.1]; rfl) | (rw [hO.2]; rfl))

end Go.Proofs.YthpllgbaeokeiaaDoor

/- Walks through functions of the program, one contract each (written by gen.py). -/
set_option maxRecDepth 20000
set_option linter.unusedVariables false
set_option linter.unusedSimpArgs false
namespace Go.Proofs.YthpllgbaeokeiaaDoor
open Go Go.Rf

set_option maxHeartbeats 1600000 in
theorem c_spec_DrawAppendRecord (l : List Int) (hl : bytesOK l) : Ctr Tryd.prog 36 [.lst 1 (l.map encU)] (.many [.v (encL (daE l)), .v (encR (daR l))]) := by
  have hk := da_ok hl
  have e0 : (cu l).a = 0 := rfl
  have hd3 : daK l = (59 + pkV (daC2 l) 2).toNat := rfl
  refine Ctr.of (n := 31) G Tryd.func36 rfl (by kernel_rfl) rfl rfl rfl (fun w0 => ?_)
  refine W_seq (fun K1 hK1 => ?_)
  refine W_region (WL_cons rfl (WX_alloc_s G 1 rfl rfl rfl rfl rfl (WL_cons rfl (WX_alloc_s G 2 rfl rfl rfl rfl rfl (?_)))))
  refine WL_nil (hK1 _ ?_)
  clear hK1 K1
  refine W_pinT (t := 0) rfl (fun y => ?_)
  refine W_seq (fun K2 hK2 => ?_)
  refine W_region (WL_cons rfl (WX_q rfl rfl (q_move rfl rfl) (WL_cons rfl (WX_q rfl rfl (q_build G rfl rfl rfl rfl) (WL_cons rfl (WX_box 3 rfl rfl rfl rfl rfl rfl rfl (WL_cons rfl (WX_q rfl rfl (q_assign rfl rfl) (?_)))))))))
  refine WL_nil (hK2 _ ?_)
  clear hK2 K2
  refine W_unpin (id := 2) rfl ?_
  refine W_seq (fun K3 hK3 => ?_)
  refine W_region (WL_cons rfl (WX_q rfl rfl (q_move rfl rfl) (WL_cons rfl (?_))))
  refine WX_callm 3 [2] rfl rfl rfl (c_spec_l1Cur_anyLog (cu l) (by omega) hl) rfl (RowsIn.cons rfl RowsIn.nil) rfl rfl rfl ?_
  refine WL_cons rfl (WX_alloc_s G 4 rfl rfl rfl rfl rfl (WL_cons rfl (WX_store G rfl rfl rfl rfl rfl rfl rfl rfl rfl rfl rfl (?_))))
  refine WL_nil (hK3 _ ?_)
  clear hK3 K3
  refine W_seq (fun K4 hK4 => ?_)
  refine W_seq (fun K5 hK5 => ?_)
  refine W_region (WL_cons rfl (WX_q rfl rfl (q_move rfl rfl) (WL_cons rfl (?_))))
  refine WX_callm 4 [2] rfl rfl rfl (c_spec_l1Cur_one (daC1 l) 40 (by omega) hk.1.1) rfl (RowsIn.cons rfl RowsIn.nil) rfl rfl rfl ?_
  refine WL_nil (hK5 _ ?_)
  clear hK5 K5
  refine W_cond rfl (fun h1 => ?_) (fun h1 => ?_)
  · try rw [h1]
    try simp only [decide_eq_true_eq, decide_eq_false_iff_not, beq_iff_eq, bne_iff_ne, ne_eq, Bool.not_eq_true', Bool.not_eq_false', beq_eq_false_iff_ne, bne_eq_false_iff_eq, Bool.not_eq_true, Bool.not_eq_false, Int.not_lt, Int.not_le, gt_iff_lt, ge_iff_le, Bool.and_eq_true, Bool.and_eq_false_iff, Bool.or_eq_true, Bool.or_eq_false_iff] at h1
    have hO := da_t h1
    refine W_seq (fun K6 hK6 => ?_)
    refine W_region (WL_cons rfl (WX_q rfl rfl (q_build G rfl rfl rfl rfl) (WL_cons rfl (WX_store G rfl rfl rfl rfl rfl rfl rfl rfl rfl rfl rfl (?_)))))
    refine WL_nil (hK6 _ ?_)
    clear hK6 K6
    refine W_seq (fun K7 hK7 => ?_)
    refine W_region (WL_cons rfl (WX_q rfl rfl (q_move rfl rfl) (WL_cons rfl (?_))))
    refine WX_callm 4 [2] rfl rfl rfl (c_spec_l1Cur_pick (daC2 l) 2 (by omega) hk.1.2.1) rfl (RowsIn.cons rfl RowsIn.nil) rfl rfl rfl ?_
    refine WL_cons rfl (?_)
    first | refine WX_q rfl rfl (q_arith rfl rfl rfl rfl (by omega) (by omega)) ?_ | refine WX_q rfl rfl (q_wrap rfl rfl rfl rfl) ?_
    refine WL_cons rfl (WX_q rfl rfl (q_assign rfl rfl) (?_))
    refine WL_nil (hK7 _ ?_)
    clear hK7 K7
    refine W_block ?_
    refine W_loopK [2, 3, 4, 5] [0, 1, 2] (fun (k : Nat) => [(6, .v (.int .i64 (59 + pkV (daC2 l) 2 - k)))]) (fun (k : Nat) => [(3, some (.box [.v (.string (apL k).d), .v (.string (apL k).p), .v (.int .i64 (apL k).n)]))]) (fun (k : Nat) => k ≤ daK l) (fun (k : Nat) => daK l - k) 0 rfl rfl ?_ ?_ ?_ ?_
    · exact Nat.zero_le _
    · exact ⟨⟨_, rfl, by (first | rfl | simp)⟩, rfl, trivial⟩
    · exact ⟨⟨_, rfl, by rfl⟩, rfl, rfl, trivial⟩
    · intro k hinv
      skip
      simp only [List.cons_append, List.nil_append]
      refine W_seq (fun K8 hK8 => ?_)
      refine W_seq (fun K9 hK9 => ?_)
      refine W_region (WL_cons rfl (WX_q rfl rfl (q_move rfl rfl) (WL_cons rfl (WX_q rfl rfl (q_cmp rfl rfl rfl rfl) (?_)))))
      refine WL_nil (hK9 _ ?_)
      clear hK9 K9
      refine W_cond rfl (fun h2 => ?_) (fun h2 => ?_)
      · try rw [h2]
        try simp only [decide_eq_true_eq, decide_eq_false_iff_not, beq_iff_eq, bne_iff_ne, ne_eq, Bool.not_eq_true', Bool.not_eq_false', beq_eq_false_iff_ne, bne_eq_false_iff_eq, Bool.not_eq_true, Bool.not_eq_false, Int.not_lt, Int.not_le, gt_iff_lt, ge_iff_le, Bool.and_eq_true, Bool.and_eq_false_iff, Bool.or_eq_true, Bool.or_eq_false_iff] at h2
        refine W_skip (hK8 _ ?_)
        clear hK8 K8
        refine W_seq (fun K10 hK10 => ?_)
        refine W_block ?_
        refine W_region (WL_cons rfl (WX_q rfl rfl (q_load_box_struct G rfl rfl rfl rfl rfl rfl) (WL_cons rfl (WX_q rfl rfl (q_build G rfl rfl rfl rfl) (WL_cons rfl (?_))))))
        refine WX_q rfl rfl (q_call rfl (ArgsOK.of rfl) (c_spec_AppendRecord (apL k) daX (by have := apL_ok (k := k); omega) (by decide)) rfl) ?_
        refine WL_cons rfl (WX_q rfl rfl (q_move rfl rfl) (WL_cons rfl (WX_q rfl rfl (q_extract rfl rfl rfl) (WL_cons rfl (WX_q rfl rfl (q_extract rfl rfl rfl) (WL_cons rfl (WX_store G rfl rfl rfl rfl rfl rfl rfl rfl rfl rfl rfl (?_))))))))
        refine WL_nil (hK10 _ ?_)
        clear hK10 K10
        refine W_region (WL_cons rfl (WX_q rfl rfl (q_move rfl rfl) (WL_cons rfl (?_))))
        first | refine WX_q rfl rfl (q_arith rfl rfl rfl rfl (by omega) (by omega)) ?_ | refine WX_q rfl rfl (q_wrap rfl rfl rfl rfl) ?_
        refine WL_cons rfl (WX_q rfl rfl (q_assign rfl rfl) (?_))
        refine WL_nil ⟨(k + 1), ?_, ?_, ⟨⟨_, rfl, by (congr 2; omega)⟩, rfl, trivial⟩, ⟨⟨_, rfl, by rfl⟩, rfl, rfl, trivial⟩, rfl, rfl, rfl⟩
        · omega
        · omega
      · try rw [h2]
        try simp only [decide_eq_true_eq, decide_eq_false_iff_not, beq_iff_eq, bne_iff_ne, ne_eq, Bool.not_eq_true', Bool.not_eq_false', beq_eq_false_iff_ne, bne_eq_false_iff_eq, Bool.not_eq_true, Bool.not_eq_false, Int.not_lt, Int.not_le, gt_iff_lt, ge_iff_le, Bool.and_eq_true, Bool.and_eq_false_iff, Bool.or_eq_true, Bool.or_eq_false_iff] at h2
        refine W_exit (hK4 _ ?_)
        clear hK8 K8 hK4 K4
        refine W_seq (fun K11 hK11 => ?_)
        refine W_drawsH 5 [3] mixed (by kernel_rfl) rfl rfl (fun r0 => ?_) (fun _ h => h)
        refine WA_take 0 rfl (by kernel_rfl) (by kernel_rfl) rfl rfl rfl rfl (q_load_box_struct G rfl rfl rfl rfl rfl rfl) (WA_take 1 rfl (by kernel_rfl) (by kernel_rfl) rfl rfl rfl rfl (q_move rfl rfl) (?_))
        refine WA_branch (rs := [2]) (by kernel_rfl) rfl (AllB.cons ?_ AllB.nil)
        refine WB_run [3] rfl rfl (WX_callm 4 [2] rfl rfl rfl (c_spec_l1Cur_logRecord (pkC (daC2 l) 2) (by omega) hk.1.2.2) rfl (RowsIn.cons rfl RowsIn.nil) rfl rfl rfl (WL_nil ⟨rfl, ?_⟩))
        refine WA_branch (rs := [3]) (by kernel_rfl) rfl (AllB.cons ?_ AllB.nil)
        refine WB_run [3] rfl rfl (WX_store G rfl rfl rfl rfl rfl rfl rfl rfl rfl rfl rfl (WL_nil ⟨rfl, ?_⟩))
        refine WA_branch (rs := [4]) (by kernel_rfl) rfl (AllB.cons ?_ AllB.nil)
        refine WB_run [3] rfl rfl (WX_store G rfl rfl rfl rfl rfl rfl rfl rfl rfl rfl rfl (WL_nil ⟨rfl, ?_⟩))
        refine WA_end (by kernel_rfl) (hK11 _ ?_)
        clear hK11 K11
        refine W_ret (fin_many rfl rfl rfl rfl (rcs_cons (rc_agg rfl ?_) (rcs_cons (rc_agg rfl ?_) rcs_nil)))
        all_goals (first | (rw [hO.1]; done) | (rw [hO.1]; rfl) | (rw [daR, hO.2]; done) | (rw [daR, hO.2]; rfl) | (have e : k = daK l := (by omega); subst e; first | (rw [hO.1]; rfl) | (rw [daR, hO.2]; rfl)))
  · try rw [h1]
    try simp only [decide_eq_true_eq, decide_eq_false_iff_not, beq_iff_eq, bne_iff_ne, ne_eq, Bool.not_eq_true', Bool.not_eq_false', beq_eq_false_iff_ne, bne_eq_false_iff_eq, Bool.not_eq_true, Bool.not_eq_false, Int.not_lt, Int.not_le, gt_iff_lt, ge_iff_le, Bool.and_eq_true, Bool.and_eq_false_iff, Bool.or_eq_true, Bool.or_eq_false_iff] at h1
    have hO := da_f h1
    refine W_skip (hK4 _ ?_)
    clear hK4 K4
    refine W_seq (fun K12 hK12 => ?_)
    refine W_drawsH 5 [3] mixed (by kernel_rfl) rfl rfl (fun r0 => ?_) (fun _ h => h)
    refine WA_take 0 rfl (by kernel_rfl) (by kernel_rfl) rfl rfl rfl rfl (q_load_box_struct G rfl rfl rfl rfl rfl rfl) (WA_take 1 rfl (by kernel_rfl) (by kernel_rfl) rfl rfl rfl rfl (q_move rfl rfl) (?_))
    refine WA_branch (rs := [2]) (by kernel_rfl) rfl (AllB.cons ?_ AllB.nil)
    refine WB_run [3] rfl rfl (WX_callm 4 [2] rfl rfl rfl (c_spec_l1Cur_logRecord (daC2 l) (by omega) hk.1.2.1) rfl (RowsIn.cons rfl RowsIn.nil) rfl rfl rfl (WL_nil ⟨rfl, ?_⟩))
    refine WA_branch (rs := [3]) (by kernel_rfl) rfl (AllB.cons ?_ AllB.nil)
    refine WB_run [3] rfl rfl (WX_store G rfl rfl rfl rfl rfl rfl rfl rfl rfl rfl rfl (WL_nil ⟨rfl, ?_⟩))
    refine WA_branch (rs := [4]) (by kernel_rfl) rfl (AllB.cons ?_ AllB.nil)
    refine WB_run [3] rfl rfl (WX_store G rfl rfl rfl rfl rfl rfl rfl rfl rfl rfl rfl (WL_nil ⟨rfl, ?_⟩))
    refine WA_end (by kernel_rfl) (hK12 _ ?_)
    clear hK12 K12
    refine W_ret (fin_many rfl rfl rfl rfl (rcs_cons (rc_agg rfl ?_) (rcs_cons (rc_agg rfl ?_) rcs_nil)))
    all_goals (first | (rw [hO.1]; done) | (rw [hO.1]; rfl) | (rw [daR, hO.2]; done) | (rw [daR, hO.2]; rfl) | (have e : k = daK l := (by omega); subst e; first | (rw [hO.1]; rfl) | (rw [daR, hO.2]; rfl)))

end Go.Proofs.YthpllgbaeokeiaaDoor

/- Plain law: what an append does to the records of a log. -/
set_option linter.unusedVariables false
set_option linter.unusedSimpArgs false
set_option linter.unusedSectionVars false
namespace Go.Proofs.YthpllgbaeokeiaaDoor
open Go Go.Rf
theorem plain_10 {s : ByteArray} (h : plainB s = true) : standsB s 10 = false :=
  anyN_f (i := s.size) (fun j hj => by
    have := allN_iff.mp h j hj
    simp only [plainC, Bool.and_eq_true, decide_eq_true_eq] at this
    simp only [beq_eq_false_iff_ne, ne_eq]
    omega) (Nat.le_refl _)
theorem seal_10 {k : Int} {x : Rec} (hk : 0 ≤ k) (h : recOK x = true) : standsB (sealT (bodyT k x)) 10 = false := by
  obtain ⟨_, _, h1, h2, _⟩ := recOK_ok h
  have hs := sumS_le (bodyT k x) (bodyT k x).size
  unfold sealT bodyT
  exact stands_app (stands_app (stands_app (stands_app (stands_app (stands_app (num_stands hk (by omega)) (stands_no (by decide))) (plain_10 h1)) (stands_no (by decide))) (plain_10 h2)) (stands_no (by decide))) (num_stands (by unfold bodyT at hs; omega) (by omega))
theorem recs_up {D P : ByteArray} {n : Nat} (h : ∀ j, j < n → okN D j = true) : ∀ j, j < n → recN (D ++ P) j = recN D j := fun j hj => by
  have h1 := (log_up (D := D) (P := P) (n := j) (fun i hi => h i (by omega))).2
  have h2 := h j hj
  have h3 := (okN_app h1 (okN_stands h2) (Nat.le_of_lt (okN_pos h2).1)).2
  rw [recN, recN, h3]
theorem append_recs {S : ByteArray} {r : Rec} (hS : posN S (logN S) = S.size) (hN : logN S < 60) (hr : recOK r = true) :
    logN (S ++ lineT (logN S) r) = logN S + 1 ∧ posN (S ++ lineT (logN S) r) (logN S + 1) = (S ++ lineT (logN S) r).size ∧ recN (S ++ lineT (logN S) r) (logN S) = r ∧ ∀ j, j < logN S → recN (S ++ lineT (logN S) r) j = recN S j := by
  obtain ⟨h1, h2⟩ := log_up (D := S) (P := lineT (logN S) r) (n := logN S) logN_ok.1
  have h10 := seal_10 (k := (logN S : Int)) (x := r) (by omega) hr
  have hrest : restN (S ++ lineT (logN S) r) (logN S) = lineT (logN S) r := by
    rw [restN, h2, hS]
    exact ext_app_r
  have hline0 : lineT (logN S) r = sealT (bodyT (logN S) r) ++ (⟨#[10]⟩ : ByteArray) ++ ⟨#[]⟩ := by
    apply ba_ext
    rw [app_list, lineT]
    simp
  have hst : standsB (lineT (logN S) r) 10 = true := by rw [hline0]; exact (app_fIdx (u := 10) h10).2
  have hfi : firstB (lineT (logN S) r) 10 = sealT (bodyT (logN S) r) := by
    have := app_first (a := sealT (bodyT (logN S) r)) (z := ⟨#[]⟩) (u := 10) h10
    rw [← hline0] at this
    exact this
  obtain ⟨h3, h4⟩ := rdK_of (s := sealT (bodyT (logN S) r)) (k := (logN S : Int)) (x := r) (by omega) hr rfl
  have hok : okN (S ++ lineT (logN S) r) (logN S) = true := by
    rw [okN, okL, hrest, hst, hfi, h3, decide_eq_true (by omega)]; rfl
  have hl : lineN (S ++ lineT (logN S) r) (logN S) = sealT (bodyT (logN S) r) := by rw [lineN, hrest, hfi]
  have hsz : (lineT (logN S) r).size = (sealT (bodyT (logN S) r)).size + 1 := by rw [lineT, ByteArray.size_append]; rfl
  have hp : posN (S ++ lineT (logN S) r) (logN S + 1) = (S ++ lineT (logN S) r).size := by
    rw [posN_succ, h2, hS, hl, ByteArray.size_append, hsz]
    omega
  refine ⟨logN_eq (upto_succ h1 hok) (okN_f1 (by omega)), hp, ?_, recs_up logN_ok.1⟩
  rw [recN, hl, h4]
end Go.Proofs.YthpllgbaeokeiaaDoor

/- Plain law of logs: an appended record, and what recovery gives of it. -/
set_option linter.unusedVariables false
set_option linter.unusedSimpArgs false
set_option linter.unusedSectionVars false
namespace Go.Proofs.YthpllgbaeokeiaaDoor
open Go Go.Rf
theorem ap_same {x : Lg} {r : Rec} (h : ¬ apN x r = 0) : apE x r = x := by
  unfold apN at h
  unfold apE
  cases hg : apG x r with
  | false => rfl
  | true =>
    rw [hg] at h
    by_cases hn : x.n = 60
    · rw [if_neg (by simp [hn])]
    · rw [if_pos rfl, if_neg hn] at h
      exact absurd rfl h
theorem ap_is {x : Lg} {r : Rec} (h : apN x r = 0) : okLg x = true ∧ recOK r = true ∧ ¬ x.n = 60 ∧ apE x r = ⟨x.d, x.p ++ lineT x.n r, x.n + 1⟩ := by
  unfold apN at h
  split at h
  · next hg =>
    split at h
    · exact absurd h (by decide)
    · next hn =>
      simp only [apG, Bool.and_eq_true] at hg
      exact ⟨hg.1, hg.2, hn, (ap_t hg.1 hg.2 hn).1⟩
  · exact absurd h (by decide)
def sx (x : Lg) : ByteArray := x.d ++ x.p
def apS (x : Lg) (r : Rec) : ByteArray := sx x ++ lineT (logN (sx x)) r
theorem okLg_at {x : Lg} (h : okLg x = true) : (x.d.size + x.p.size ≤ 30000) ∧ posN (sx x) (logN (sx x)) = (sx x).size ∧ posN x.d (logN x.d) = x.d.size ∧ (logN (sx x) : Int) = x.n := by
  simp only [okLg, Bool.and_eq_true, decide_eq_true_eq] at h
  have e : (sx x).size = x.d.size + x.p.size := ByteArray.size_append
  exact ⟨h.1.1.1, by rw [e]; exact h.1.1.2, h.1.2, h.2⟩
theorem ap_log {x : Lg} {r : Rec} (h : apN x r = 0) : logN (apS x r) = logN (sx x) + 1 ∧ posN (apS x r) (logN (sx x) + 1) = (apS x r).size ∧ recN (apS x r) (logN (sx x)) = r ∧ ∀ j, j < logN (sx x) → recN (apS x r) j = recN (sx x) j := by
  obtain ⟨h1, h2, h3, _⟩ := ap_is h
  have h4 := okLg_at h1
  have h5 := logN_le (s := sx x)
  exact append_recs h4.2.1 (by omega) h2
theorem ap_cat {x : Lg} {r : Rec} (h : apN x r = 0) : (apE x r).d ++ (apE x r).p = apS x r := by
  obtain ⟨h1, h2, h3, h4⟩ := ap_is h
  rw [h4, apS, (okLg_at h1).2.2.2]
  exact ByteArray.append_assoc.symm
theorem ap_num {x : Lg} {r : Rec} (h : apN x r = 0) : (apE x r).n = ((logN (sx x) + 1 : Nat) : Int) := by
  obtain ⟨h1, h2, h3, h4⟩ := ap_is h
  have := (okLg_at h1).2.2.2
  rw [h4]
  show x.n + 1 = _
  omega
theorem ap_len {x : Lg} {r : Rec} (h : apN x r = 0) : (apS x r).size ≤ 25380 := by
  obtain ⟨h1, h2, _⟩ := ap_log h
  have := logN_le (s := apS x r)
  rw [h1] at this
  omega
theorem ap_okay {x : Lg} {r : Rec} (h : apN x r = 0) : okLg (apE x r) = true := by
  obtain ⟨h1, h2, h3, h4⟩ := ap_is h
  obtain ⟨g1, g2, _⟩ := ap_log h
  have hc := ap_cat h
  have hl := ap_len h
  have hs : (apE x r).d.size + (apE x r).p.size = (apS x r).size := by rw [← hc]; exact ByteArray.size_append.symm
  refine okLg_t (by omega) (by rw [hc, g1, hs]; exact g2) ?_ (by rw [hc, g1, ap_num h])
  rw [h4]
  exact (okLg_at h1).2.2.1
theorem all_eq {x : Lg} {r : Rec} {e : Nat} (h : apN x r = 0) : Res.many [.fr e 2 ((lrT (apE x r)).map encRc), .v (.bool (okLg (apE x r)))] = .many [.fr e 2 ((pre (recN (apS x r)) (logN (sx x) + 1)).map encRc), .v (.bool true)] := by
  rw [(lr_t (ap_okay h)).1, ap_okay h, ap_cat h, (ap_log h).1]
theorem old_eq {x : Lg} {e : Nat} (h : okLg x = true) : Res.many [.fr e 2 ((lrT x).map encRc), .v (.bool (okLg x))] = .many [.fr e 2 ((pre (recN (sx x)) (logN (sx x))).map encRc), .v (.bool true)] := by
  rw [(lr_t h).1, h]; rfl
theorem ext_all {s : ByteArray} : s.extract 0 s.size = s := by
  apply ByteArray.ext
  simp [ByteArray.data_extract]
theorem back_eq {x : Lg} {r : Rec} (h : apN x r = 0) : Res.many [.v (encL (rcE ((apE x r).d ++ (apE x r).p))), .v (.int .i64 (rcN ((apE x r).d ++ (apE x r).p))), .v (.bool (rcOK ((apE x r).d ++ (apE x r).p)))] = .many [.v (encL ⟨apS x r, ⟨#[]⟩, ((logN (sx x) + 1 : Nat) : Int)⟩), .v (.int .i64 ((apS x r).size : Int)), .v (.bool true)] := by
  have hl := ap_len h
  obtain ⟨g1, g2, _⟩ := ap_log h
  obtain ⟨e1, e2, e3⟩ := rc_t (s := apS x r) (by omega)
  have hp : posI (apS x r) (logN (apS x r)) = ((apS x r).size : Int) := by rw [g1]; show ((posN _ _ : Nat) : Int) = _; rw [g2]
  rw [ap_cat h, e1, e2, e3, hp, g1, Int.toNat_natCast, ext_all]
theorem sync_eq {x : Lg} {r : Rec} (h : apN x r = 0) : Res.many [.v (encL (syE (apE x r))), .v (.bool (okLg (apE x r)))] = .many [.v (encL ⟨apS x r, ⟨#[]⟩, ((logN (sx x) + 1 : Nat) : Int)⟩), .v (.bool true)] := by
  rw [(sy_t (ap_okay h)).1, ap_okay h, ap_cat h, ap_num h]
theorem okay_eq {x : Lg} {r : Rec} (h : apN x r = 0) : Res.one (.v (.bool (okLg (apE x r)))) = .one (.v (.bool true)) := by rw [ap_okay h]
/-! sizes of what is drawn -/
theorem spV_size {x : Cur} {t w : ByteArray} (hw : w.size ≤ 10) : (spV x t w).size ≤ 2 * t.size + 10 := by
  have hb : (spB x t w).size ≤ 10 := Nat.le_trans ext_le (Nat.le_trans ext_le hw)
  have h1 : (spL x t).size ≤ t.size := ext_le
  have h2 : (spR x t).size ≤ t.size := ext_le
  have h3 : (spR1 x t).size ≤ t.size := ext_le
  unfold spV
  split
  · exact Nat.le_trans ext_le (by omega)
  · split
    · rw [ByteArray.size_append, ByteArray.size_append]; omega
    · split
      · rw [ByteArray.size_append, ByteArray.size_append]; omega
      · rw [ByteArray.size_append]; omega
theorem alE_size {x : Cur} (hc : bytesOK x.c) : (alE x).d.size + (alE x).p.size ≤ 10000 := by
  have h := al_ok hc
  unfold alE
  split
  · show (al x).1.d.size + (al x).1.p.size ≤ _; omega
  · split
    · have := spV_size (x := pkC (al x).2 24) (t := (al x).1.p) (w := spW) (by decide)
      show (al x).1.d.size + (spV _ _ _).size ≤ _; omega
    · split
      · show ((al x).1.d ++ (al x).1.p).size + (al x).1.p.size ≤ _
        rw [ByteArray.size_append]; omega
      · omega
theorem daE_size {l : List Int} (h : bytesOK l) : (daE l).d.size + (daE l).p.size ≤ 40000 := by
  have hk := da_ok h
  unfold daE
  split
  · have := apL_ok (k := daK l)
    have e : daK l = (59 + pkV (daC2 l) 2).toNat := rfl
    omega
  · have := alE_size (x := cu l) h
    omega
theorem ap_size2 {x : Lg} {r : Rec} (h : x.d.size + x.p.size ≤ 40000) : (apE x r).d.size + (apE x r).p.size ≤ 50000 := by
  have := apE_size (l := x) (r := r)
  omega
end Go.Proofs.YthpllgbaeokeiaaDoor
namespace Go.Proofs.YthpllgbaeokeiaaDoor
open Go Go.Rf
theorem lineA_size {k : Int} {x : Rec} (h0 : 0 ≤ k) (h1 : k ≤ 1000000) (h : x.c.size ≤ 1000 ∧ x.r.size ≤ 1000) : (lineT k x).size ≤ 2100 := by
  have hz := numT_size (n := k) (by omega) (by omega)
  have hss := seal_size (s := bodyT k x)
  have hbd : (bodyT k x).size = (numT k).size + 1 + x.c.size + 1 + x.r.size := by simp only [bodyT, ByteArray.size_append]; rfl
  have e1 : (⟨#[10]⟩ : ByteArray).size = 1 := rfl
  rw [lineT, ByteArray.size_append]
  omega
end Go.Proofs.YthpllgbaeokeiaaDoor

/- The cursor of the draws, of which only bounds are told. -/
set_option maxRecDepth 20000
set_option linter.unusedVariables false
namespace Go.Proofs.YthpllgbaeokeiaaDoor
open Go Go.Rf
theorem x_pick {x : Cur} {n : Int} (h : okC n x) (hn : n ≤ 1000000000000) (k : Int) : CtrX (α := Int × Cur) Tryd.prog 54 [.ptr 0 0, .v (.int .i64 k)] [.box [.lst 1 (x.c.map encU), .v (.int .i64 x.a), .v (.int .u64 x.s)]] (fun y => (0 ≤ y.1 ∧ (y.1 < k ∨ (k ≤ 1 ∧ y.1 = 0))) ∧ okC (n + 2) y.2) (fun y => .one (.v (.int .i64 y.1))) (fun y => [some (.box [.lst 1 (y.2.c.map encU), .v (.int .i64 y.2.a), .v (.int .u64 y.2.s)])]) :=
  CtrX.ofM (pkV x k, pkC x k) (c_spec_l1Cur_pick x k (h.big hn) h.1) ⟨pk_in h.1, h.pk _⟩ rfl rfl
theorem x_one {x : Cur} {n : Int} (h : okC n x) (hn : n ≤ 1000000000000) (k : Int) : CtrX (α := Bool × Cur) Tryd.prog 53 [.ptr 0 0, .v (.int .i64 k)] [.box [.lst 1 (x.c.map encU), .v (.int .i64 x.a), .v (.int .u64 x.s)]] (fun y => (True) ∧ okC (n + 2) y.2) (fun y => .one (.v (.bool y.1))) (fun y => [some (.box [.lst 1 (y.2.c.map encU), .v (.int .i64 y.2.a), .v (.int .u64 y.2.s)])]) :=
  CtrX.ofM (pkV x k == 0, pkC x k) (c_spec_l1Cur_one x k (h.big hn) h.1) ⟨trivial, h.pk _⟩ rfl rfl
theorem x_among {x : Cur} {n : Int} (h : okC n x) (hn : n ≤ 1000000000000) (l : List Int) (lo hi : Int) (hl : 1 ≤ l.length ∧ l.length ≤ 1048576) (hb : ∀ z ∈ l, lo ≤ z ∧ z ≤ hi) : CtrX (α := Int × Cur) Tryd.prog 58 [.ptr 0 0, .own 1] [.box [.lst 1 (x.c.map encU), .v (.int .i64 x.a), .v (.int .u64 x.s)], .row 3 1 (l.map encI)] (fun y => (lo ≤ y.1 ∧ y.1 ≤ hi) ∧ okC (n + 2) y.2) (fun y => .one (.v (.int .i64 y.1))) (fun y => [some (.box [.lst 1 (y.2.c.map encU), .v (.int .i64 y.2.a), .v (.int .u64 y.2.s)]), some (.row 3 1 (l.map encI))]) :=
  CtrX.ofM (l.getD (pkV x l.length).toNat default, pkC x l.length) (c_spec_l1Cur_among x l hl (h.big hn) h.1) ⟨getD_in hb (by have := pk_in (n := l.length) h.1; omega), h.pk _⟩ rfl rfl
theorem x_amongv {x : Cur} {n : Int} (h : okC n x) (hn : n ≤ 1000000000000) (l : List Int) (hl : 1 ≤ l.length ∧ l.length ≤ 1048576) : CtrX (α := Int × Cur) Tryd.prog 58 [.ptr 0 0, .own 1] [.box [.lst 1 (x.c.map encU), .v (.int .i64 x.a), .v (.int .u64 x.s)], .row 3 1 (l.map encI)] (fun y => (True) ∧ okC (n + 2) y.2) (fun y => .one (.v (.int .i64 y.1))) (fun y => [some (.box [.lst 1 (y.2.c.map encU), .v (.int .i64 y.2.a), .v (.int .u64 y.2.s)]), some (.row 3 1 (l.map encI))]) :=
  CtrX.ofM (l.getD (pkV x l.length).toNat default, pkC x l.length) (c_spec_l1Cur_among x l hl (h.big hn) h.1) ⟨trivial, h.pk _⟩ rfl rfl
theorem x_of {x : Cur} {n : Int} (h : okC n x) (hn : n ≤ 1000000000000) (l : List ByteArray) (hl : 1 ≤ l.length ∧ l.length ≤ 1048576) : CtrX (α := ByteArray × Cur) Tryd.prog 71 [.ptr 0 0, .own 1] [.box [.lst 1 (x.c.map encU), .v (.int .i64 x.a), .v (.int .u64 x.s)], .row 9 1 (l.map encW)] (fun y => (y.1 ∈ l) ∧ okC (n + 2) y.2) (fun y => .one (.v (.string y.1))) (fun y => [some (.box [.lst 1 (y.2.c.map encU), .v (.int .i64 y.2.a), .v (.int .u64 y.2.s)]), some (.row 9 1 (l.map encW))]) :=
  CtrX.ofM (l.getD (pkV x l.length).toNat default, pkC x l.length) (c_spec_l1Cur_of x l hl (h.big hn) h.1) ⟨getD_mem (by have := pk_in (n := l.length) h.1; omega), h.pk _⟩ rfl rfl
theorem x_logRecord {x : Cur} {n : Int} (h : okC n x) (hn : n ≤ 900000000000)  : CtrX (α := Rec × Cur) Tryd.prog 55 [.ptr 0 0] [.box [.lst 1 (x.c.map encU), .v (.int .i64 x.a), .v (.int .u64 x.s)]] (fun y => (y.1.c.size ≤ 20 ∧ y.1.r.size ≤ 20) ∧ okC (n + 8) y.2) (fun y => .one (.v (encR y.1))) (fun y => [some (.box [.lst 1 (y.2.c.map encU), .v (.int .i64 y.2.a), .v (.int .u64 y.2.s)])]) :=
  CtrX.ofM (drR x, drC x) (c_spec_l1Cur_logRecord x ⟨h.2.1, by have := h.2.2; omega⟩ h.1) ⟨drR_20, by have := drC_at (x := x); exact ⟨by dsimp only; rw [this.1]; exact h.1, by dsimp only; have := h.2.1; omega, by dsimp only; have := h.2.2; omega⟩⟩ rfl rfl
theorem x_log {x : Cur} {n : Int} (h : okC n x) (hn : n ≤ 900000000000)  : CtrX (α := Lg × Cur) Tryd.prog 59 [.ptr 0 0] [.box [.lst 1 (x.c.map encU), .v (.int .i64 x.a), .v (.int .u64 x.s)]] (fun y => (y.1.d.size + y.1.p.size ≤ 2538) ∧ okC (n + 62) y.2) (fun y => .one (.v (encL y.1))) (fun y => [some (.box [.lst 1 (y.2.c.map encU), .v (.int .i64 y.2.a), .v (.int .u64 y.2.s)])]) :=
  CtrX.ofM ((al x).1, (al x).2) (c_spec_l1Cur_log x ⟨h.2.1, by have := h.2.2; omega⟩ h.1) ⟨(al_ok h.1).1, by have := al_ok h.1; exact ⟨by dsimp only; rw [this.2.1]; exact h.1, by dsimp only; have := h.2.1; omega, by dsimp only; have := h.2.2; omega⟩⟩ rfl rfl
theorem x_spoilt {x : Cur} {n : Int} (h : okC n x) (hn : n ≤ 900000000000) (t w : ByteArray) (ht : t.size ≤ 1048576) (hw : 1 ≤ w.size ∧ w.size ≤ 10) : CtrX (α := ByteArray × Cur) Tryd.prog 60 [.ptr 0 0, .v (.string t), .v (.string w)] [.box [.lst 1 (x.c.map encU), .v (.int .i64 x.a), .v (.int .u64 x.s)]] (fun y => (y.1.size ≤ 2 * t.size + 10) ∧ okC (n + 6) y.2) (fun y => .one (.v (.string y.1))) (fun y => [some (.box [.lst 1 (y.2.c.map encU), .v (.int .i64 y.2.a), .v (.int .u64 y.2.s)])]) :=
  CtrX.ofM (spV x t w, spC x t w) (c_spec_l1Cur_spoilt x t w ht (by omega) ⟨h.2.1, by have := h.2.2; omega⟩ h.1) ⟨spV_size hw.2, by have := spC_at (x := x) (t := t) (w := w); exact ⟨by dsimp only; rw [this.1]; exact h.1, by dsimp only; have := h.2.1; omega, by dsimp only; have := h.2.2; omega⟩⟩ rfl rfl
theorem x_anyLog {x : Cur} {n : Int} (h : okC n x) (hn : n ≤ 900000000000)  : CtrX (α := Lg × Cur) Tryd.prog 52 [.ptr 0 0] [.box [.lst 1 (x.c.map encU), .v (.int .i64 x.a), .v (.int .u64 x.s)]] (fun y => (y.1.d.size + y.1.p.size ≤ 10000) ∧ okC (n + 70) y.2) (fun y => .one (.v (encL y.1))) (fun y => [some (.box [.lst 1 (y.2.c.map encU), .v (.int .i64 y.2.a), .v (.int .u64 y.2.s)])]) :=
  CtrX.ofM (alE x, alC x) (c_spec_l1Cur_anyLog x ⟨h.2.1, by have := h.2.2; omega⟩ h.1) ⟨alE_size h.1, by have := alC_at h.1; exact ⟨by dsimp only; rw [this.1]; exact h.1, by dsimp only; have := h.2.1; omega, by dsimp only; have := h.2.2; omega⟩⟩ rfl rfl
theorem u8s_map : ∀ (l acc : List Int), u8s (l.map encU) acc = some (acc.reverse ++ l)
  | [], acc => by simp [u8s, revO_eq]
  | x :: l, acc => by
    show u8s (l.map encU) (x :: acc) = _
    rw [u8s_map l]
    simp
theorem u8s_rep {n : Nat} : u8s (List.replicate n [.int .u8 0]) [] = some (List.replicate n 0) := by
  have h := u8s_map (List.replicate n 0) []
  rw [List.map_replicate] at h
  exact h
end Go.Proofs.YthpllgbaeokeiaaDoor

/- Walks through functions of the program, one contract each (written by gen.py). -/
set_option maxRecDepth 20000
set_option linter.unusedVariables false
set_option linter.unusedSimpArgs false
namespace Go.Proofs.YthpllgbaeokeiaaDoor
open Go Go.Rf

theorem c_spec_DrawCrashLog (l : List Int) (hl : bytesOK l) : CtrX (α := Lg × Int × Bool) Tryd.prog 41 [.lst 1 (l.map encU)] [] (fun y => (y.1.d.size + y.1.p.size ≤ 10000 ∧ (-1 ≤ y.2.1 ∧ y.2.1 ≤ 100000)) ∧ True) (fun y => (.many [.v (encL y.1), .v (.int .i64 y.2.1), .v (.bool y.2.2)])) (fun y => []) := by
  have h : okC 0 (⟨l, 0, 0⟩ : Cur) := ⟨hl, Int.le_refl _, Int.le_refl _⟩
  refine CtrX.of (n := 24) (k := 0) G Tryd.func41 rfl (by kernel_rfl) rfl rfl rfl rfl (fun _ => rfl) rfl rfl (fun w0 _ hpin => ?_)
  refine W_seq (fun K1 hK1 => ?_)
  refine W_region (WL_cons rfl (WX_alloc_s G 1 rfl rfl rfl rfl rfl (WL_cons rfl (WX_q rfl rfl (q_assign rfl rfl) (WL_cons rfl (WX_q rfl rfl (q_assign rfl rfl) (?_)))))))
  refine WL_nil (hK1 _ ?_)
  clear hK1 K1
  refine W_pinT (t := 0) rfl (fun y => ?_)
  refine W_seq (fun K2 hK2 => ?_)
  refine W_region (WL_cons rfl (WX_q rfl rfl (q_move rfl rfl) (WL_cons rfl (WX_q rfl rfl (q_build G rfl rfl rfl rfl) (WL_cons rfl (WX_box 2 rfl rfl rfl rfl rfl rfl rfl (WL_cons rfl (WX_q rfl rfl (q_assign rfl rfl) (?_)))))))))
  refine WL_nil (hK2 _ ?_)
  clear hK2 K2
  refine W_unpin (id := 1) rfl ?_
  refine W_seq (fun K3 hK3 => ?_)
  refine W_region (WL_cons rfl (WX_q rfl rfl (q_move rfl rfl) (WL_cons rfl (?_))))
  refine WX_callx 2 [1] rfl rfl rfl (x_anyLog h (by omega)) rfl (RowsIn.cons rfl RowsIn.nil) rfl (fun _ => rfl) rfl (fun x1 ⟨hv1, hc1⟩ => ?_)
  refine WL_cons rfl (WX_alloc_s G 3 rfl rfl rfl rfl rfl (WL_cons rfl (WX_store G rfl rfl rfl rfl rfl rfl rfl rfl rfl rfl rfl (?_))))
  refine WL_nil (hK3 _ ?_)
  clear hK3 K3
  refine W_seq (fun K4 hK4 => ?_)
  refine W_region (WL_cons rfl (WX_q rfl rfl (q_move rfl rfl) (WL_cons rfl (WX_q rfl rfl (q_field_ptr G rfl rfl rfl rfl) (WL_cons rfl (WX_q rfl rfl (q_load_box G rfl rfl rfl rfl rfl rfl rfl) (WL_cons rfl (WX_q rfl rfl (q_len_str G rfl rfl rfl) (WL_cons rfl (?_))))))))))
  first | refine WX_q rfl rfl (q_arith rfl rfl rfl rfl (by omega) (by omega)) ?_ | refine WX_q rfl rfl (q_wrap rfl rfl rfl rfl) ?_
  refine WL_cons rfl (?_)
  refine WX_callx 3 [1] rfl rfl rfl (x_pick hc1 (by omega) ((x1.1.p.size : Int) + 3)) rfl (RowsIn.cons rfl RowsIn.nil) rfl (fun _ => rfl) rfl (fun x2 ⟨hv2, hc2⟩ => ?_)
  refine WL_cons rfl (?_)
  first | refine WX_q rfl rfl (q_arith rfl rfl rfl rfl (by omega) (by omega)) ?_ | refine WX_q rfl rfl (q_wrap rfl rfl rfl rfl) ?_
  refine WL_cons rfl (WX_q rfl rfl (q_assign rfl rfl) (?_))
  refine WL_nil (hK4 _ ?_)
  clear hK4 K4
  refine W_seq (fun K5 hK5 => ?_)
  refine W_drawsH 7 [2] mixed (by kernel_rfl) rfl rfl (fun r0 => ?_) (fun _ h => h)
  refine WA_take 0 rfl (by kernel_rfl) (by kernel_rfl) rfl rfl rfl rfl (q_load_box_struct G rfl rfl rfl rfl rfl rfl) (WA_take 1 rfl (by kernel_rfl) (by kernel_rfl) rfl rfl rfl rfl (q_move rfl rfl) (WA_take 2 rfl (by kernel_rfl) (by kernel_rfl) rfl rfl rfl rfl (q_move rfl rfl) (?_)))
  refine WA_branch (rs := [3]) (by kernel_rfl) rfl (AllB.cons ?_ AllB.nil)
  refine WB_run [2] rfl rfl (WX_callx 3 [1] rfl rfl rfl (x_one hc2 (by omega) (2)) rfl (RowsIn.cons rfl RowsIn.nil) rfl (fun _ => rfl) rfl (fun x3 ⟨hv3, hc3⟩ => WL_nil ⟨rfl, ?_⟩))
  refine WA_branch (rs := [4]) (by kernel_rfl) rfl (AllB.cons ?_ AllB.nil)
  refine WB_run [2] rfl rfl (WX_store G rfl rfl rfl rfl rfl rfl rfl rfl rfl rfl rfl (WL_nil ⟨rfl, ?_⟩))
  refine WA_take 5 rfl (by kernel_rfl) (by kernel_rfl) rfl rfl rfl rfl (q_assign rfl rfl) (WA_take 6 rfl (by kernel_rfl) (by kernel_rfl) rfl rfl rfl rfl (q_assign rfl rfl) (?_))
  refine WA_end (by kernel_rfl) (hK5 _ ?_)
  clear hK5 K5
  refine W_ret (finx ((x1.1, x2.1 - 1, x3.1)) (finm_many rfl rfl rfl rfl (rcs_cons (rc_agg rfl ?_) (rcs_cons (rc_v ?_) (rcs_cons (rc_v ?_) rcs_nil))) rfl AftOK.nil) (⟨?_, ?_⟩))
  all_goals (first | rfl | trivial | exact ⟨by assumption, by show -1 ≤ x2.1 - 1; omega, by show x2.1 - 1 ≤ 100000; omega⟩)

end Go.Proofs.YthpllgbaeokeiaaDoor

/- Plain law of lines: where an encoded record is accepted; what recovery gives is synchronized. -/
set_option linter.unusedVariables false
set_option linter.unusedSimpArgs false
set_option linter.unusedSectionVars false
namespace Go.Proofs.YthpllgbaeokeiaaDoor
open Go Go.Rf
def enG (k : Int) (x : Rec) : Bool := inside k 0 59 && recOK x
def enS (k : Int) (x : Rec) : ByteArray := if enG k x then lineT k x else ⟨#[]⟩
theorem enS_size {k : Int} {x : Rec} : (enS k x).size ≤ 423 := by
  unfold enS
  split
  · next h =>
    simp only [enG, Bool.and_eq_true] at h
    have := inside_t.mp h.1
    exact line_size (by omega) (by omega) h.2
  · exact Nat.zero_le _
theorem emp_app {s : ByteArray} : (⟨#[]⟩ : ByteArray) ++ s = s := by
  apply ba_ext; rw [app_list]; rfl
theorem app_emp {s : ByteArray} : s ++ (⟨#[]⟩ : ByteArray) = s := by
  apply ba_ext; rw [app_list]; simp
theorem logN_emp : logN ⟨#[]⟩ = 0 := logN_eq (fun j hj => by omega) (okN_f1 (Nat.zero_le _))
theorem line_first {x : Rec} (hx : recOK x = true) : logN (lineT 0 x) = 1 ∧ posN (lineT 0 x) 1 = (lineT 0 x).size := by
  have h := append_recs (S := ⟨#[]⟩) (r := x) (by rw [logN_emp]; rfl) (by rw [logN_emp]; omega) hx
  rw [logN_emp] at h
  simp only [Int.ofNat_zero, emp_app] at h
  exact ⟨h.1, h.2.1⟩
theorem line_pos {k : Int} {x : Rec} : 0 < (lineT k x).size := by
  have e1 : (⟨#[10]⟩ : ByteArray).size = 1 := rfl
  rw [lineT, ByteArray.size_append]
  omega
def by0 (s : ByteArray) : Nat := (s.data.toList.getD 0 0).toNat
theorem by0_app {a b : ByteArray} (h : 0 < a.size) : by0 (a ++ b) = by0 a := by
  unfold by0
  rw [app_list]
  have : a.data.toList ≠ [] := fun e => by
    have : a.data.toList.length = a.size := Array.length_toList
    rw [e] at this
    simp at this
    omega
  cases he : a.data.toList with
  | nil => exact absurd he this
  | cons y r => rfl
theorem num_small {n : Nat} (h : n < 10) : 0 < (numT n).size ∧ by0 (numT n) = 48 + n := by
  rw [numT_small h]
  refine ⟨Nat.zero_lt_one, ?_⟩
  show (UInt8.ofNat (48 + n)).toNat = 48 + n
  rw [UInt8.toNat_ofNat']
  omega
theorem num_pos {k : Int} (h : 0 ≤ k) (h2 : k ≤ 60) : 0 < (numT k).size ∧ (by0 (numT k) = 48 ↔ k = 0) := by
  obtain ⟨n, rfl⟩ : ∃ n : Nat, k = n := ⟨k.toNat, by omega⟩
  rcases Nat.lt_or_ge n 10 with h3 | h3
  · obtain ⟨g1, g2⟩ := num_small h3
    exact ⟨g1, by rw [g2]; omega⟩
  · obtain ⟨g1, g2⟩ := num_small (n := n / 10) (by omega)
    rw [numT_step h3]
    refine ⟨by rw [ByteArray.size_append]; omega, ?_⟩
    rw [by0_app g1, g2]
    omega
theorem by0_line {k : Int} {x : Rec} (h : 0 ≤ k) (h2 : k ≤ 60) : by0 (lineT k x) = by0 (numT k) := by
  have hp := (num_pos h h2).1
  unfold lineT sealT bodyT
  have s1 : 0 < (numT k ++ (⟨#[32]⟩ : ByteArray)).size := by rw [ByteArray.size_append]; omega
  have s2 : 0 < (numT k ++ (⟨#[32]⟩ : ByteArray) ++ x.c).size := by rw [ByteArray.size_append]; omega
  have s3 : 0 < (numT k ++ (⟨#[32]⟩ : ByteArray) ++ x.c ++ (⟨#[64]⟩ : ByteArray)).size := by rw [ByteArray.size_append]; omega
  have s4 : 0 < (numT k ++ (⟨#[32]⟩ : ByteArray) ++ x.c ++ (⟨#[64]⟩ : ByteArray) ++ x.r).size := by rw [ByteArray.size_append]; omega
  have s5 : 0 < (numT k ++ (⟨#[32]⟩ : ByteArray) ++ x.c ++ (⟨#[64]⟩ : ByteArray) ++ x.r ++ (⟨#[35]⟩ : ByteArray)).size := by rw [ByteArray.size_append]; omega
  rw [by0_app (by rw [ByteArray.size_append]; omega), by0_app s5, by0_app s4, by0_app s3, by0_app s2, by0_app s1, by0_app hp]
theorem line_other {k : Int} {x : Rec} (h : 0 < k) (h2 : k ≤ 59) (hx : recOK x = true) : logN (lineT k x) = 0 := by
  refine logN_eq (fun j hj => by omega) ?_
  cases he : okN (lineT k x) 0 with
  | false => rfl
  | true =>
    exfalso
    have hr : restN (lineT k x) 0 = lineT k x := by rw [restN]; exact ext_all
    rw [okN, okL, hr] at he
    simp only [Bool.and_eq_true] at he
    obtain ⟨h3, h4⟩ := rdK_ok he.2
    have h10 := seal_10 (k := k) (x := x) (by omega) hx
    have hline0 : lineT k x = sealT (bodyT k x) ++ (⟨#[10]⟩ : ByteArray) ++ ⟨#[]⟩ := by
      apply ba_ext
      rw [app_list, lineT]
      simp
    have hfi : firstB (lineT k x) 10 = sealT (bodyT k x) := by
      have := app_first (a := sealT (bodyT k x)) (z := ⟨#[]⟩) (u := 10) h10
      rw [← hline0] at this
      exact this
    rw [hfi] at h4
    have h5 : lineT ((0 : Nat) : Int) (rdE (sealT (bodyT k x)) ((0 : Nat) : Int)) = lineT k x := h4
    have h6 := by0_line (k := ((0 : Nat) : Int)) (x := rdE (sealT (bodyT k x)) ((0 : Nat) : Int)) (by decide) (by decide)
    have h7 := by0_line (k := k) (x := x) (by omega) (by omega)
    rw [h5, h7] at h6
    have h8 := (num_pos (k := ((0 : Nat) : Int)) (by decide) (by decide)).2.mpr rfl
    rw [← h6] at h8
    have := (num_pos (k := k) (by omega) (by omega)).2.mp h8
    omega
theorem en_rc {k : Int} {x : Rec} : rcOK (enS k x) = true ∧ rcN (enS k x) = posI (enS k x) (logN (enS k x)) ∧ (rcE (enS k x)).n = logN (enS k x) := by
  have hs := enS_size (k := k) (x := x)
  obtain ⟨e1, e2, e3⟩ := rc_t (s := enS k x) (by omega)
  exact ⟨e3, e2, by rw [e1]⟩
theorem en_first {k : Int} {x : Rec} (h : enG k x = true) : (0 < rcN (enS k x) ↔ k = 0) ∧ (k = 0 → (rcE (enS k x)).n = 1) := by
  obtain ⟨_, e2, e3⟩ := en_rc (k := k) (x := x)
  have e : enS k x = lineT k x := by rw [enS, if_pos h]
  simp only [enG, Bool.and_eq_true] at h
  have hk := inside_t.mp h.1
  rw [e] at e2 e3 ⊢
  by_cases h0 : k = 0
  · subst h0
    obtain ⟨g1, g2⟩ := line_first h.2
    have hp := line_pos (k := 0) (x := x)
    rw [e2, e3, g1]
    refine ⟨⟨fun _ => rfl, fun _ => ?_⟩, fun _ => rfl⟩
    show (0 : Int) < ((posN _ 1 : Nat) : Int)
    rw [g2]
    omega
  · have g := line_other (k := k) (x := x) (by omega) hk.2 h.2
    rw [e2, g]
    refine ⟨⟨fun hc => ?_, fun hc => absurd hc h0⟩, fun hc => absurd hc h0⟩
    exact absurd hc (by show ¬ (0 : Int) < ((0 : Nat) : Int); omega)
/-! a recovered log -/
theorem rc_okay {t : ByteArray} (h : rcOK t = true) : okLg (rcE t) = true ∧ syE (rcE t) = rcE t := by
  have hs : t.size ≤ 30000 := by simpa [rcOK] using h
  obtain ⟨e1, e2, e3⟩ := rc_t hs
  have hle := logN_le (s := t)
  have hp : (posI t (logN t)).toNat = posN t (logN t) := rfl
  rw [hp] at e1
  have hsz : (t.extract 0 (posN t (logN t))).size = posN t (logN t) := by rw [size_ext hle.2.1]; omega
  have happ : t.extract 0 (posN t (logN t)) ++ t.extract (posN t (logN t)) t.size = t := by
    apply ba_ext
    rw [app_list]
    simp only [ByteArray.data_extract, Array.toList_extract, List.extract_eq_take_drop, Nat.sub_zero, List.drop_zero]
    have hl : t.data.toList.length = t.size := Array.length_toList
    rw [show List.take (t.size - posN t (logN t)) (List.drop (posN t (logN t)) t.data.toList) = List.drop (posN t (logN t)) t.data.toList from List.take_of_length_le (by rw [List.length_drop]; omega)]
    exact List.take_append_drop _ _
  have hd := log_down (D := t.extract 0 (posN t (logN t))) (P := t.extract (posN t (logN t)) t.size) (n := logN t) (by rw [happ]; exact logN_ok.1) (by rw [happ, hsz]; exact Nat.le_refl _)
  rw [happ] at hd
  have hn : logN (t.extract 0 (posN t (logN t))) = logN t := logN_eq hd.1 (okN_f1 (by rw [← hd.2, hsz]; exact Nat.le_refl _))
  have hpd : posN (t.extract 0 (posN t (logN t))) (logN (t.extract 0 (posN t (logN t)))) = (t.extract 0 (posN t (logN t))).size := by rw [hn, ← hd.2, hsz]
  have hok : okLg (rcE t) = true := by
    rw [e1]
    refine okLg_t ?_ ?_ hpd ?_
    · show (t.extract 0 (posN t (logN t))).size + 0 ≤ 30000
      omega
    · show posN (t.extract 0 (posN t (logN t)) ++ ⟨#[]⟩) (logN (t.extract 0 (posN t (logN t)) ++ ⟨#[]⟩)) = (t.extract 0 (posN t (logN t))).size + 0
      rw [app_emp, hpd, Nat.add_zero]
    · show (logN (t.extract 0 (posN t (logN t)) ++ ⟨#[]⟩) : Int) = _
      rw [app_emp, hn]
  refine ⟨hok, ?_⟩
  rw [(sy_t hok).1]
  rw [e1]
  show Lg.mk (t.extract 0 (posN t (logN t)) ++ ⟨#[]⟩) _ _ = _
  rw [app_emp]
theorem rc_size {t : ByteArray} : (rcE t).d.size + (rcE t).p.size ≤ 30000 := by
  unfold rcE
  split
  · have hle := logN_le (s := t)
    have : (t.extract 0 (posI t (logN t)).toNat).size ≤ 25380 := by
      rw [show (posI t (logN t)).toNat = posN t (logN t) from rfl, size_ext hle.2.1]; omega
    show (t.extract 0 (posI t (logN t)).toNat).size + 0 ≤ 30000
    omega
  · exact Nat.zero_le _
end Go.Proofs.YthpllgbaeokeiaaDoor
namespace Go.Proofs.YthpllgbaeokeiaaDoor
open Go Go.Rf
theorem en_eq {k : Int} {x : Rec} : Res.many [.v (.string (if inside k 0 59 && recOK x then lineT k x else ⟨#[]⟩)), .v (.bool (inside k 0 59 && recOK x))] = .many [.v (.string (enS k x)), .v (.bool (enG k x))] := rfl
theorem enS_f {k : Int} {x : Rec} (h : enG k x = false) : enS k x = ⟨#[]⟩ := by rw [enS, h]; rfl
theorem valid_eq {t : ByteArray} (h : rcOK t = true) : Res.one (.v (.bool (okLg (rcE t)))) = .one (.v (.bool true)) := by rw [(rc_okay h).1]
end Go.Proofs.YthpllgbaeokeiaaDoor
namespace Go.Proofs.YthpllgbaeokeiaaDoor
open Go Go.Rf
theorem bool_same {p : Prop} [Decidable p] {a b : Int} (h : p ↔ a = b) : (!(decide p == (a == b))) = false := by
  by_cases hp : p
  · have := h.mp hp
    simp [hp, this]
  · have : ¬ a = b := fun e => hp (h.mpr e)
    simp [hp, this]
end Go.Proofs.YthpllgbaeokeiaaDoor

/- What a crash leaves of a log. -/
set_option linter.unusedVariables false
set_option linter.unusedSimpArgs false
set_option linter.unusedSectionVars false
namespace Go.Proofs.YthpllgbaeokeiaaDoor
open Go Go.Rf
def crG (x : Lg) (k : Int) : Bool := okLg x && inside k 0 x.p.size
def crQ (x : Lg) (k : Int) : ByteArray := x.p.extract ((0 : Int)).toNat k.toNat
def crB (x : Lg) (k : Int) (t : Bool) : List Int := if t && decide (0 < k) then (bytesL (crQ x k)).set (k - 1).toNat (IntKind.u8.wrap (255 - (bytesL (crQ x k)).getD (k - 1).toNat default)) else bytesL (crQ x k)
def crE (x : Lg) (k : Int) (t : Bool) : ByteArray := if crG x k then x.d ++ strOfNums (crB x k t) else ⟨#[]⟩
theorem cr_f {x : Lg} {k : Int} {t : Bool} (h : crG x k = false) : crE x k t = ⟨#[]⟩ ∧ crG x k = false := by rw [crE, h]; exact ⟨rfl, rfl⟩
theorem cr_1 {x : Lg} {k : Int} {t : Bool} (h : okLg x = true) (h2 : inside k 0 x.p.size = true) (h3 : t = true) (h4 : 0 < k) : crE x k t = x.d ++ strOfNums ((bytesL (crQ x k)).set (k - 1).toNat (IntKind.u8.wrap (255 - (bytesL (crQ x k)).getD (k - 1).toNat default))) ∧ crG x k = true := by
  have hg : crG x k = true := by rw [crG, h, h2]; rfl
  rw [crE, hg, crB, h3, decide_eq_true h4]; exact ⟨rfl, rfl⟩
theorem cr_2 {x : Lg} {k : Int} {t : Bool} (h : okLg x = true) (h2 : inside k 0 x.p.size = true) (h3 : ¬ (t = true ∧ 0 < k)) : crE x k t = x.d ++ strOfNums (bytesL (crQ x k)) ∧ crG x k = true := by
  have hg : crG x k = true := by rw [crG, h, h2]; rfl
  have hb : (t && decide (0 < k)) = false := by
    cases t
    · rfl
    · simp only [true_and] at h3
      rw [decide_eq_false h3]; rfl
  rw [crE, hg, crB, hb]; exact ⟨rfl, rfl⟩
theorem crB_len {x : Lg} {k : Int} {t : Bool} : (crB x k t).length ≤ x.p.size := by
  have h : (bytesL (crQ x k)).length ≤ x.p.size := by rw [bytesL_len]; exact ext_le
  unfold crB
  split
  · rw [List.length_set]; exact h
  · exact h
theorem crE_size {x : Lg} {k : Int} {t : Bool} : (crE x k t).size ≤ x.d.size + x.p.size := by
  have h := crB_len (x := x) (k := k) (t := t)
  unfold crE
  split
  · rw [ByteArray.size_append, strOfNums_size]; omega
  · exact Nat.zero_le _
end Go.Proofs.YthpllgbaeokeiaaDoor

/- Plain law of crashes: what a torn log still holds. -/
set_option linter.unusedVariables false
set_option linter.unusedSimpArgs false
set_option linter.unusedSectionVars false
namespace Go.Proofs.YthpllgbaeokeiaaDoor
open Go Go.Rf
theorem plain_245 {s : ByteArray} (h : plainB s = true) : standsB s 245 = false :=
  anyN_f (i := s.size) (fun j hj => by
    have := allN_iff.mp h j hj
    simp only [plainC, Bool.and_eq_true, decide_eq_true_eq] at this
    simp only [beq_eq_false_iff_ne, ne_eq]
    omega) (Nat.le_refl _)
theorem line_245 {k : Int} {x : Rec} (hk : 0 ≤ k) (h : recOK x = true) : standsB (lineT k x) 245 = false := by
  obtain ⟨_, _, h1, h2, _⟩ := recOK_ok h
  have hs := sumS_le (bodyT k x) (bodyT k x).size
  unfold lineT sealT bodyT
  exact stands_app (stands_app (stands_app (stands_app (stands_app (stands_app (stands_app (num_stands hk (by omega)) (stands_no (by decide))) (plain_245 h1)) (stands_no (by decide))) (plain_245 h2)) (stands_no (by decide))) (num_stands (by unfold bodyT at hs; omega) (by omega))) (stands_no (by decide))
theorem not_stands {s : ByteArray} {b : Int} (h : standsB s b = false) {i : Nat} (hi : i < s.size) : byteN s i ≠ b := fun e => by
  have : standsB s b = true := anyN_t (i := i) (by simpa using e) hi
  rw [h] at this
  cases this
theorem line_parts {s : ByteArray} {n : Nat} (h : okN s n = true) : lineT n (recN s n) = lineN s n ++ (⟨#[10]⟩ : ByteArray) ∧ recOK (recN s n) = true := by
  rw [okN, okL] at h
  simp only [Bool.and_eq_true] at h
  obtain ⟨h1, h2⟩ := rdK_ok h.2
  exact ⟨h2, h1⟩
theorem byte_line {s : ByteArray} {n q : Nat} (h : okN s n = true) (hq : q ≤ (lineN s n).size) : byteN s (posN s n + q) = byteN (lineN s n ++ (⟨#[10]⟩ : ByteArray)) q := by
  have hp := okN_pos h
  have hst := fIdx_stands (okN_stands h)
  have hsz : (lineN s n).size = fIdx (restN s n) 10 := firstB_size
  have hrs := restN_size (s := s) (n := n)
  have e1 : byteN s (posN s n + q) = byteN (restN s n) q := (byteN_ext (s := s) (a := posN s n) (b := s.size) (i := q) (by omega)).symm
  rw [e1]
  rcases Nat.lt_or_ge q (lineN s n).size with hlt | hge
  · rw [byteN_app_l hlt]
    have : byteN (lineN s n) q = byteN (restN s n) (0 + q) := byteN_ext (s := restN s n) (a := 0) (b := fIdx (restN s n) 10) (i := q) (by omega)
    rw [this, Nat.zero_add]
  · have e2 : q = (lineN s n).size + 0 := by omega
    rw [e2, byteN_app_r, Nat.add_zero, hsz, hst.2.1]
    rfl
theorem nl_at {s : ByteArray} {n : Nat} (h : okN s n = true) : byteN s (posN s (n + 1) - 1) = 10 := by
  have e : posN s (n + 1) - 1 = posN s n + (lineN s n).size := by rw [posN_succ]; omega
  rw [e, byte_line h (Nat.le_refl _)]
  have := byteN_app_r (a := lineN s n) (b := (⟨#[10]⟩ : ByteArray)) (i := 0)
  rw [Nat.add_zero] at this
  rw [this]
  rfl
theorem no_245 {s : ByteArray} : ∀ {n : Nat}, (∀ j, j < n → okN s j = true) → ∀ i, i < posN s n → byteN s i ≠ 245
  | 0, _, i, hi => absurd hi (Nat.not_lt_zero _)
  | n + 1, h, i, hi => by
    rcases Nat.lt_or_ge i (posN s n) with h1 | h1
    · exact no_245 (fun j hj => h j (by omega)) i h1
    · have hok := h n (by omega)
      obtain ⟨g1, g2⟩ := line_parts hok
      obtain ⟨q, rfl⟩ : ∃ q, i = posN s n + q := ⟨i - posN s n, by omega⟩
      rw [posN_succ] at hi
      rw [byte_line hok (by omega), ← g1]
      refine not_stands (line_245 (by omega) g2) ?_
      rw [g1, ByteArray.size_append]
      show q < _ + 1
      omega
/-- what is left: a prefix, and then at most one byte that is no newline -/
structure Left (s S0 : ByteArray) (m : Nat) : Prop where
  le : m ≤ S0.size
  pre : s.data.toList.take m = S0.data.toList.take m
  sz : s.size = m ∨ (s.size = m + 1 ∧ byteN s m ≠ 10)
theorem Left.recs {s S0 : ByteArray} {m : Nat} (h : Left s S0 m) : logN s ≤ logN S0 ∧ ∀ j, j < logN s → recN s j = recN S0 j := by
  have hA : s.extract 0 m = S0.extract 0 m := by
    apply ba_ext
    rw [ext_list, ext_list]
    simpa using h.pre
  have hms : m ≤ s.size := by rcases h.sz with e | e <;> omega
  have split : ∀ t : ByteArray, m ≤ t.size → t.extract 0 m ++ t.extract m t.size = t := fun t ht => by
    apply ba_ext
    rw [app_list, ext_list, ext_list]
    have hl : t.data.toList.length = t.size := Array.length_toList
    rw [List.take_of_length_le (l := List.drop m t.data.toList) (by rw [List.length_drop]; omega)]
    simp
  have hpos : posN s (logN s) ≤ m := by
    have hp := logN_le (s := s)
    rcases h.sz with e | ⟨e, hb⟩
    · omega
    · rcases Nat.lt_or_ge m (posN s (logN s)) with hlt | hge
      · exfalso
        have he : posN s (logN s) = m + 1 := by omega
        rcases Nat.eq_zero_or_pos (logN s) with h0 | h0
        · rw [h0] at he
          exact absurd he (by show ¬ (0 = m + 1); omega)
        · obtain ⟨j, hj⟩ : ∃ j, logN s = j + 1 := ⟨logN s - 1, by omega⟩
          have hn := nl_at (s := s) (n := j) (logN_ok.1 j (by omega))
          rw [← hj, he] at hn
          exact hb hn
      · exact hge
  have hsA : (s.extract 0 m).size = m := by rw [size_ext hms]; omega
  have e1 := split s hms
  have e2 := split S0 h.le
  have hd := log_down (D := s.extract 0 m) (P := s.extract m s.size) (n := logN s) (by rw [e1]; exact logN_ok.1) (by rw [e1, hsA]; exact hpos)
  have hu := log_up (D := s.extract 0 m) (P := S0.extract m S0.size) (n := logN s) hd.1
  have r1 := recs_up (D := s.extract 0 m) (P := s.extract m s.size) (n := logN s) hd.1
  have r2 := recs_up (D := s.extract 0 m) (P := S0.extract m S0.size) (n := logN s) hd.1
  rw [e1] at r1
  rw [hA, e2] at hu
  rw [hA, e2] at r2
  rw [hA] at r1
  refine ⟨?_, fun j hj => (r1 j hj).trans (r2 j hj).symm⟩
  rcases Nat.lt_or_ge (logN S0) (logN s) with hlt | hge
  · have := hu.1 (logN S0) hlt
    rw [logN_ok.2] at this
    cases this
  · exact hge
theorem cr_left {x : Lg} {k : Int} {t : Bool} (h : crG x k = true) : ∃ m, Left (crE x k t) (sx x) m := by
  simp only [crG, Bool.and_eq_true] at h
  obtain ⟨h1, h2⟩ := h
  have hk := inside_t.mp h2
  have ho := okLg_at h1
  have hsx : (sx x).size = x.d.size + x.p.size := ByteArray.size_append
  have hq : (crQ x k).size = k.toNat := by rw [crQ, size_ext (by omega)]; show k.toNat - 0 = _; omega
  have hql : (crQ x k).data.toList = x.p.data.toList.take k.toNat := by rw [crQ, ext_list]; simp
  have hdl : x.d.data.toList.length = x.d.size := Array.length_toList
  have hpl : x.p.data.toList.length = x.p.size := Array.length_toList
  by_cases ht : t = true ∧ 0 < k
  · obtain ⟨ht1, ht2⟩ := ht
    obtain ⟨e, _⟩ := cr_1 (t := t) h1 h2 ht1 ht2
    refine ⟨x.d.size + (k - 1).toNat, by omega, ?_, Or.inr ⟨?_, ?_⟩⟩
    · rw [e, sx, app_list, app_list, ← hdl, List.take_length_add_append, List.take_length_add_append]
      congr 1
      have e3 : (strOfNums ((bytesL (crQ x k)).set (k - 1).toNat (IntKind.u8.wrap (255 - (bytesL (crQ x k)).getD (k - 1).toNat default)))).data.toList = ((bytesL (crQ x k)).set (k - 1).toNat (IntKind.u8.wrap (255 - (bytesL (crQ x k)).getD (k - 1).toNat default))).map fun n => UInt8.ofNat n.toNat := rfl
      have e4 : (bytesL (crQ x k)).map (fun n => UInt8.ofNat n.toNat) = (crQ x k).data.toList := by
        have := congrArg (fun z => z.data.toList) (strOf_bytes (s := crQ x k))
        exact this
      rw [e3, List.map_set, e4, List.take_set, hql, List.set_eq_of_length_le (by simp; omega), List.take_take]
      congr 1
      omega
    · rw [e, ByteArray.size_append, strOfNums_size, List.length_set, bytesL_len, hq]
      omega
    · have hc : byteN (sx x) (x.d.size + (k - 1).toNat) ≠ 245 := no_245 logN_ok.1 _ (by rw [ho.2.1]; omega)
      have hb : byteN (sx x) (x.d.size + (k - 1).toNat) = byteN x.p (k - 1).toNat := byteN_app_r
      have hcl : (bytesL (crQ x k)).getD (k - 1).toNat default = byteN x.p (k - 1).toNat := by
        have hlt : (k - 1).toNat < (x.p.data.toList.take k.toNat).length := by rw [List.length_take]; omega
        have hlt2 : (k - 1).toNat < x.p.data.toList.length := by omega
        rw [bytesL, hql, List.getD_eq_getElem?_getD, List.getElem?_map, List.getElem?_take_of_lt (by omega), List.getElem?_eq_getElem hlt2, byteN_list, List.getD_eq_getElem?_getD, List.getElem?_eq_getElem hlt2]
        rfl
      have hrange := byteN_le x.p (k - 1).toNat
      rw [e, byteN_app_r, byteN_list]
      have e3 : (strOfNums ((bytesL (crQ x k)).set (k - 1).toNat (IntKind.u8.wrap (255 - (bytesL (crQ x k)).getD (k - 1).toNat default)))).data.toList = ((bytesL (crQ x k)).set (k - 1).toNat (IntKind.u8.wrap (255 - (bytesL (crQ x k)).getD (k - 1).toNat default))).map fun n => UInt8.ofNat n.toNat := rfl
      have hlt : (k - 1).toNat < (bytesL (crQ x k)).length := by rw [bytesL_len, hq]; omega
      rw [e3, List.getD_eq_getElem?_getD, List.getElem?_map, List.getElem?_set_self hlt, hcl]
      rw [hb] at hc
      generalize byteN x.p (k - 1).toNat = c at *
      have hw : IntKind.u8.wrap (255 - c) = 255 - c := by rw [IntKind.wrap_u8]; omega
      rw [hw]
      show ((UInt8.ofNat (255 - c).toNat).toNat : Int) ≠ 10
      rw [UInt8.toNat_ofNat']
      omega
  · obtain ⟨e, _⟩ := cr_2 (t := t) h1 h2 ht
    refine ⟨x.d.size + k.toNat, by omega, ?_, Or.inl ?_⟩
    · rw [e, strOf_bytes, sx, app_list, app_list, ← hdl, List.take_length_add_append, List.take_length_add_append, hql, List.take_take, Nat.min_self]
    · rw [e, strOf_bytes, ByteArray.size_append, hq]
theorem cr_durable {x : Lg} {k : Int} {t : Bool} (h : crG x k = true) : x.d.size ≤ posN (crE x k t) (logN (crE x k t)) := by
  have h' := h
  simp only [crG, Bool.and_eq_true] at h'
  have ho := okLg_at h'.1
  have e : crE x k t = x.d ++ strOfNums (crB x k t) := by rw [crE, h]; rfl
  obtain ⟨g1, g2⟩ := log_up (D := x.d) (P := strOfNums (crB x k t)) (n := logN x.d) logN_ok.1
  rw [← e] at g1 g2
  have hle : logN x.d ≤ logN (crE x k t) := by
    rcases Nat.lt_or_ge (logN (crE x k t)) (logN x.d) with hlt | hge
    · have := g1 _ hlt
      rw [logN_ok.2] at this
      cases this
    · exact hge
  have := posN_mono (s := crE x k t) hle
  rw [g2, ho.2.2.1] at this
  exact this
end Go.Proofs.YthpllgbaeokeiaaDoor
namespace Go.Proofs.YthpllgbaeokeiaaDoor
open Go Go.Rf
theorem cr_ok {x : Lg} {k : Int} {t : Bool} (h : crG x k = true) : rcOK (crE x k t) = true := by
  have hs := crE_size (x := x) (k := k) (t := t)
  simp only [crG, Bool.and_eq_true] at h
  have ho := (okLg_at h.1).1
  rw [rcOK, decide_eq_true (by omega)]
theorem rc_lr {s : ByteArray} (h : rcOK s = true) : lrT (rcE s) = pre (recN s) (logN s) := by
  have hs : s.size ≤ 30000 := by simpa [rcOK] using h
  obtain ⟨e1, _, _⟩ := rc_t hs
  have hle := logN_le (s := s)
  have hp : (posI s (logN s)).toNat = posN s (logN s) := rfl
  rw [hp] at e1
  have hsz : (s.extract 0 (posN s (logN s))).size = posN s (logN s) := by rw [size_ext hle.2.1]; omega
  have happ : s.extract 0 (posN s (logN s)) ++ s.extract (posN s (logN s)) s.size = s := by
    apply ba_ext
    rw [app_list, ext_list, ext_list]
    have hl : s.data.toList.length = s.size := Array.length_toList
    rw [List.take_of_length_le (l := List.drop (posN s (logN s)) s.data.toList) (by rw [List.length_drop]; omega)]
    simp
  have hd := log_down (D := s.extract 0 (posN s (logN s))) (P := s.extract (posN s (logN s)) s.size) (n := logN s) (by rw [happ]; exact logN_ok.1) (by rw [happ, hsz]; exact Nat.le_refl _)
  have hr := recs_up (D := s.extract 0 (posN s (logN s))) (P := s.extract (posN s (logN s)) s.size) (n := logN s) hd.1
  rw [happ] at hd hr
  have hn : logN (s.extract 0 (posN s (logN s))) = logN s := logN_eq hd.1 (okN_f1 (by rw [← hd.2, hsz]; exact Nat.le_refl _))
  rw [(lr_t (rc_okay h).1).1, e1]
  show pre (recN (s.extract 0 (posN s (logN s)) ++ ⟨#[]⟩)) (logN (s.extract 0 (posN s (logN s)) ++ ⟨#[]⟩)) = _
  rw [app_emp, hn]
  exact pre_congr fun j hj => (hr j hj).symm
theorem rec_eq {x : Lg} {k : Int} {t : Bool} (h : crG x k = true) : Res.many [.v (encL (rcE (crE x k t))), .v (.int .i64 (rcN (crE x k t))), .v (.bool (rcOK (crE x k t)))] = .many [.v (encL (rcE (crE x k t))), .v (.int .i64 (posI (crE x k t) (logN (crE x k t)))), .v (.bool true)] := by
  have ho := cr_ok (t := t) h
  have hs : (crE x k t).size ≤ 30000 := by simpa [rcOK] using ho
  rw [ho, (rc_t hs).2.1]
theorem allr_eq {x : Lg} {k : Int} {t : Bool} {e : Nat} (h : crG x k = true) : Res.many [.fr e 2 ((lrT (rcE (crE x k t))).map encRc), .v (.bool (okLg (rcE (crE x k t))))] = .many [.fr e 2 ((pre (recN (crE x k t)) (logN (crE x k t))).map encRc), .v (.bool true)] := by
  rw [rc_lr (cr_ok h), (rc_okay (cr_ok h)).1]
theorem crok_eq {x : Lg} {k : Int} {t : Bool} (h : crG x k = true) : Res.one (.v (.bool (okLg (rcE (crE x k t))))) = .one (.v (.bool true)) := by rw [(rc_okay (cr_ok h)).1]
theorem crG_ok {x : Lg} {k : Int} (h : crG x k = true) : okLg x = true := by simp only [crG, Bool.and_eq_true] at h; exact h.1
theorem cr_dur {x : Lg} {k : Int} {t : Bool} (h : crG x k = true) : (rcE (crE x k t)).d = (crE x k t).extract ((0 : Int)).toNat (posI (crE x k t) (logN (crE x k t))).toNat := by
  have ho := cr_ok (t := t) h
  have hs : (crE x k t).size ≤ 30000 := by simpa [rcOK] using ho
  rw [(rc_t hs).1]
  rfl
end Go.Proofs.YthpllgbaeokeiaaDoor
