/- Walks through functions of the program, one contract each (written by gen.py). -/
import Derived.Test.YthpllgbaeokeiaaDoorW3
import Derived.Test.YthpllgbaeokeiaaDoorW4
set_option maxRecDepth 20000
set_option linter.unusedVariables false
set_option linter.unusedSimpArgs false
namespace Go.Proofs.YthpllgbaeokeiaaDoor
open Go Go.Rf

set_option maxHeartbeats 1600000 in
theorem c_spec_l27Open (s : ByteArray) (hs : s.size ≤ 1048576) : Ctr Tryd.prog 47 [.v (.string s)] (.many [.fr 27 2 ((pre (recN s) (logN s)).map encRc), .v (.int .i64 (posI s (logN s)))]) := by
  refine Ctr.of (n := 52) G Tryd.func47 rfl (by kernel_rfl) rfl rfl rfl (fun w0 => ?_)
  refine W_seq (fun K1 hK1 => ?_)
  refine W_region (WL_cons rfl (WX_q rfl rfl (q_assign rfl rfl) (WL_cons rfl (WX_q rfl rfl (q_assign rfl rfl) (?_)))))
  refine WL_nil (hK1 _ ?_)
  clear hK1 K1
  refine W_seq (fun K2 hK2 => ?_)
  refine W_region (WL_cons rfl (WX_lit G 1 rfl rfl rfl rfl rfl rfl rfl rfl (WL_cons rfl (WX_q rfl rfl (q_assign rfl rfl) (?_)))))
  refine WL_nil (hK2 _ ?_)
  clear hK2 K2
  refine W_seq (fun K3 hK3 => ?_)
  refine W_region (WL_cons rfl (WX_q rfl rfl (q_assign rfl rfl) (?_)))
  refine WL_nil (hK3 _ ?_)
  clear hK3 K3
  refine W_seq (fun K4 hK4 => ?_)
  refine W_block ?_
  refine W_loopK [0] [] (fun (n : Nat) => [(4, .own 0), (5, .v (.int .i64 (posI s n)))]) (fun (n : Nat) => [(0, some (.row 27 2 ((pre (recN s) n).map encRc)))]) (fun (n : Nat) => ∀ j, j < n → okN s j = true) (fun (n : Nat) => 60 - n) 0 rfl rfl ?_ ?_ ?_ ?_
  · exact fun j hj => by omega
  · exact ⟨⟨_, rfl, by rfl⟩, rfl, ⟨⟨_, rfl, by rfl⟩, rfl, trivial⟩⟩
  · exact ⟨⟨_, rfl, by rfl⟩, rfl, rfl, trivial⟩
  · intro n hinv
    have hp := pos_le hinv
    have hpi : posI s n = (posN s n : Int) := rfl
    obtain ⟨hs1, hs2⟩ := splitL_first (s := restN s n) (b := 10)
    have hl1 := splitL_len (s := restN s n) (b := 10)
    have hre : (restN s n).size ≤ s.size := ext_le
    have hll : (lineN s n).size ≤ (restN s n).size := firstB_le
    have hln : (splitL (restN s n) 10).getD ((0 : Int)).toNat default = lineN s n := hs1
    have hlz : ((splitL (restN s n) 10).getD ((0 : Int)).toNat default).size ≤ (restN s n).size := (by rw [hln]; omega)
    have hpl : ((pre (recN s) n).length : Int) = n := (by simp [pre_len])
    simp only [List.cons_append, List.nil_append]
    refine W_seq (fun K5 hK5 => ?_)
    refine W_seq (fun K6 hK6 => ?_)
    refine W_region (WL_cons rfl (WX_q rfl rfl (q_move rfl rfl) (WL_cons rfl (WX_q rfl rfl (q_move rfl rfl) (WL_cons rfl (WX_q rfl rfl (q_len_str G rfl rfl rfl) (WL_cons rfl (WX_q rfl rfl (q_cmp rfl rfl rfl rfl) (WL_cons rfl (WX_q rfl rfl (q_move rfl rfl) (WL_part rfl rfl rfl (fun h1 => ?_) (fun h1 => ?_))))))))))))
    · try rw [h1]
      try simp only [decide_eq_true_eq, decide_eq_false_iff_not, beq_iff_eq, bne_iff_ne, ne_eq, Bool.not_eq_true', Bool.not_eq_false', beq_eq_false_iff_ne, bne_eq_false_iff_eq, Bool.not_eq_true, Bool.not_eq_false, Int.not_lt, Int.not_le, gt_iff_lt, ge_iff_le, Bool.and_eq_true, Bool.and_eq_false_iff, Bool.or_eq_true, Bool.or_eq_false_iff] at h1
      refine WL_run rfl rfl rfl (WX_q rfl rfl (q_move rfl rfl) (WL_run rfl rfl rfl (?_)))
      first | refine WX_q rfl rfl (q_len' G rfl rfl rfl rfl (List.length_map _)) ?_ | refine WX_q rfl rfl (q_len G rfl rfl rfl rfl) ?_
      refine WL_run rfl rfl rfl (WX_q rfl rfl (q_cmp rfl rfl rfl rfl) (WL_cons rfl (WX_q rfl rfl (q_pick_t rfl rfl rfl) (?_))))
      refine WL_nil (hK6 _ ?_)
      clear hK6 K6
      refine W_cond rfl (fun h2 => ?_) (fun h2 => ?_)
      · try rw [h2]
        try simp only [decide_eq_true_eq, decide_eq_false_iff_not, beq_iff_eq, bne_iff_ne, ne_eq, Bool.not_eq_true', Bool.not_eq_false', beq_eq_false_iff_ne, bne_eq_false_iff_eq, Bool.not_eq_true, Bool.not_eq_false, Int.not_lt, Int.not_le, gt_iff_lt, ge_iff_le, Bool.and_eq_true, Bool.and_eq_false_iff, Bool.or_eq_true, Bool.or_eq_false_iff] at h2
        refine W_skip (hK5 _ ?_)
        clear hK5 K5
        refine W_block ?_
        refine W_seq (fun K7 hK7 => ?_)
        refine W_region (WL_cons rfl (WX_q rfl rfl (q_move rfl rfl) (WL_cons rfl (WX_q rfl rfl (q_move rfl rfl) (WL_cons rfl (?_))))))
        refine WX_q rfl rfl (q_cut_str G rfl rfl rfl rfl rfl (by omega) (by omega) (by omega)) ?_
        refine WL_cons rfl (?_)
        refine WX_call 2 rfl rfl rfl (ArgsOK.of rfl) (c_spec_l1Split _ 10 (Nat.le_trans ext_le hs)) rfl rfl ?_
        refine WL_cons rfl (WX_q rfl rfl (q_assign rfl rfl) (?_))
        refine WL_nil (hK7 _ ?_)
        clear hK7 K7
        rw [restN_eq]
        refine W_seq (fun K8 hK8 => ?_)
        refine W_region (WL_cons rfl (WX_q rfl rfl (q_move rfl rfl) (WL_cons rfl (?_))))
        first | refine WX_q rfl rfl (q_index_own G rfl rfl rfl rfl rfl (by omega) (by simp; omega)) ?_ | refine WX_q rfl rfl (q_index_own G rfl rfl rfl rfl rfl (by omega) (by omega)) ?_
        refine WL_cons rfl (?_)
        refine WX_q rfl rfl (q_load_rpt G rfl rfl rfl rfl rfl (getM (by omega) (by simp; omega)) rfl) ?_
        refine WL_cons rfl (WX_q rfl rfl (q_move rfl rfl) (WL_cons rfl (?_)))
        first | refine WX_q rfl rfl (q_len' G rfl rfl rfl rfl (List.length_map _)) ?_ | refine WX_q rfl rfl (q_len G rfl rfl rfl rfl) ?_
        refine WL_cons rfl (?_)
        refine WX_q rfl rfl (q_call rfl (ArgsOK.of rfl) (c_spec_l27Read _ _ (by rw [hln]; omega) (by omega) (by omega)) rfl) ?_
        refine WL_cons rfl (WX_q rfl rfl (q_move rfl rfl) (WL_cons rfl (WX_q rfl rfl (q_extract rfl rfl rfl) (WL_cons rfl (WX_q rfl rfl (q_extract rfl rfl rfl) (WL_cons rfl (WX_alloc_s G 3 rfl rfl rfl rfl rfl (WL_cons rfl (WX_store G rfl rfl rfl rfl rfl rfl rfl rfl rfl rfl rfl (WL_cons rfl (WX_q rfl rfl (q_assign rfl rfl) (?_))))))))))))
        refine WL_nil (hK8 _ ?_)
        clear hK8 K8
        rw [hln, hpl]
        refine W_seq (fun K9 hK9 => ?_)
        refine W_seq (fun K10 hK10 => ?_)
        refine W_region (WL_cons rfl (WX_q rfl rfl (q_move rfl rfl) (WL_cons rfl (?_))))
        first | refine WX_q rfl rfl (q_len' G rfl rfl rfl rfl (List.length_map _)) ?_ | refine WX_q rfl rfl (q_len G rfl rfl rfl rfl) ?_
        refine WL_cons rfl (WX_q rfl rfl (q_cmp rfl rfl rfl rfl) (WL_cons rfl (WX_q rfl rfl (q_move rfl rfl) (WL_part rfl rfl rfl (fun h3 => ?_) (fun h3 => ?_)))))
        · try rw [h3]
          try simp only [decide_eq_true_eq, decide_eq_false_iff_not, beq_iff_eq, bne_iff_ne, ne_eq, Bool.not_eq_true', Bool.not_eq_false', beq_eq_false_iff_ne, bne_eq_false_iff_eq, Bool.not_eq_true, Bool.not_eq_false, Int.not_lt, Int.not_le, gt_iff_lt, ge_iff_le, Bool.and_eq_true, Bool.and_eq_false_iff, Bool.or_eq_true, Bool.or_eq_false_iff] at h3
          have hN := logN_eq hinv (okN_f3 (by omega))
          refine WL_skip rfl rfl rfl rfl rfl rfl (WL_skip rfl rfl rfl rfl rfl rfl (WL_cons rfl (WX_q rfl rfl (q_pick_t rfl rfl rfl) (?_))))
          refine WL_nil (hK10 _ ?_)
          clear hK10 K10
          refine W_true rfl ?_
          refine W_exit (hK4 _ ?_)
          clear hK9 K9 hK4 K4
          refine W_seq (fun K11 hK11 => ?_)
          refine W_region (WL_cons rfl (WX_q rfl rfl (q_move rfl rfl) (WL_cons rfl (WX_q rfl rfl (q_move rfl rfl) (WL_cons rfl (WX_q rfl rfl (q_assign rfl rfl) (WL_cons rfl (WX_q rfl rfl (q_assign rfl rfl) (?_)))))))))
          refine WL_nil (hK11 _ ?_)
          clear hK11 K11
          refine W_ret (fin_many rfl rfl rfl rfl (rcs_cons (rc_own rfl ?_) (rcs_cons (rc_v ?_) rcs_nil)))
          all_goals ((rw [hN]))
        · try rw [h3]
          try simp only [decide_eq_true_eq, decide_eq_false_iff_not, beq_iff_eq, bne_iff_ne, ne_eq, Bool.not_eq_true', Bool.not_eq_false', beq_eq_false_iff_ne, bne_eq_false_iff_eq, Bool.not_eq_true, Bool.not_eq_false, Int.not_lt, Int.not_le, gt_iff_lt, ge_iff_le, Bool.and_eq_true, Bool.and_eq_false_iff, Bool.or_eq_true, Bool.or_eq_false_iff] at h3
          refine WL_run rfl rfl rfl (WX_q rfl rfl (q_move rfl rfl) (WL_run rfl rfl rfl (WX_q rfl rfl (q_not rfl rfl) (WL_cons rfl (WX_q rfl rfl (q_pick_f rfl rfl rfl) (?_))))))
          refine WL_nil (hK10 _ ?_)
          clear hK10 K10
          refine W_cond rfl (fun h4 => ?_) (fun h4 => ?_)
          · try rw [h4]
            try simp only [decide_eq_true_eq, decide_eq_false_iff_not, beq_iff_eq, bne_iff_ne, ne_eq, Bool.not_eq_true', Bool.not_eq_false', beq_eq_false_iff_ne, bne_eq_false_iff_eq, Bool.not_eq_true, Bool.not_eq_false, Int.not_lt, Int.not_le, gt_iff_lt, ge_iff_le, Bool.and_eq_true, Bool.and_eq_false_iff, Bool.or_eq_true, Bool.or_eq_false_iff] at h4
            have hN := logN_eq hinv (okN_f4 h4)
            refine W_exit (hK4 _ ?_)
            clear hK9 K9 hK4 K4
            refine W_seq (fun K12 hK12 => ?_)
            refine W_region (WL_cons rfl (WX_q rfl rfl (q_move rfl rfl) (WL_cons rfl (WX_q rfl rfl (q_move rfl rfl) (WL_cons rfl (WX_q rfl rfl (q_assign rfl rfl) (WL_cons rfl (WX_q rfl rfl (q_assign rfl rfl) (?_)))))))))
            refine WL_nil (hK12 _ ?_)
            clear hK12 K12
            refine W_ret (fin_many rfl rfl rfl rfl (rcs_cons (rc_own rfl ?_) (rcs_cons (rc_v ?_) rcs_nil)))
            all_goals ((rw [hN]))
          · try rw [h4]
            try simp only [decide_eq_true_eq, decide_eq_false_iff_not, beq_iff_eq, bne_iff_ne, ne_eq, Bool.not_eq_true', Bool.not_eq_false', beq_eq_false_iff_ne, bne_eq_false_iff_eq, Bool.not_eq_true, Bool.not_eq_false, Int.not_lt, Int.not_le, gt_iff_lt, ge_iff_le, Bool.and_eq_true, Bool.and_eq_false_iff, Bool.or_eq_true, Bool.or_eq_false_iff] at h4
            have hok := okN_t (s := s) (n := n) (by omega) (by omega) h4
            refine W_skip (hK9 _ ?_)
            clear hK9 K9
            refine W_seq (fun K13 hK13 => ?_)
            refine W_region (WL_cons rfl (WX_q rfl rfl (q_move rfl rfl) (WL_cons rfl (WX_q rfl rfl (q_load_box_struct G rfl rfl rfl rfl rfl rfl) (WL_cons rfl (WX_lit G 4 rfl rfl rfl rfl rfl rfl rfl rfl (WL_cons rfl (?_))))))))
            refine WX_append G np rfl rfl rfl rfl rfl rfl rfl rfl rfl (by simp [pre_len]; omega) rfl rfl ?_
            refine WL_cons rfl (WX_q rfl rfl (q_assign rfl rfl) (?_))
            refine WL_nil (hK13 _ ?_)
            clear hK13 K13
            refine W_region (WL_cons rfl (WX_q rfl rfl (q_move rfl rfl) (WL_cons rfl (WX_q rfl rfl (q_move rfl rfl) (WL_cons rfl (?_))))))
            first | refine WX_q rfl rfl (q_index_own G rfl rfl rfl rfl rfl (by omega) (by simp; omega)) ?_ | refine WX_q rfl rfl (q_index_own G rfl rfl rfl rfl rfl (by omega) (by omega)) ?_
            refine WL_cons rfl (?_)
            refine WX_q rfl rfl (q_load_rpt G rfl rfl rfl rfl rfl (getM (by omega) (by simp; omega)) rfl) ?_
            refine WL_cons rfl (WX_q rfl rfl (q_len_str G rfl rfl rfl) (WL_cons rfl (?_)))
            first | refine WX_q rfl rfl (q_arith rfl rfl rfl rfl (by omega) (by omega)) ?_ | refine WX_q rfl rfl (q_wrap rfl rfl rfl rfl) ?_
            refine WL_cons rfl (?_)
            first | refine WX_q rfl rfl (q_arith rfl rfl rfl rfl (by omega) (by omega)) ?_ | refine WX_q rfl rfl (q_wrap rfl rfl rfl rfl) ?_
            refine WL_cons rfl (WX_q rfl rfl (q_assign rfl rfl) (?_))
            refine WL_nil ⟨(n + 1), ?_, ?_, ⟨⟨_, rfl, by (first | exact (rfl : AV.own 0 = AV.own 0) | (rw [hln, posI_succ (s := s) (n := n)]; done))⟩, rfl, ⟨⟨_, rfl, by (first | exact (rfl : AV.own 0 = AV.own 0) | (rw [hln, posI_succ (s := s) (n := n)]; done))⟩, rfl, trivial⟩⟩, ⟨⟨_, rfl, by (exact congrArg (Row.row _ _) (pre_snoc (g := recN s) (f := encRc) (i := n)))⟩, rfl, rfl, trivial⟩, rfl, rfl, rfl⟩
            · exact upto_succ hinv hok
            · omega
      · try rw [h2]
        try simp only [decide_eq_true_eq, decide_eq_false_iff_not, beq_iff_eq, bne_iff_ne, ne_eq, Bool.not_eq_true', Bool.not_eq_false', beq_eq_false_iff_ne, bne_eq_false_iff_eq, Bool.not_eq_true, Bool.not_eq_false, Int.not_lt, Int.not_le, gt_iff_lt, ge_iff_le, Bool.and_eq_true, Bool.and_eq_false_iff, Bool.or_eq_true, Bool.or_eq_false_iff] at h2
        have hN := logN_eq hinv (okN_f2 (by omega))
        refine W_exit (hK4 _ ?_)
        clear hK5 K5 hK4 K4
        refine W_seq (fun K14 hK14 => ?_)
        refine W_region (WL_cons rfl (WX_q rfl rfl (q_move rfl rfl) (WL_cons rfl (WX_q rfl rfl (q_move rfl rfl) (WL_cons rfl (WX_q rfl rfl (q_assign rfl rfl) (WL_cons rfl (WX_q rfl rfl (q_assign rfl rfl) (?_)))))))))
        refine WL_nil (hK14 _ ?_)
        clear hK14 K14
        refine W_ret (fin_many rfl rfl rfl rfl (rcs_cons (rc_own rfl ?_) (rcs_cons (rc_v ?_) rcs_nil)))
        all_goals ((rw [hN]))
    · try rw [h1]
      try simp only [decide_eq_true_eq, decide_eq_false_iff_not, beq_iff_eq, bne_iff_ne, ne_eq, Bool.not_eq_true', Bool.not_eq_false', beq_eq_false_iff_ne, bne_eq_false_iff_eq, Bool.not_eq_true, Bool.not_eq_false, Int.not_lt, Int.not_le, gt_iff_lt, ge_iff_le, Bool.and_eq_true, Bool.and_eq_false_iff, Bool.or_eq_true, Bool.or_eq_false_iff] at h1
      have hN := logN_eq hinv (okN_f1 (by omega))
      refine WL_skip rfl rfl rfl rfl rfl rfl (WL_skip rfl rfl rfl rfl rfl rfl (WL_skip rfl rfl rfl rfl rfl rfl (WL_cons rfl (WX_q rfl rfl (q_pick_f rfl rfl rfl) (?_)))))
      refine WL_nil (hK6 _ ?_)
      clear hK6 K6
      refine W_false rfl ?_
      refine W_exit (hK4 _ ?_)
      clear hK5 K5 hK4 K4
      refine W_seq (fun K15 hK15 => ?_)
      refine W_region (WL_cons rfl (WX_q rfl rfl (q_move rfl rfl) (WL_cons rfl (WX_q rfl rfl (q_move rfl rfl) (WL_cons rfl (WX_q rfl rfl (q_assign rfl rfl) (WL_cons rfl (WX_q rfl rfl (q_assign rfl rfl) (?_)))))))))
      refine WL_nil (hK15 _ ?_)
      clear hK15 K15
      refine W_ret (fin_many rfl rfl rfl rfl (rcs_cons (rc_own rfl ?_) (rcs_cons (rc_v ?_) rcs_nil)))
      all_goals ((rw [hN]))

set_option maxHeartbeats 1600000 in
theorem c_impl_readRecords (s : ByteArray) (hs : s.size ≤ 1048576) : Ctr Tryd.prog 48 [.v (.string s)] (.many [.fr 27 2 ((pre (recN s) (logN s)).map encRc), .fr 3 1 ((pre (posI s) (logN s + 1)).map encI)]) := by
  refine Ctr.of (n := 37) G Tryd.func48 rfl (by kernel_rfl) rfl rfl rfl (fun w0 => ?_)
  refine W_seq (fun K1 hK1 => ?_)
  refine W_region (WL_cons rfl (WX_q rfl rfl (q_assign rfl rfl) (WL_cons rfl (WX_q rfl rfl (q_assign rfl rfl) (?_)))))
  refine WL_nil (hK1 _ ?_)
  clear hK1 K1
  refine W_seq (fun K2 hK2 => ?_)
  refine W_region (WL_cons rfl (WX_lit G 1 rfl rfl rfl rfl rfl rfl rfl rfl (WL_cons rfl (WX_lit G 2 rfl rfl rfl rfl rfl rfl rfl rfl (WL_cons rfl (WX_q rfl rfl (q_assign rfl rfl) (WL_cons rfl (WX_q rfl rfl (q_assign rfl rfl) (WL_cons rfl (WX_q rfl rfl (q_assign rfl rfl) (?_)))))))))))
  refine WL_nil (hK2 _ ?_)
  clear hK2 K2
  refine W_block ?_
  refine W_loopK [0] [] (fun (n : Nat) => [(4, .own 0), (5, .own 1), (6, .v (.int .i64 (posI s n)))]) (fun (n : Nat) => [(0, some (.row 27 2 ((pre (recN s) n).map encRc))), (1, some (.row 3 1 ((pre (posI s) (n + 1)).map encI)))]) (fun (n : Nat) => ∀ j, j < n → okN s j = true) (fun (n : Nat) => 61 - n) 0 rfl rfl ?_ ?_ ?_ ?_
  · exact fun j hj => by omega
  · exact ⟨⟨_, rfl, by rfl⟩, rfl, ⟨⟨_, rfl, by rfl⟩, rfl, ⟨⟨_, rfl, by rfl⟩, rfl, trivial⟩⟩⟩
  · exact ⟨⟨_, rfl, by rfl⟩, rfl, rfl, ⟨⟨_, rfl, by rfl⟩, rfl, rfl, trivial⟩⟩
  · intro n hinv
    have hp := pos_le hinv
    have hpi : posI s n = (posN s n : Int) := rfl
    have hre : (restN s n).size ≤ s.size := ext_le
    have hll : (lineN s n).size ≤ (restN s n).size := firstB_le
    have hpl : ((pre (recN s) n).length : Int) = n := (by simp [pre_len])
    simp only [List.cons_append, List.nil_append]
    refine W_block ?_
    refine W_seq (fun K3 hK3 => ?_)
    refine W_region (WL_cons rfl (WX_q rfl rfl (q_move rfl rfl) (WL_cons rfl (WX_q rfl rfl (q_move rfl rfl) (WL_cons rfl (?_))))))
    refine WX_q rfl rfl (q_cut_str G rfl rfl rfl rfl rfl (by omega) (by omega) (by omega)) ?_
    refine WL_cons rfl (WX_q rfl rfl (q_move rfl rfl) (WL_cons rfl (?_)))
    first | refine WX_q rfl rfl (q_len' G rfl rfl rfl rfl (List.length_map _)) ?_ | refine WX_q rfl rfl (q_len G rfl rfl rfl rfl) ?_
    refine WL_cons rfl (?_)
    refine WX_q rfl rfl (q_call rfl (ArgsOK.of rfl) (c_impl_readRecord _ _ (Nat.le_trans ext_le hs) (by omega) (by omega)) rfl) ?_
    refine WL_cons rfl (WX_q rfl rfl (q_move rfl rfl) (WL_cons rfl (WX_q rfl rfl (q_extract rfl rfl rfl) (WL_cons rfl (WX_q rfl rfl (q_extract rfl rfl rfl) (WL_cons rfl (WX_q rfl rfl (q_extract rfl rfl rfl) (WL_cons rfl (WX_alloc_s G 3 rfl rfl rfl rfl rfl (WL_cons rfl (WX_store G rfl rfl rfl rfl rfl rfl rfl rfl rfl rfl rfl (WL_cons rfl (WX_q rfl rfl (q_assign rfl rfl) (WL_cons rfl (WX_q rfl rfl (q_assign rfl rfl) (?_))))))))))))))))
    refine WL_nil (hK3 _ ?_)
    clear hK3 K3
    refine W_seq (fun K4 hK4 => ?_)
    refine W_seq (fun K5 hK5 => ?_)
    refine W_region (WL_cons rfl (WX_q rfl rfl (q_move rfl rfl) (WL_cons rfl (WX_q rfl rfl (q_not rfl rfl) (?_)))))
    refine WL_nil (hK5 _ ?_)
    clear hK5 K5
    rw [restN_eq, hpl]
    refine W_cond rfl (fun h1 => ?_) (fun h1 => ?_)
    · try rw [h1]
      try simp only [decide_eq_true_eq, decide_eq_false_iff_not, beq_iff_eq, bne_iff_ne, ne_eq, Bool.not_eq_true', Bool.not_eq_false', beq_eq_false_iff_ne, bne_eq_false_iff_eq, Bool.not_eq_true, Bool.not_eq_false, Int.not_lt, Int.not_le, gt_iff_lt, ge_iff_le, Bool.and_eq_true, Bool.and_eq_false_iff, Bool.or_eq_true, Bool.or_eq_false_iff] at h1
      have hN := logN_eq hinv h1
      refine W_seq (fun K6 hK6 => ?_)
      refine W_region (WL_cons rfl (WX_q rfl rfl (q_move rfl rfl) (WL_cons rfl (WX_q rfl rfl (q_move rfl rfl) (WL_cons rfl (WX_q rfl rfl (q_assign rfl rfl) (WL_cons rfl (WX_q rfl rfl (q_assign rfl rfl) (?_)))))))))
      refine WL_nil (hK6 _ ?_)
      clear hK6 K6
      refine W_ret (fin_many rfl rfl rfl rfl (rcs_cons (rc_own rfl ?_) (rcs_cons (rc_own rfl ?_) rcs_nil)))
      all_goals clear hK4 K4
      all_goals ((rw [hN]))
    · try rw [h1]
      try simp only [decide_eq_true_eq, decide_eq_false_iff_not, beq_iff_eq, bne_iff_ne, ne_eq, Bool.not_eq_true', Bool.not_eq_false', beq_eq_false_iff_ne, bne_eq_false_iff_eq, Bool.not_eq_true, Bool.not_eq_false, Int.not_lt, Int.not_le, gt_iff_lt, ge_iff_le, Bool.and_eq_true, Bool.and_eq_false_iff, Bool.or_eq_true, Bool.or_eq_false_iff] at h1
      have hok : okN s n = true := h1
      obtain ⟨he1, he2⟩ := okN_rr hok
      rw [he1, he2]
      have hb1 := okN_pos hok
      refine W_skip (hK4 _ ?_)
      clear hK4 K4
      refine W_seq (fun K7 hK7 => ?_)
      refine W_region (WL_cons rfl (WX_q rfl rfl (q_move rfl rfl) (WL_cons rfl (WX_q rfl rfl (q_move rfl rfl) (WL_cons rfl (?_))))))
      first | refine WX_q rfl rfl (q_arith rfl rfl rfl rfl (by omega) (by omega)) ?_ | refine WX_q rfl rfl (q_wrap rfl rfl rfl rfl) ?_
      refine WL_cons rfl (WX_q rfl rfl (q_assign rfl rfl) (?_))
      refine WL_nil (hK7 _ ?_)
      clear hK7 K7
      refine W_seq (fun K8 hK8 => ?_)
      refine W_region (WL_cons rfl (WX_q rfl rfl (q_move rfl rfl) (WL_cons rfl (WX_q rfl rfl (q_load_box_struct G rfl rfl rfl rfl rfl rfl) (WL_cons rfl (WX_lit G 4 rfl rfl rfl rfl rfl rfl rfl rfl (WL_cons rfl (?_))))))))
      refine WX_append G np rfl rfl rfl rfl rfl rfl rfl rfl rfl (by simp [pre_len]; omega) rfl rfl ?_
      refine WL_cons rfl (WX_q rfl rfl (q_assign rfl rfl) (?_))
      refine WL_nil (hK8 _ ?_)
      clear hK8 K8
      refine W_region (WL_cons rfl (WX_q rfl rfl (q_move rfl rfl) (WL_cons rfl (WX_q rfl rfl (q_move rfl rfl) (WL_cons rfl (WX_lit G 5 rfl rfl rfl rfl rfl rfl rfl rfl (WL_cons rfl (?_))))))))
      refine WX_append G np rfl rfl rfl rfl rfl rfl rfl rfl rfl (by simp [pre_len]; omega) rfl rfl ?_
      refine WL_cons rfl (WX_q rfl rfl (q_assign rfl rfl) (?_))
      refine WL_nil ⟨(n + 1), ?_, ?_, ⟨⟨_, rfl, by (first | exact (rfl : AV.own 0 = AV.own 0) | exact (rfl : AV.own 1 = AV.own 1) | (rw [posI_succ2 (s := s) (n := n)]; done))⟩, rfl, ⟨⟨_, rfl, by (first | exact (rfl : AV.own 0 = AV.own 0) | exact (rfl : AV.own 1 = AV.own 1) | (rw [posI_succ2 (s := s) (n := n)]; done))⟩, rfl, ⟨⟨_, rfl, by (first | exact (rfl : AV.own 0 = AV.own 0) | exact (rfl : AV.own 1 = AV.own 1) | (rw [posI_succ2 (s := s) (n := n)]; done))⟩, rfl, trivial⟩⟩⟩, ⟨⟨_, rfl, by (first | exact congrArg (Row.row _ _) (pre_snoc (g := recN s) (f := encRc) (i := n)) | (rw [posI_succ2]; exact congrArg (Row.row _ _) (pre_snoc (g := posI s) (f := encI) (i := n + 1))))⟩, rfl, rfl, ⟨⟨_, rfl, by (first | exact congrArg (Row.row _ _) (pre_snoc (g := recN s) (f := encRc) (i := n)) | (rw [posI_succ2]; exact congrArg (Row.row _ _) (pre_snoc (g := posI s) (f := encI) (i := n + 1))))⟩, rfl, rfl, trivial⟩⟩, rfl, rfl, rfl⟩
      · exact upto_succ hinv hok
      · omega

end Go.Proofs.YthpllgbaeokeiaaDoor
