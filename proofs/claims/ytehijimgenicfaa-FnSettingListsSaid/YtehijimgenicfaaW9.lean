/- Walks through functions of the program, one contract each (written by gen.py). -/
import Derived.Test.YtehijimgenicfaaW8
set_option maxRecDepth 20000
set_option linter.unusedVariables false
set_option linter.unusedSimpArgs false
namespace Go.Proofs.Ytehijimgenicfaa
open Go Go.Rf

theorem c_impl_PutSetting (xs : List Setting) (v : Setting) (hn : xs.length ≤ 1048576) (hz : ∀ i, i < xs.length → (xs.getD i default).n.size ≤ 9223372036854775807) (hv : v.n.size ≤ 9223372036854775807) : Ctr Try.prog 22 [.lst 6 (xs.map encTc), .v (encT v)] (.many [.fr 39 6 ((ptT xs v).map encTc), .v (.bool (ptOK xs v))]) := by
  have hwl := wsT_len (xs := xs) (g := v.g)
  refine Ctr.of (n := 40) G Try.func22 rfl (by kernel_rfl) rfl rfl rfl (fun w0 => ?_)
  refine W_seq (fun K1 hK1 => ?_)
  refine W_region (WL_cons rfl (WX_box 1 rfl rfl rfl rfl rfl rfl rfl (WL_cons rfl (WX_q rfl rfl (q_assign rfl rfl) (WL_cons rfl (WX_q rfl rfl (q_assign rfl rfl) (?_)))))))
  refine WL_nil (hK1 _ ?_)
  clear hK1 K1
  refine W_seq (fun K2 hK2 => ?_)
  refine W_seq (fun K3 hK3 => ?_)
  refine W_region (WL_cons rfl (WX_q rfl rfl (q_move rfl rfl) (WL_cons rfl (?_))))
  refine WX_q rfl rfl (q_call rfl (ArgsOK.of rfl) (c_impl_AreSettings _ (by first | assumption | (have := putL_len (xs := xs) (s := v); omega)) (by first | assumption | exact putL_names hz hv)) rfl) ?_
  refine WL_cons rfl (WX_q rfl rfl (q_not rfl rfl) (?_))
  refine WL_nil (hK3 _ ?_)
  clear hK3 K3
  refine W_cond rfl (fun h1 => ?_) (fun h1 => ?_)
  · try rw [h1]
    try simp only [decide_eq_true_eq, decide_eq_false_iff_not, beq_iff_eq, bne_iff_ne, ne_eq, Bool.not_eq_true', Bool.not_eq_false', beq_eq_false_iff_ne, bne_eq_false_iff_eq, Bool.not_eq_true, Bool.not_eq_false, Int.not_lt, Int.not_le, gt_iff_lt, ge_iff_le, Bool.and_eq_true, Bool.and_eq_false_iff, Bool.or_eq_true, Bool.or_eq_false_iff] at h1
    refine W_seq (fun K4 hK4 => ?_)
    refine W_region (WL_cons rfl (WX_q rfl rfl (q_assign rfl rfl) (WL_cons rfl (WX_q rfl rfl (q_assign rfl rfl) (?_)))))
    refine WL_nil (hK4 _ ?_)
    clear hK4 K4
    refine W_ret (fin_many rfl rfl rfl rfl (rcs_cons (rc_nil ?_) (rcs_cons (rc_v ?_) rcs_nil)))
    all_goals clear hK2 K2
    all_goals (first | rfl | (simp [ptOK, ptT, h1]; done) | (have e : ptOK xs v = true := (by simp_all [ptOK]); simp [ptT, e]; done) | (have e : ptOK xs v = false := (by simp_all [ptOK]); simp [ptT, e]; done))
  · try rw [h1]
    try simp only [decide_eq_true_eq, decide_eq_false_iff_not, beq_iff_eq, bne_iff_ne, ne_eq, Bool.not_eq_true', Bool.not_eq_false', beq_eq_false_iff_ne, bne_eq_false_iff_eq, Bool.not_eq_true, Bool.not_eq_false, Int.not_lt, Int.not_le, gt_iff_lt, ge_iff_le, Bool.and_eq_true, Bool.and_eq_false_iff, Bool.or_eq_true, Bool.or_eq_false_iff] at h1
    have hlen := good_len h1
    refine W_skip (hK2 _ ?_)
    clear hK2 K2
    refine W_seq (fun K5 hK5 => ?_)
    refine W_region (WL_cons rfl (WX_q rfl rfl (q_move rfl rfl) (WL_cons rfl (WX_q rfl rfl (q_field_ptr G rfl rfl rfl rfl) (WL_cons rfl (WX_q rfl rfl (q_load_box G rfl rfl rfl rfl rfl rfl rfl) (WL_cons rfl (?_))))))))
    refine WX_call 2 rfl rfl rfl (ArgsOK.of rfl) (c_impl_withoutSetting _ _ (by omega)) rfl rfl ?_
    refine WL_cons rfl (WX_q rfl rfl (q_assign rfl rfl) (WL_cons rfl (WX_q rfl rfl (q_assign rfl rfl) (?_))))
    refine WL_nil (hK5 _ ?_)
    clear hK5 K5
    refine W_seq (fun K6 hK6 => ?_)
    refine W_block ?_
    refine W_loopK [3, 6] [0, 1] (fun (i : Nat) => [(7, .v (.int .i64 (i : Int)))]) (fun (i : Nat) => []) (fun (i : Nat) => i ≤ (wsT xs v.g).length ∧ ∀ j, j < i → ((wsT xs v.g).getD j default).g < v.g) (fun (i : Nat) => (wsT xs v.g).length - i) 0 rfl rfl ?_ ?_ ?_ ?_
    · exact ⟨Nat.zero_le _, fun j hj => by omega⟩
    · exact ⟨⟨_, rfl, by (first | rfl | (simp; done) | (simp; omega))⟩, rfl, trivial⟩
    · exact trivial
    · intro i hinv
      have hi : i ≤ (wsT xs v.g).length := hinv.1
      simp only [List.cons_append, List.nil_append]
      refine W_seq (fun K7 hK7 => ?_)
      refine W_seq (fun K8 hK8 => ?_)
      refine W_draws mixed (by kernel_rfl) (QL_cons rfl (QX_q rfl rfl (q_move rfl rfl) (QL_cons rfl (QX_q rfl rfl (q_move rfl rfl) (QL_cons rfl (?_))))))
      first | refine QX_q rfl rfl (q_len' G rfl rfl rfl rfl (List.length_map _)) ?_ | refine QX_q rfl rfl (q_len G rfl rfl rfl rfl) ?_
      refine QL_cons rfl (QX_q rfl rfl (q_cmp rfl rfl rfl rfl) (QL_cons rfl (QX_q rfl rfl (q_move rfl rfl) (QL_part rfl rfl rfl (fun h2 => ?_) (fun h2 => ?_)))))
      · try rw [h2]
        try simp only [decide_eq_true_eq, decide_eq_false_iff_not, beq_iff_eq, bne_iff_ne, ne_eq, Bool.not_eq_true', Bool.not_eq_false', beq_eq_false_iff_ne, bne_eq_false_iff_eq, Bool.not_eq_true, Bool.not_eq_false, Int.not_lt, Int.not_le, gt_iff_lt, ge_iff_le, Bool.and_eq_true, Bool.and_eq_false_iff, Bool.or_eq_true, Bool.or_eq_false_iff] at h2
        refine QL_run rfl rfl rfl (QX_q rfl rfl (q_move rfl rfl) (QL_run rfl rfl rfl (QX_q rfl rfl (q_move rfl rfl) (QL_run rfl rfl rfl (?_)))))
        first | refine QX_q rfl rfl (q_index_own G rfl rfl rfl rfl rfl (by omega) (by simp; omega)) ?_ | refine QX_q rfl rfl (q_index_own G rfl rfl rfl rfl rfl (by omega) (by omega)) ?_
        refine QL_run rfl rfl rfl (QX_q rfl rfl (q_field_rpt G rfl rfl rfl rfl) (QL_run rfl rfl rfl (?_)))
        refine QX_q rfl rfl (q_load_rpt G rfl rfl rfl rfl rfl (getM (by omega) (by simp; omega)) rfl) ?_
        refine QL_run rfl rfl rfl (QX_q rfl rfl (q_field_ptr G rfl rfl rfl rfl) (QL_run rfl rfl rfl (QX_q rfl rfl (q_load_box G rfl rfl rfl rfl rfl rfl rfl) (QL_run rfl rfl rfl (QX_q rfl rfl (q_cmp rfl rfl rfl rfl) (QL_cons rfl (QX_q rfl rfl (q_pick_t rfl rfl rfl) (?_))))))))
        refine QL_nil (hK8 _ ?_)
        clear hK8 K8
        refine W_cond rfl (fun h3 => ?_) (fun h3 => ?_)
        · try rw [h3]
          try simp only [decide_eq_true_eq, decide_eq_false_iff_not, beq_iff_eq, bne_iff_ne, ne_eq, Bool.not_eq_true', Bool.not_eq_false', beq_eq_false_iff_ne, bne_eq_false_iff_eq, Bool.not_eq_true, Bool.not_eq_false, Int.not_lt, Int.not_le, gt_iff_lt, ge_iff_le, Bool.and_eq_true, Bool.and_eq_false_iff, Bool.or_eq_true, Bool.or_eq_false_iff] at h3
          try simp only [Int.toNat_natCast] at h3
          refine W_skip (hK7 _ ?_)
          clear hK7 K7
          refine W_block ?_
          refine W_region (WL_cons rfl (WX_q rfl rfl (q_move rfl rfl) (WL_cons rfl (?_))))
          first | refine WX_q rfl rfl (q_arith rfl rfl rfl rfl (by omega) (by omega)) ?_ | refine WX_q rfl rfl (q_wrap rfl rfl rfl rfl) ?_
          refine WL_cons rfl (WX_q rfl rfl (q_assign rfl rfl) (?_))
          refine WL_nil ⟨(i + 1), ?_, ?_, ⟨⟨_, rfl, by rfl⟩, rfl, trivial⟩, trivial, rfl, rfl, rfl⟩
          · exact ⟨by omega, upto_succ' hinv.2 (by assumption)⟩
          · omega
        · try rw [h3]
          try simp only [decide_eq_true_eq, decide_eq_false_iff_not, beq_iff_eq, bne_iff_ne, ne_eq, Bool.not_eq_true', Bool.not_eq_false', beq_eq_false_iff_ne, bne_eq_false_iff_eq, Bool.not_eq_true, Bool.not_eq_false, Int.not_lt, Int.not_le, gt_iff_lt, ge_iff_le, Bool.and_eq_true, Bool.and_eq_false_iff, Bool.or_eq_true, Bool.or_eq_false_iff] at h3
          try simp only [Int.toNat_natCast] at h3
          refine W_exit (hK6 _ ?_)
          clear hK7 K7 hK6 K6
          refine W_seq (fun K9 hK9 => ?_)
          refine W_region (WL_cons rfl (WX_q rfl rfl (q_move rfl rfl) (WL_cons rfl (WX_q rfl rfl (q_move rfl rfl) (WL_cons rfl (WX_q rfl rfl (q_load_box_struct G rfl rfl rfl rfl rfl rfl) (WL_cons rfl (WX_lit G 3 rfl rfl rfl rfl rfl rfl rfl rfl (WL_cons rfl (?_))))))))))
          refine WX_callm 4 [1, 2] rfl rfl rfl (c_slices_Insert_impl_Setting_impl_Setting (wsT xs v.g) v i (by omega) (by omega)) rfl (RowsIn.cons rfl (RowsIn.cons rfl RowsIn.nil)) rfl rfl rfl ?_
          refine WL_cons rfl (WX_q rfl rfl (q_assign rfl rfl) (?_))
          refine WL_nil (hK9 _ ?_)
          clear hK9 K9
          refine W_eqrow (id := 3) ((putL xs v).map encTc) rfl (congrArg (List.map encTc) (ws_put h1 (by omega) hinv.2 (fun hk => by omega))) ?_
          refine W_seq (fun K10 hK10 => ?_)
          refine W_seq (fun K11 hK11 => ?_)
          refine W_region (WL_cons rfl (WX_q rfl rfl (q_move rfl rfl) (WL_cons rfl (?_))))
          refine WX_q rfl rfl (q_call rfl (ArgsOK.of rfl) (c_impl_AreSettings _ (by first | assumption | (have := putL_len (xs := xs) (s := v); omega)) (by first | assumption | exact putL_names hz hv)) rfl) ?_
          refine WL_cons rfl (WX_q rfl rfl (q_not rfl rfl) (?_))
          refine WL_nil (hK11 _ ?_)
          clear hK11 K11
          refine W_cond rfl (fun h4 => ?_) (fun h4 => ?_)
          · try rw [h4]
            try simp only [decide_eq_true_eq, decide_eq_false_iff_not, beq_iff_eq, bne_iff_ne, ne_eq, Bool.not_eq_true', Bool.not_eq_false', beq_eq_false_iff_ne, bne_eq_false_iff_eq, Bool.not_eq_true, Bool.not_eq_false, Int.not_lt, Int.not_le, gt_iff_lt, ge_iff_le, Bool.and_eq_true, Bool.and_eq_false_iff, Bool.or_eq_true, Bool.or_eq_false_iff] at h4
            refine W_seq (fun K12 hK12 => ?_)
            refine W_region (WL_cons rfl (WX_q rfl rfl (q_assign rfl rfl) (WL_cons rfl (WX_q rfl rfl (q_assign rfl rfl) (?_)))))
            refine WL_nil (hK12 _ ?_)
            clear hK12 K12
            refine W_ret (fin_many rfl rfl rfl rfl (rcs_cons (rc_nil ?_) (rcs_cons (rc_v ?_) rcs_nil)))
            all_goals clear hK10 K10
            all_goals (first | rfl | (simp [ptOK, ptT, h1]; done) | (have e : ptOK xs v = true := (by simp_all [ptOK]); simp [ptT, e]; done) | (have e : ptOK xs v = false := (by simp_all [ptOK]); simp [ptT, e]; done))
          · try rw [h4]
            try simp only [decide_eq_true_eq, decide_eq_false_iff_not, beq_iff_eq, bne_iff_ne, ne_eq, Bool.not_eq_true', Bool.not_eq_false', beq_eq_false_iff_ne, bne_eq_false_iff_eq, Bool.not_eq_true, Bool.not_eq_false, Int.not_lt, Int.not_le, gt_iff_lt, ge_iff_le, Bool.and_eq_true, Bool.and_eq_false_iff, Bool.or_eq_true, Bool.or_eq_false_iff] at h4
            refine W_skip (hK10 _ ?_)
            clear hK10 K10
            refine W_seq (fun K13 hK13 => ?_)
            refine W_region (WL_cons rfl (WX_q rfl rfl (q_move rfl rfl) (WL_cons rfl (WX_q rfl rfl (q_assign rfl rfl) (WL_cons rfl (WX_q rfl rfl (q_assign rfl rfl) (?_)))))))
            refine WL_nil (hK13 _ ?_)
            clear hK13 K13
            refine W_ret (fin_many rfl rfl rfl rfl (rcs_cons (rc_own rfl ?_) (rcs_cons (rc_v ?_) rcs_nil)))
            all_goals (first | rfl | (simp [ptOK, ptT, h1]; done) | (have e : ptOK xs v = true := (by simp_all [ptOK]); simp [ptT, e]; done) | (have e : ptOK xs v = false := (by simp_all [ptOK]); simp [ptT, e]; done))
      · try rw [h2]
        try simp only [decide_eq_true_eq, decide_eq_false_iff_not, beq_iff_eq, bne_iff_ne, ne_eq, Bool.not_eq_true', Bool.not_eq_false', beq_eq_false_iff_ne, bne_eq_false_iff_eq, Bool.not_eq_true, Bool.not_eq_false, Int.not_lt, Int.not_le, gt_iff_lt, ge_iff_le, Bool.and_eq_true, Bool.and_eq_false_iff, Bool.or_eq_true, Bool.or_eq_false_iff] at h2
        refine QL_skip rfl rfl rfl rfl rfl rfl (QL_skip rfl rfl rfl rfl rfl rfl (QL_skip rfl rfl rfl rfl rfl rfl (QL_skip rfl rfl rfl rfl rfl rfl (QL_skip rfl rfl rfl rfl rfl rfl (QL_skip rfl rfl rfl rfl rfl rfl (QL_skip rfl rfl rfl rfl rfl rfl (QL_skip rfl rfl rfl rfl rfl rfl (QL_cons rfl (QX_q rfl rfl (q_pick_f rfl rfl rfl) (?_))))))))))
        refine QL_nil (hK8 _ ?_)
        clear hK8 K8
        refine W_false rfl ?_
        refine W_exit (hK6 _ ?_)
        clear hK7 K7 hK6 K6
        refine W_seq (fun K14 hK14 => ?_)
        refine W_region (WL_cons rfl (WX_q rfl rfl (q_move rfl rfl) (WL_cons rfl (WX_q rfl rfl (q_move rfl rfl) (WL_cons rfl (WX_q rfl rfl (q_load_box_struct G rfl rfl rfl rfl rfl rfl) (WL_cons rfl (WX_lit G 3 rfl rfl rfl rfl rfl rfl rfl rfl (WL_cons rfl (?_))))))))))
        refine WX_callm 4 [1, 2] rfl rfl rfl (c_slices_Insert_impl_Setting_impl_Setting (wsT xs v.g) v i (by omega) (by omega)) rfl (RowsIn.cons rfl (RowsIn.cons rfl RowsIn.nil)) rfl rfl rfl ?_
        refine WL_cons rfl (WX_q rfl rfl (q_assign rfl rfl) (?_))
        refine WL_nil (hK14 _ ?_)
        clear hK14 K14
        refine W_eqrow (id := 3) ((putL xs v).map encTc) rfl (congrArg (List.map encTc) (ws_put h1 (by omega) hinv.2 (fun hk => by omega))) ?_
        refine W_seq (fun K15 hK15 => ?_)
        refine W_seq (fun K16 hK16 => ?_)
        refine W_region (WL_cons rfl (WX_q rfl rfl (q_move rfl rfl) (WL_cons rfl (?_))))
        refine WX_q rfl rfl (q_call rfl (ArgsOK.of rfl) (c_impl_AreSettings _ (by first | assumption | (have := putL_len (xs := xs) (s := v); omega)) (by first | assumption | exact putL_names hz hv)) rfl) ?_
        refine WL_cons rfl (WX_q rfl rfl (q_not rfl rfl) (?_))
        refine WL_nil (hK16 _ ?_)
        clear hK16 K16
        refine W_cond rfl (fun h5 => ?_) (fun h5 => ?_)
        · try rw [h5]
          try simp only [decide_eq_true_eq, decide_eq_false_iff_not, beq_iff_eq, bne_iff_ne, ne_eq, Bool.not_eq_true', Bool.not_eq_false', beq_eq_false_iff_ne, bne_eq_false_iff_eq, Bool.not_eq_true, Bool.not_eq_false, Int.not_lt, Int.not_le, gt_iff_lt, ge_iff_le, Bool.and_eq_true, Bool.and_eq_false_iff, Bool.or_eq_true, Bool.or_eq_false_iff] at h5
          refine W_seq (fun K17 hK17 => ?_)
          refine W_region (WL_cons rfl (WX_q rfl rfl (q_assign rfl rfl) (WL_cons rfl (WX_q rfl rfl (q_assign rfl rfl) (?_)))))
          refine WL_nil (hK17 _ ?_)
          clear hK17 K17
          refine W_ret (fin_many rfl rfl rfl rfl (rcs_cons (rc_nil ?_) (rcs_cons (rc_v ?_) rcs_nil)))
          all_goals clear hK15 K15
          all_goals (first | rfl | (simp [ptOK, ptT, h1]; done) | (have e : ptOK xs v = true := (by simp_all [ptOK]); simp [ptT, e]; done) | (have e : ptOK xs v = false := (by simp_all [ptOK]); simp [ptT, e]; done))
        · try rw [h5]
          try simp only [decide_eq_true_eq, decide_eq_false_iff_not, beq_iff_eq, bne_iff_ne, ne_eq, Bool.not_eq_true', Bool.not_eq_false', beq_eq_false_iff_ne, bne_eq_false_iff_eq, Bool.not_eq_true, Bool.not_eq_false, Int.not_lt, Int.not_le, gt_iff_lt, ge_iff_le, Bool.and_eq_true, Bool.and_eq_false_iff, Bool.or_eq_true, Bool.or_eq_false_iff] at h5
          refine W_skip (hK15 _ ?_)
          clear hK15 K15
          refine W_seq (fun K18 hK18 => ?_)
          refine W_region (WL_cons rfl (WX_q rfl rfl (q_move rfl rfl) (WL_cons rfl (WX_q rfl rfl (q_assign rfl rfl) (WL_cons rfl (WX_q rfl rfl (q_assign rfl rfl) (?_)))))))
          refine WL_nil (hK18 _ ?_)
          clear hK18 K18
          refine W_ret (fin_many rfl rfl rfl rfl (rcs_cons (rc_own rfl ?_) (rcs_cons (rc_v ?_) rcs_nil)))
          all_goals (first | rfl | (simp [ptOK, ptT, h1]; done) | (have e : ptOK xs v = true := (by simp_all [ptOK]); simp [ptT, e]; done) | (have e : ptOK xs v = false := (by simp_all [ptOK]); simp [ptT, e]; done))

end Go.Proofs.Ytehijimgenicfaa
