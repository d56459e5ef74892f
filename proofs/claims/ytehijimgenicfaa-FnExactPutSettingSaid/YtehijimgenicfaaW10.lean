/- Walks through functions of the program, one contract each (written by gen.py). -/
import Derived.Test.YtehijimgenicfaaW6
import Derived.Test.YtehijimgenicfaaW9
set_option maxRecDepth 20000
set_option linter.unusedVariables false
set_option linter.unusedSimpArgs false
namespace Go.Proofs.Ytehijimgenicfaa
open Go Go.Rf

theorem c_laws_FnExactPutSetting (xs : List Setting) (v : Setting) (h0 : xs.length ≤ 9223372036854775807) (hz : ∀ i, i < xs.length → (xs.getD i default).n.size ≤ 9223372036854775807) (hv : v.n.size ≤ 9223372036854775807) : Ctr Try.prog 6 [.lst 6 (xs.map encTc), .v (encT v)] (.one (.v (.bool true))) := by
  refine Ctr.of (n := 109) G Try.func6 rfl (by kernel_rfl) rfl rfl rfl (fun w0 => ?_)
  refine W_seq (fun K1 hK1 => ?_)
  refine W_region (WL_cons rfl (WX_box 1 rfl rfl rfl rfl rfl rfl rfl (WL_cons rfl (WX_q rfl rfl (q_assign rfl rfl) (?_)))))
  refine WL_nil (hK1 _ ?_)
  clear hK1 K1
  refine W_seq (fun K2 hK2 => ?_)
  refine W_region (WL_cons rfl (WX_q rfl rfl (q_assign rfl rfl) (?_)))
  refine WL_nil (hK2 _ ?_)
  clear hK2 K2
  refine W_seq (fun K3 hK3 => ?_)
  refine W_region (WL_cons rfl (WX_q rfl rfl (q_move rfl rfl) (WL_cons rfl (WX_q rfl rfl (q_move rfl rfl) (WL_cons rfl (?_))))))
  refine WX_q rfl rfl (q_call rfl (ArgsOK.of rfl) (c_laws_szSettingS _ _ (by assumption) (by assumption) (by first | rfl | omega)) rfl) ?_
  refine WL_cons rfl (WX_q rfl rfl (q_assign rfl rfl) (?_))
  refine WL_nil (hK3 _ ?_)
  clear hK3 K3
  refine W_seq (fun K4 hK4 => ?_)
  refine W_seq (fun K5 hK5 => ?_)
  refine W_region (WL_cons rfl (WX_q rfl rfl (q_move rfl rfl) (WL_cons rfl (WX_q rfl rfl (q_cmp rfl rfl rfl rfl) (?_)))))
  refine WL_nil (hK5 _ ?_)
  clear hK5 K5
  refine W_cond rfl (fun h1 => ?_) (fun h1 => ?_)
  · try rw [h1]
    try simp only [decide_eq_true_eq, decide_eq_false_iff_not, beq_iff_eq, bne_iff_ne, ne_eq, Bool.not_eq_true', Bool.not_eq_false', beq_eq_false_iff_ne, bne_eq_false_iff_eq, Bool.not_eq_true, Bool.not_eq_false, Int.not_lt, Int.not_le, gt_iff_lt, ge_iff_le, Bool.and_eq_true, Bool.and_eq_false_iff, Bool.or_eq_true, Bool.or_eq_false_iff] at h1
    refine W_seq (fun K6 hK6 => ?_)
    refine W_region (WL_cons rfl (WX_q rfl rfl (q_assign rfl rfl) (?_)))
    refine WL_nil (hK6 _ ?_)
    clear hK6 K6
    refine W_ret (fin_one rfl (rc_v ?_))
    all_goals clear hK4 K4
    all_goals (first | rfl | (simp_all; done) | (simp_all; omega) | (exfalso; omega))
  · try rw [h1]
    try simp only [decide_eq_true_eq, decide_eq_false_iff_not, beq_iff_eq, bne_iff_ne, ne_eq, Bool.not_eq_true', Bool.not_eq_false', beq_eq_false_iff_ne, bne_eq_false_iff_eq, Bool.not_eq_true, Bool.not_eq_false, Int.not_lt, Int.not_le, gt_iff_lt, ge_iff_le, Bool.and_eq_true, Bool.and_eq_false_iff, Bool.or_eq_true, Bool.or_eq_false_iff] at h1
    have hsz := szT_bd (xs := xs) (by omega)
    have hn := hsz.1
    have hs2 := hsz.2
    have hsl := ptT_len (xs := xs) (s := v)
    refine W_skip (hK4 _ ?_)
    clear hK4 K4
    refine W_seq (fun K7 hK7 => ?_)
    refine W_region (WL_cons rfl (WX_q rfl rfl (q_load_box_struct G rfl rfl rfl rfl rfl rfl) (WL_cons rfl (WX_q rfl rfl (q_move rfl rfl) (WL_cons rfl (?_))))))
    refine WX_q rfl rfl (q_call rfl (ArgsOK.of rfl) (c_laws_szSetting _ _ (by first | assumption | omega) (by first | assumption | omega)) rfl) ?_
    refine WL_cons rfl (WX_q rfl rfl (q_assign rfl rfl) (?_))
    refine WL_nil (hK7 _ ?_)
    clear hK7 K7
    refine W_seq (fun K8 hK8 => ?_)
    refine W_seq (fun K9 hK9 => ?_)
    refine W_region (WL_cons rfl (WX_q rfl rfl (q_move rfl rfl) (WL_cons rfl (WX_q rfl rfl (q_cmp rfl rfl rfl rfl) (?_)))))
    refine WL_nil (hK9 _ ?_)
    clear hK9 K9
    refine W_cond rfl (fun h2 => ?_) (fun h2 => ?_)
    · try rw [h2]
      try simp only [decide_eq_true_eq, decide_eq_false_iff_not, beq_iff_eq, bne_iff_ne, ne_eq, Bool.not_eq_true', Bool.not_eq_false', beq_eq_false_iff_ne, bne_eq_false_iff_eq, Bool.not_eq_true, Bool.not_eq_false, Int.not_lt, Int.not_le, gt_iff_lt, ge_iff_le, Bool.and_eq_true, Bool.and_eq_false_iff, Bool.or_eq_true, Bool.or_eq_false_iff] at h2
      refine W_seq (fun K10 hK10 => ?_)
      refine W_region (WL_cons rfl (WX_q rfl rfl (q_assign rfl rfl) (?_)))
      refine WL_nil (hK10 _ ?_)
      clear hK10 K10
      refine W_ret (fin_one rfl (rc_v ?_))
      all_goals clear hK8 K8
      all_goals (first | rfl | (simp_all; done) | (simp_all; omega) | (exfalso; omega))
    · try rw [h2]
      try simp only [decide_eq_true_eq, decide_eq_false_iff_not, beq_iff_eq, bne_iff_ne, ne_eq, Bool.not_eq_true', Bool.not_eq_false', beq_eq_false_iff_ne, bne_eq_false_iff_eq, Bool.not_eq_true, Bool.not_eq_false, Int.not_lt, Int.not_le, gt_iff_lt, ge_iff_le, Bool.and_eq_true, Bool.and_eq_false_iff, Bool.or_eq_true, Bool.or_eq_false_iff] at h2
      refine W_skip (hK8 _ ?_)
      clear hK8 K8
      refine W_seq (fun K11 hK11 => ?_)
      refine W_drawsH 10 [0] mixed (by kernel_rfl) rfl rfl (fun r0 => ?_) (fun _ h => h)
      refine WA_take 0 rfl (by kernel_rfl) (by kernel_rfl) rfl rfl rfl rfl (q_move rfl rfl) (WA_take 2 rfl (by kernel_rfl) (by kernel_rfl) rfl rfl rfl rfl (q_load_box_struct G rfl rfl rfl rfl rfl rfl) (?_))
      refine WA_branch (rs := [1]) (by kernel_rfl) rfl (AllB.cons ?_ AllB.nil)
      refine WB_run [0] rfl rfl (WX_call 2 rfl rfl rfl (ArgsOK.of rfl) (c_laws_toSettingS _ (by assumption)) rfl rfl (WL_nil ⟨rfl, ?_⟩))
      refine WA_branch (rs := [3]) (by kernel_rfl) rfl (AllB.cons ?_ AllB.nil)
      refine WB_run [0] rfl rfl (WX_q rfl rfl (q_call rfl (ArgsOK.of rfl) (c_laws_toSetting _) rfl) (WL_nil ⟨rfl, ?_⟩))
      refine WA_branch (rs := [4]) (by kernel_rfl) rfl (AllB.cons ?_ AllB.nil)
      refine WB_run [0] rfl rfl (WX_call 3 rfl rfl rfl (ArgsOK.of rfl) (c_spec_PutSetting _ _ (by omega) (by assumption) (by assumption)) rfl rfl (WL_nil ⟨rfl, ?_⟩))
      refine WA_take 5 rfl (by kernel_rfl) (by kernel_rfl) rfl rfl rfl rfl (q_move rfl rfl) (WA_take 6 rfl (by kernel_rfl) (by kernel_rfl) rfl rfl rfl rfl (q_extract rfl rfl rfl) (WA_take 7 rfl (by kernel_rfl) (by kernel_rfl) rfl rfl rfl rfl (q_extract rfl rfl rfl) (WA_take 8 rfl (by kernel_rfl) (by kernel_rfl) rfl rfl rfl rfl (q_assign rfl rfl) (WA_take 9 rfl (by kernel_rfl) (by kernel_rfl) rfl rfl rfl rfl (q_assign rfl rfl) (?_)))))
      refine WA_end (by kernel_rfl) (hK11 _ ?_)
      clear hK11 K11
      refine W_seq (fun K12 hK12 => ?_)
      refine W_region (WL_cons rfl (WX_q rfl rfl (q_move rfl rfl) (WL_cons rfl (?_))))
      refine WX_call 4 rfl rfl rfl (ArgsOK.of rfl) (c_laws_toSettingS _ (by assumption)) rfl rfl ?_
      refine WL_cons rfl (WX_q rfl rfl (q_assign rfl rfl) (?_))
      refine WL_nil (hK12 _ ?_)
      clear hK12 K12
      refine W_seq (fun K13 hK13 => ?_)
      refine W_region (WL_cons rfl (WX_q rfl rfl (q_move rfl rfl) (WL_cons rfl (WX_q rfl rfl (q_load_box_struct G rfl rfl rfl rfl rfl rfl) (WL_cons rfl (?_))))))
      refine WX_q rfl rfl (q_call rfl (ArgsOK.of rfl) (c_laws_toSetting _) rfl) ?_
      refine WL_cons rfl (?_)
      refine WX_call 5 rfl rfl rfl (ArgsOK.of rfl) (c_impl_PutSetting _ _ (by omega) (by assumption) (by assumption)) rfl rfl ?_
      refine WL_cons rfl (WX_q rfl rfl (q_move rfl rfl) (WL_cons rfl (WX_q rfl rfl (q_extract rfl rfl rfl) (WL_cons rfl (WX_q rfl rfl (q_extract rfl rfl rfl) (WL_cons rfl (WX_q rfl rfl (q_assign rfl rfl) (WL_cons rfl (WX_q rfl rfl (q_assign rfl rfl) (?_))))))))))
      refine WL_nil (hK13 _ ?_)
      clear hK13 K13
      refine W_seq (fun K14 hK14 => ?_)
      refine W_seq (fun K15 hK15 => ?_)
      refine W_region (WL_cons rfl (WX_q rfl rfl (q_move rfl rfl) (WL_cons rfl (WX_q rfl rfl (q_move rfl rfl) (WL_cons rfl (?_))))))
      refine WX_q rfl rfl (q_call rfl (ArgsOK.of rfl) (c_laws_eqSettingS _ _ (by omega)) rfl) ?_
      refine WL_cons rfl (WX_q rfl rfl (q_not rfl rfl) (WL_cons rfl (WX_q rfl rfl (q_move rfl rfl) (WL_part rfl rfl rfl (fun h3 => ?_) (fun h3 => ?_)))))
      · try rw [h3]
        try simp only [decide_eq_true_eq, decide_eq_false_iff_not, beq_iff_eq, bne_iff_ne, ne_eq, Bool.not_eq_true', Bool.not_eq_false', beq_eq_false_iff_ne, bne_eq_false_iff_eq, Bool.not_eq_true, Bool.not_eq_false, Int.not_lt, Int.not_le, gt_iff_lt, ge_iff_le, Bool.and_eq_true, Bool.and_eq_false_iff, Bool.or_eq_true, Bool.or_eq_false_iff] at h3
        refine WL_skip rfl rfl rfl rfl rfl rfl (WL_skip rfl rfl rfl rfl rfl rfl (WL_skip rfl rfl rfl rfl rfl rfl (WL_cons rfl (WX_q rfl rfl (q_pick_t rfl rfl rfl) (?_)))))
        refine WL_nil (hK15 _ ?_)
        clear hK15 K15
        refine W_true rfl ?_
        refine W_seq (fun K16 hK16 => ?_)
        refine W_region (WL_cons rfl (WX_q rfl rfl (q_assign rfl rfl) (?_)))
        refine WL_nil (hK16 _ ?_)
        clear hK16 K16
        refine W_ret (fin_one rfl (rc_v ?_))
        all_goals clear hK14 K14
        all_goals (first | rfl | (simp_all; done) | (simp_all; omega) | (exfalso; omega))
      · try rw [h3]
        try simp only [decide_eq_true_eq, decide_eq_false_iff_not, beq_iff_eq, bne_iff_ne, ne_eq, Bool.not_eq_true', Bool.not_eq_false', beq_eq_false_iff_ne, bne_eq_false_iff_eq, Bool.not_eq_true, Bool.not_eq_false, Int.not_lt, Int.not_le, gt_iff_lt, ge_iff_le, Bool.and_eq_true, Bool.and_eq_false_iff, Bool.or_eq_true, Bool.or_eq_false_iff] at h3
        refine WL_run rfl rfl rfl (WX_q rfl rfl (q_move rfl rfl) (WL_run rfl rfl rfl (WX_q rfl rfl (q_move rfl rfl) (WL_run rfl rfl rfl (WX_q rfl rfl (q_bne (G 4 _ rfl).1 rfl rfl rfl) (WL_cons rfl (WX_q rfl rfl (q_pick_f rfl rfl rfl) (?_))))))))
        refine WL_nil (hK15 _ ?_)
        clear hK15 K15
        refine W_cond rfl (fun h4 => ?_) (fun h4 => ?_)
        · try rw [h4]
          try simp only [decide_eq_true_eq, decide_eq_false_iff_not, beq_iff_eq, bne_iff_ne, ne_eq, Bool.not_eq_true', Bool.not_eq_false', beq_eq_false_iff_ne, bne_eq_false_iff_eq, Bool.not_eq_true, Bool.not_eq_false, Int.not_lt, Int.not_le, gt_iff_lt, ge_iff_le, Bool.and_eq_true, Bool.and_eq_false_iff, Bool.or_eq_true, Bool.or_eq_false_iff] at h4
          refine W_seq (fun K17 hK17 => ?_)
          refine W_region (WL_cons rfl (WX_q rfl rfl (q_assign rfl rfl) (?_)))
          refine WL_nil (hK17 _ ?_)
          clear hK17 K17
          refine W_ret (fin_one rfl (rc_v ?_))
          all_goals clear hK14 K14
          all_goals (first | rfl | (simp_all; done) | (simp_all; omega) | (exfalso; omega))
        · try rw [h4]
          try simp only [decide_eq_true_eq, decide_eq_false_iff_not, beq_iff_eq, bne_iff_ne, ne_eq, Bool.not_eq_true', Bool.not_eq_false', beq_eq_false_iff_ne, bne_eq_false_iff_eq, Bool.not_eq_true, Bool.not_eq_false, Int.not_lt, Int.not_le, gt_iff_lt, ge_iff_le, Bool.and_eq_true, Bool.and_eq_false_iff, Bool.or_eq_true, Bool.or_eq_false_iff] at h4
          refine W_skip (hK14 _ ?_)
          clear hK14 K14
          refine W_seq (fun K18 hK18 => ?_)
          refine W_seq (fun K19 hK19 => ?_)
          refine W_region (WL_cons rfl (WX_q rfl rfl (q_move rfl rfl) (WL_cons rfl (WX_q rfl rfl (q_move rfl rfl) (WL_cons rfl (?_))))))
          refine WX_call 6 rfl rfl rfl (ArgsOK.of rfl) (c_laws_toSettingS _ (by assumption)) rfl rfl ?_
          refine WL_cons rfl (?_)
          refine WX_q rfl rfl (q_call rfl (ArgsOK.of rfl) (c_laws_eqSettingS _ _ (by omega)) rfl) ?_
          refine WL_cons rfl (WX_q rfl rfl (q_not rfl rfl) (?_))
          refine WL_nil (hK19 _ ?_)
          clear hK19 K19
          refine W_cond rfl (fun h5 => ?_) (fun h5 => ?_)
          · try rw [h5]
            try simp only [decide_eq_true_eq, decide_eq_false_iff_not, beq_iff_eq, bne_iff_ne, ne_eq, Bool.not_eq_true', Bool.not_eq_false', beq_eq_false_iff_ne, bne_eq_false_iff_eq, Bool.not_eq_true, Bool.not_eq_false, Int.not_lt, Int.not_le, gt_iff_lt, ge_iff_le, Bool.and_eq_true, Bool.and_eq_false_iff, Bool.or_eq_true, Bool.or_eq_false_iff] at h5
            refine W_seq (fun K20 hK20 => ?_)
            refine W_region (WL_cons rfl (WX_q rfl rfl (q_assign rfl rfl) (?_)))
            refine WL_nil (hK20 _ ?_)
            clear hK20 K20
            refine W_ret (fin_one rfl (rc_v ?_))
            all_goals clear hK18 K18
            all_goals (first | rfl | (simp_all; done) | (simp_all; omega) | (exfalso; omega))
          · try rw [h5]
            try simp only [decide_eq_true_eq, decide_eq_false_iff_not, beq_iff_eq, bne_iff_ne, ne_eq, Bool.not_eq_true', Bool.not_eq_false', beq_eq_false_iff_ne, bne_eq_false_iff_eq, Bool.not_eq_true, Bool.not_eq_false, Int.not_lt, Int.not_le, gt_iff_lt, ge_iff_le, Bool.and_eq_true, Bool.and_eq_false_iff, Bool.or_eq_true, Bool.or_eq_false_iff] at h5
            refine W_skip (hK18 _ ?_)
            clear hK18 K18
            refine W_seq (fun K21 hK21 => ?_)
            refine W_region (WL_cons rfl (WX_q rfl rfl (q_assign rfl rfl) (?_)))
            refine WL_nil (hK21 _ ?_)
            clear hK21 K21
            refine W_seq (fun K22 hK22 => ?_)
            refine W_region (WL_cons rfl (WX_q rfl rfl (q_move rfl rfl) (WL_cons rfl (WX_q rfl rfl (q_move rfl rfl) (WL_cons rfl (?_))))))
            refine WX_callm 6 [3] rfl rfl rfl (c_laws_markSettingS _ (by omega)) rfl (RowsIn.cons rfl RowsIn.nil) rfl rfl rfl ?_
            refine WL_cons rfl (WX_q rfl rfl (q_assign rfl rfl) (?_))
            refine WL_nil (hK22 _ ?_)
            clear hK22 K22
            refine W_seq (fun K23 hK23 => ?_)
            refine W_seq (fun K24 hK24 => ?_)
            refine W_region (WL_cons rfl (WX_q rfl rfl (q_move rfl rfl) (WL_cons rfl (WX_q rfl rfl (q_cmp rfl rfl rfl rfl) (WL_cons rfl (WX_q rfl rfl (q_move rfl rfl) (WL_part rfl rfl rfl (fun h6 => ?_) (fun h6 => ?_))))))))
            · try rw [h6]
              try simp only [decide_eq_true_eq, decide_eq_false_iff_not, beq_iff_eq, bne_iff_ne, ne_eq, Bool.not_eq_true', Bool.not_eq_false', beq_eq_false_iff_ne, bne_eq_false_iff_eq, Bool.not_eq_true, Bool.not_eq_false, Int.not_lt, Int.not_le, gt_iff_lt, ge_iff_le, Bool.and_eq_true, Bool.and_eq_false_iff, Bool.or_eq_true, Bool.or_eq_false_iff] at h6
              refine WL_skip rfl rfl rfl rfl rfl rfl (WL_skip rfl rfl rfl rfl rfl rfl (WL_skip rfl rfl rfl rfl rfl rfl (WL_skip rfl rfl rfl rfl rfl rfl (WL_cons rfl (WX_q rfl rfl (q_pick_t rfl rfl rfl) (WL_cons rfl (WX_q rfl rfl (q_move rfl rfl) (WL_skip rfl rfl rfl rfl rfl rfl (WL_skip rfl rfl rfl rfl rfl rfl (WL_skip rfl rfl rfl rfl rfl rfl (WL_cons rfl (WX_q rfl rfl (q_pick_t rfl rfl rfl) (?_)))))))))))))
              refine WL_nil (hK24 _ ?_)
              clear hK24 K24
              refine W_true rfl ?_
              refine W_seq (fun K25 hK25 => ?_)
              refine W_region (WL_cons rfl (WX_q rfl rfl (q_assign rfl rfl) (?_)))
              refine WL_nil (hK25 _ ?_)
              clear hK25 K25
              refine W_ret (fin_one rfl (rc_v ?_))
              all_goals clear hK23 K23
              all_goals (first | rfl | (simp_all; done) | (simp_all; omega) | (exfalso; omega))
            · try rw [h6]
              try simp only [decide_eq_true_eq, decide_eq_false_iff_not, beq_iff_eq, bne_iff_ne, ne_eq, Bool.not_eq_true', Bool.not_eq_false', beq_eq_false_iff_ne, bne_eq_false_iff_eq, Bool.not_eq_true, Bool.not_eq_false, Int.not_lt, Int.not_le, gt_iff_lt, ge_iff_le, Bool.and_eq_true, Bool.and_eq_false_iff, Bool.or_eq_true, Bool.or_eq_false_iff] at h6
              refine WL_run rfl rfl rfl (WX_q rfl rfl (q_move rfl rfl) (WL_run rfl rfl rfl (WX_q rfl rfl (q_move rfl rfl) (WL_run rfl rfl rfl (?_)))))
              refine WX_q rfl rfl (q_call rfl (ArgsOK.of rfl) (c_laws_eqSettingS _ _ (by omega)) rfl) ?_
              refine WL_run rfl rfl rfl (WX_q rfl rfl (q_not rfl rfl) (WL_cons rfl (WX_q rfl rfl (q_pick_f rfl rfl rfl) (WL_cons rfl (WX_q rfl rfl (q_move rfl rfl) (WL_part rfl rfl rfl (fun h7 => ?_) (fun h7 => ?_)))))))
              · try rw [h7]
                try simp only [decide_eq_true_eq, decide_eq_false_iff_not, beq_iff_eq, bne_iff_ne, ne_eq, Bool.not_eq_true', Bool.not_eq_false', beq_eq_false_iff_ne, bne_eq_false_iff_eq, Bool.not_eq_true, Bool.not_eq_false, Int.not_lt, Int.not_le, gt_iff_lt, ge_iff_le, Bool.and_eq_true, Bool.and_eq_false_iff, Bool.or_eq_true, Bool.or_eq_false_iff] at h7
                refine WL_skip rfl rfl rfl rfl rfl rfl (WL_skip rfl rfl rfl rfl rfl rfl (WL_skip rfl rfl rfl rfl rfl rfl (WL_cons rfl (WX_q rfl rfl (q_pick_t rfl rfl rfl) (?_)))))
                refine WL_nil (hK24 _ ?_)
                clear hK24 K24
                refine W_true rfl ?_
                refine W_seq (fun K26 hK26 => ?_)
                refine W_region (WL_cons rfl (WX_q rfl rfl (q_assign rfl rfl) (?_)))
                refine WL_nil (hK26 _ ?_)
                clear hK26 K26
                refine W_ret (fin_one rfl (rc_v ?_))
                all_goals clear hK23 K23
                all_goals (first | rfl | (simp_all; done) | (simp_all; omega) | (exfalso; omega))
              · try rw [h7]
                try simp only [decide_eq_true_eq, decide_eq_false_iff_not, beq_iff_eq, bne_iff_ne, ne_eq, Bool.not_eq_true', Bool.not_eq_false', beq_eq_false_iff_ne, bne_eq_false_iff_eq, Bool.not_eq_true, Bool.not_eq_false, Int.not_lt, Int.not_le, gt_iff_lt, ge_iff_le, Bool.and_eq_true, Bool.and_eq_false_iff, Bool.or_eq_true, Bool.or_eq_false_iff] at h7
                refine WL_run rfl rfl rfl (WX_q rfl rfl (q_move rfl rfl) (WL_run rfl rfl rfl (WX_q rfl rfl (q_move rfl rfl) (WL_run rfl rfl rfl (WX_q rfl rfl (q_bne (G 4 _ rfl).1 rfl rfl rfl) (WL_cons rfl (WX_q rfl rfl (q_pick_f rfl rfl rfl) (?_))))))))
                refine WL_nil (hK24 _ ?_)
                clear hK24 K24
                refine W_cond rfl (fun h8 => ?_) (fun h8 => ?_)
                · try rw [h8]
                  try simp only [decide_eq_true_eq, decide_eq_false_iff_not, beq_iff_eq, bne_iff_ne, ne_eq, Bool.not_eq_true', Bool.not_eq_false', beq_eq_false_iff_ne, bne_eq_false_iff_eq, Bool.not_eq_true, Bool.not_eq_false, Int.not_lt, Int.not_le, gt_iff_lt, ge_iff_le, Bool.and_eq_true, Bool.and_eq_false_iff, Bool.or_eq_true, Bool.or_eq_false_iff] at h8
                  refine W_seq (fun K27 hK27 => ?_)
                  refine W_region (WL_cons rfl (WX_q rfl rfl (q_assign rfl rfl) (?_)))
                  refine WL_nil (hK27 _ ?_)
                  clear hK27 K27
                  refine W_ret (fin_one rfl (rc_v ?_))
                  all_goals clear hK23 K23
                  all_goals (first | rfl | (simp_all; done) | (simp_all; omega) | (exfalso; omega))
                · try rw [h8]
                  try simp only [decide_eq_true_eq, decide_eq_false_iff_not, beq_iff_eq, bne_iff_ne, ne_eq, Bool.not_eq_true', Bool.not_eq_false', beq_eq_false_iff_ne, bne_eq_false_iff_eq, Bool.not_eq_true, Bool.not_eq_false, Int.not_lt, Int.not_le, gt_iff_lt, ge_iff_le, Bool.and_eq_true, Bool.and_eq_false_iff, Bool.or_eq_true, Bool.or_eq_false_iff] at h8
                  refine W_skip (hK23 _ ?_)
                  clear hK23 K23
                  refine W_seq (fun K28 hK28 => ?_)
                  refine W_region (WL_cons rfl (WX_q rfl rfl (q_assign rfl rfl) (?_)))
                  refine WL_nil (hK28 _ ?_)
                  clear hK28 K28
                  refine W_seq (fun K29 hK29 => ?_)
                  refine W_region (WL_cons rfl (WX_q rfl rfl (q_move rfl rfl) (WL_cons rfl (WX_q rfl rfl (q_move rfl rfl) (WL_cons rfl (?_))))))
                  refine WX_callm 6 [4] rfl rfl rfl (c_laws_markSettingS _ (by omega)) rfl (RowsIn.cons rfl RowsIn.nil) rfl rfl rfl ?_
                  refine WL_cons rfl (WX_q rfl rfl (q_assign rfl rfl) (?_))
                  refine WL_nil (hK29 _ ?_)
                  clear hK29 K29
                  refine W_seq (fun K30 hK30 => ?_)
                  refine W_region (WL_cons rfl (WX_q rfl rfl (q_assign rfl rfl) (?_)))
                  refine WL_nil (hK30 _ ?_)
                  clear hK30 K30
                  refine W_seq (fun K31 hK31 => ?_)
                  refine W_region (WL_cons rfl (WX_q rfl rfl (q_move rfl rfl) (WL_cons rfl (WX_q rfl rfl (q_move rfl rfl) (WL_cons rfl (?_))))))
                  refine WX_q rfl rfl (q_call rfl (ArgsOK.of rfl) (c_laws_heldSettingS _ (by omega)) rfl) ?_
                  refine WL_cons rfl (WX_q rfl rfl (q_assign rfl rfl) (?_))
                  refine WL_nil (hK31 _ ?_)
                  clear hK31 K31
                  refine W_seq (fun K32 hK32 => ?_)
                  refine W_seq (fun K33 hK33 => ?_)
                  refine W_region (WL_cons rfl (WX_q rfl rfl (q_move rfl rfl) (WL_cons rfl (WX_q rfl rfl (q_cmp rfl rfl rfl rfl) (?_)))))
                  refine WL_nil (hK33 _ ?_)
                  clear hK33 K33
                  refine W_cond rfl (fun h9 => ?_) (fun h9 => ?_)
                  · try rw [h9]
                    try simp only [decide_eq_true_eq, decide_eq_false_iff_not, beq_iff_eq, bne_iff_ne, ne_eq, Bool.not_eq_true', Bool.not_eq_false', beq_eq_false_iff_ne, bne_eq_false_iff_eq, Bool.not_eq_true, Bool.not_eq_false, Int.not_lt, Int.not_le, gt_iff_lt, ge_iff_le, Bool.and_eq_true, Bool.and_eq_false_iff, Bool.or_eq_true, Bool.or_eq_false_iff] at h9
                    refine W_seq (fun K34 hK34 => ?_)
                    refine W_region (WL_cons rfl (WX_q rfl rfl (q_assign rfl rfl) (?_)))
                    refine WL_nil (hK34 _ ?_)
                    clear hK34 K34
                    refine W_ret (fin_one rfl (rc_v ?_))
                    all_goals clear hK32 K32
                    all_goals (first | rfl | (simp_all; done) | (simp_all; omega) | (exfalso; omega))
                  · try rw [h9]
                    try simp only [decide_eq_true_eq, decide_eq_false_iff_not, beq_iff_eq, bne_iff_ne, ne_eq, Bool.not_eq_true', Bool.not_eq_false', beq_eq_false_iff_ne, bne_eq_false_iff_eq, Bool.not_eq_true, Bool.not_eq_false, Int.not_lt, Int.not_le, gt_iff_lt, ge_iff_le, Bool.and_eq_true, Bool.and_eq_false_iff, Bool.or_eq_true, Bool.or_eq_false_iff] at h9
                    refine W_skip (hK32 _ ?_)
                    clear hK32 K32
                    refine W_seq (fun K35 hK35 => ?_)
                    refine W_seq (fun K36 hK36 => ?_)
                    refine W_region (WL_cons rfl (WX_q rfl rfl (q_move rfl rfl) (WL_cons rfl (WX_q rfl rfl (q_move rfl rfl) (WL_cons rfl (WX_q rfl rfl (q_cmp rfl rfl rfl rfl) (?_)))))))
                    refine WL_nil (hK36 _ ?_)
                    clear hK36 K36
                    refine W_cond rfl (fun h10 => ?_) (fun h10 => ?_)
                    · try rw [h10]
                      try simp only [decide_eq_true_eq, decide_eq_false_iff_not, beq_iff_eq, bne_iff_ne, ne_eq, Bool.not_eq_true', Bool.not_eq_false', beq_eq_false_iff_ne, bne_eq_false_iff_eq, Bool.not_eq_true, Bool.not_eq_false, Int.not_lt, Int.not_le, gt_iff_lt, ge_iff_le, Bool.and_eq_true, Bool.and_eq_false_iff, Bool.or_eq_true, Bool.or_eq_false_iff] at h10
                      refine W_seq (fun K37 hK37 => ?_)
                      refine W_region (WL_cons rfl (WX_q rfl rfl (q_assign rfl rfl) (?_)))
                      refine WL_nil (hK37 _ ?_)
                      clear hK37 K37
                      refine W_ret (fin_one rfl (rc_v ?_))
                      all_goals clear hK35 K35
                      all_goals (first | rfl | (simp_all; done) | (simp_all; omega) | (exfalso; omega))
                    · try rw [h10]
                      try simp only [decide_eq_true_eq, decide_eq_false_iff_not, beq_iff_eq, bne_iff_ne, ne_eq, Bool.not_eq_true', Bool.not_eq_false', beq_eq_false_iff_ne, bne_eq_false_iff_eq, Bool.not_eq_true, Bool.not_eq_false, Int.not_lt, Int.not_le, gt_iff_lt, ge_iff_le, Bool.and_eq_true, Bool.and_eq_false_iff, Bool.or_eq_true, Bool.or_eq_false_iff] at h10
                      refine W_skip (hK35 _ ?_)
                      clear hK35 K35
                      refine W_seq (fun K38 hK38 => ?_)
                      refine W_drawsH 10 [0, 1, 2, 3, 4, 5] mixed (by kernel_rfl) rfl rfl (fun r0 => ?_) (fun _ h => h)
                      refine WA_take 0 rfl (by kernel_rfl) (by kernel_rfl) rfl rfl rfl rfl (q_move rfl rfl) (WA_take 2 rfl (by kernel_rfl) (by kernel_rfl) rfl rfl rfl rfl (q_load_box_struct G rfl rfl rfl rfl rfl rfl) (?_))
                      refine WA_branch (rs := [1]) (by kernel_rfl) rfl (AllB.cons ?_ AllB.nil)
                      refine WB_run [0, 1, 2, 3, 4, 5] rfl rfl (WX_call 7 rfl rfl rfl (ArgsOK.of rfl) (c_laws_toSettingS _ (by assumption)) rfl rfl (WL_nil ⟨rfl, ?_⟩))
                      refine WA_branch (rs := [3]) (by kernel_rfl) rfl (AllB.cons ?_ AllB.nil)
                      refine WB_run [0, 1, 2, 3, 4, 5] rfl rfl (WX_q rfl rfl (q_call rfl (ArgsOK.of rfl) (c_laws_toSetting _) rfl) (WL_nil ⟨rfl, ?_⟩))
                      refine WA_branch (rs := [4]) (by kernel_rfl) rfl (AllB.cons ?_ AllB.nil)
                      refine WB_run [0, 1, 2, 3, 4, 5] rfl rfl (WX_call 8 rfl rfl rfl (ArgsOK.of rfl) (c_impl_PutSetting _ _ (by omega) (by assumption) (by assumption)) rfl rfl (WL_nil ⟨rfl, ?_⟩))
                      refine WA_take 5 rfl (by kernel_rfl) (by kernel_rfl) rfl rfl rfl rfl (q_move rfl rfl) (WA_take 6 rfl (by kernel_rfl) (by kernel_rfl) rfl rfl rfl rfl (q_extract rfl rfl rfl) (WA_take 7 rfl (by kernel_rfl) (by kernel_rfl) rfl rfl rfl rfl (q_extract rfl rfl rfl) (WA_take 8 rfl (by kernel_rfl) (by kernel_rfl) rfl rfl rfl rfl (q_assign rfl rfl) (WA_take 9 rfl (by kernel_rfl) (by kernel_rfl) rfl rfl rfl rfl (q_assign rfl rfl) (?_)))))
                      refine WA_end (by kernel_rfl) (hK38 _ ?_)
                      clear hK38 K38
                      refine W_seq (fun K39 hK39 => ?_)
                      refine W_seq (fun K40 hK40 => ?_)
                      refine W_region (WL_cons rfl (WX_q rfl rfl (q_move rfl rfl) (WL_cons rfl (WX_q rfl rfl (q_move rfl rfl) (WL_cons rfl (?_))))))
                      refine WX_q rfl rfl (q_call rfl (ArgsOK.of rfl) (c_laws_eqSettingS _ _ (by omega)) rfl) ?_
                      refine WL_cons rfl (WX_q rfl rfl (q_not rfl rfl) (WL_cons rfl (WX_q rfl rfl (q_move rfl rfl) (WL_part rfl rfl rfl (fun h11 => ?_) (fun h11 => ?_)))))
                      · try rw [h11]
                        try simp only [decide_eq_true_eq, decide_eq_false_iff_not, beq_iff_eq, bne_iff_ne, ne_eq, Bool.not_eq_true', Bool.not_eq_false', beq_eq_false_iff_ne, bne_eq_false_iff_eq, Bool.not_eq_true, Bool.not_eq_false, Int.not_lt, Int.not_le, gt_iff_lt, ge_iff_le, Bool.and_eq_true, Bool.and_eq_false_iff, Bool.or_eq_true, Bool.or_eq_false_iff] at h11
                        refine WL_skip rfl rfl rfl rfl rfl rfl (WL_skip rfl rfl rfl rfl rfl rfl (WL_skip rfl rfl rfl rfl rfl rfl (WL_cons rfl (WX_q rfl rfl (q_pick_t rfl rfl rfl) (?_)))))
                        refine WL_nil (hK40 _ ?_)
                        clear hK40 K40
                        refine W_true rfl ?_
                        refine W_seq (fun K41 hK41 => ?_)
                        refine W_region (WL_cons rfl (WX_q rfl rfl (q_assign rfl rfl) (?_)))
                        refine WL_nil (hK41 _ ?_)
                        clear hK41 K41
                        refine W_ret (fin_one rfl (rc_v ?_))
                        all_goals clear hK39 K39
                        all_goals (first | rfl | (simp_all; done) | (simp_all; omega) | (exfalso; omega))
                      · try rw [h11]
                        try simp only [decide_eq_true_eq, decide_eq_false_iff_not, beq_iff_eq, bne_iff_ne, ne_eq, Bool.not_eq_true', Bool.not_eq_false', beq_eq_false_iff_ne, bne_eq_false_iff_eq, Bool.not_eq_true, Bool.not_eq_false, Int.not_lt, Int.not_le, gt_iff_lt, ge_iff_le, Bool.and_eq_true, Bool.and_eq_false_iff, Bool.or_eq_true, Bool.or_eq_false_iff] at h11
                        refine WL_run rfl rfl rfl (WX_q rfl rfl (q_move rfl rfl) (WL_run rfl rfl rfl (WX_q rfl rfl (q_move rfl rfl) (WL_run rfl rfl rfl (WX_q rfl rfl (q_bne (G 4 _ rfl).1 rfl rfl rfl) (WL_cons rfl (WX_q rfl rfl (q_pick_f rfl rfl rfl) (?_))))))))
                        refine WL_nil (hK40 _ ?_)
                        clear hK40 K40
                        refine W_cond rfl (fun h12 => ?_) (fun h12 => ?_)
                        · try rw [h12]
                          try simp only [decide_eq_true_eq, decide_eq_false_iff_not, beq_iff_eq, bne_iff_ne, ne_eq, Bool.not_eq_true', Bool.not_eq_false', beq_eq_false_iff_ne, bne_eq_false_iff_eq, Bool.not_eq_true, Bool.not_eq_false, Int.not_lt, Int.not_le, gt_iff_lt, ge_iff_le, Bool.and_eq_true, Bool.and_eq_false_iff, Bool.or_eq_true, Bool.or_eq_false_iff] at h12
                          refine W_seq (fun K42 hK42 => ?_)
                          refine W_region (WL_cons rfl (WX_q rfl rfl (q_assign rfl rfl) (?_)))
                          refine WL_nil (hK42 _ ?_)
                          clear hK42 K42
                          refine W_ret (fin_one rfl (rc_v ?_))
                          all_goals clear hK39 K39
                          all_goals (first | rfl | (simp_all; done) | (simp_all; omega) | (exfalso; omega))
                        · try rw [h12]
                          try simp only [decide_eq_true_eq, decide_eq_false_iff_not, beq_iff_eq, bne_iff_ne, ne_eq, Bool.not_eq_true', Bool.not_eq_false', beq_eq_false_iff_ne, bne_eq_false_iff_eq, Bool.not_eq_true, Bool.not_eq_false, Int.not_lt, Int.not_le, gt_iff_lt, ge_iff_le, Bool.and_eq_true, Bool.and_eq_false_iff, Bool.or_eq_true, Bool.or_eq_false_iff] at h12
                          refine W_skip (hK39 _ ?_)
                          clear hK39 K39
                          refine W_seq (fun K43 hK43 => ?_)
                          refine W_region (WL_cons rfl (WX_q rfl rfl (q_assign rfl rfl) (?_)))
                          refine WL_nil (hK43 _ ?_)
                          clear hK43 K43
                          refine W_seq (fun K44 hK44 => ?_)
                          refine W_region (WL_cons rfl (WX_q rfl rfl (q_move rfl rfl) (WL_cons rfl (WX_q rfl rfl (q_move rfl rfl) (WL_cons rfl (?_))))))
                          refine WX_q rfl rfl (q_call rfl (ArgsOK.of rfl) (c_laws_heldSettingS _ (by omega)) rfl) ?_
                          refine WL_cons rfl (WX_q rfl rfl (q_assign rfl rfl) (?_))
                          refine WL_nil (hK44 _ ?_)
                          clear hK44 K44
                          refine W_seq (fun K45 hK45 => ?_)
                          refine W_seq (fun K46 hK46 => ?_)
                          refine W_region (WL_cons rfl (WX_q rfl rfl (q_move rfl rfl) (WL_cons rfl (WX_q rfl rfl (q_cmp rfl rfl rfl rfl) (?_)))))
                          refine WL_nil (hK46 _ ?_)
                          clear hK46 K46
                          refine W_cond rfl (fun h13 => ?_) (fun h13 => ?_)
                          · try rw [h13]
                            try simp only [decide_eq_true_eq, decide_eq_false_iff_not, beq_iff_eq, bne_iff_ne, ne_eq, Bool.not_eq_true', Bool.not_eq_false', beq_eq_false_iff_ne, bne_eq_false_iff_eq, Bool.not_eq_true, Bool.not_eq_false, Int.not_lt, Int.not_le, gt_iff_lt, ge_iff_le, Bool.and_eq_true, Bool.and_eq_false_iff, Bool.or_eq_true, Bool.or_eq_false_iff] at h13
                            refine W_seq (fun K47 hK47 => ?_)
                            refine W_region (WL_cons rfl (WX_q rfl rfl (q_assign rfl rfl) (?_)))
                            refine WL_nil (hK47 _ ?_)
                            clear hK47 K47
                            refine W_ret (fin_one rfl (rc_v ?_))
                            all_goals clear hK45 K45
                            all_goals (first | rfl | (simp_all; done) | (simp_all; omega) | (exfalso; omega))
                          · try rw [h13]
                            try simp only [decide_eq_true_eq, decide_eq_false_iff_not, beq_iff_eq, bne_iff_ne, ne_eq, Bool.not_eq_true', Bool.not_eq_false', beq_eq_false_iff_ne, bne_eq_false_iff_eq, Bool.not_eq_true, Bool.not_eq_false, Int.not_lt, Int.not_le, gt_iff_lt, ge_iff_le, Bool.and_eq_true, Bool.and_eq_false_iff, Bool.or_eq_true, Bool.or_eq_false_iff] at h13
                            refine W_skip (hK45 _ ?_)
                            clear hK45 K45
                            refine W_seq (fun K48 hK48 => ?_)
                            refine W_seq (fun K49 hK49 => ?_)
                            refine W_region (WL_cons rfl (WX_q rfl rfl (q_move rfl rfl) (WL_cons rfl (WX_q rfl rfl (q_move rfl rfl) (WL_cons rfl (WX_q rfl rfl (q_cmp rfl rfl rfl rfl) (?_)))))))
                            refine WL_nil (hK49 _ ?_)
                            clear hK49 K49
                            refine W_cond rfl (fun h14 => ?_) (fun h14 => ?_)
                            · try rw [h14]
                              try simp only [decide_eq_true_eq, decide_eq_false_iff_not, beq_iff_eq, bne_iff_ne, ne_eq, Bool.not_eq_true', Bool.not_eq_false', beq_eq_false_iff_ne, bne_eq_false_iff_eq, Bool.not_eq_true, Bool.not_eq_false, Int.not_lt, Int.not_le, gt_iff_lt, ge_iff_le, Bool.and_eq_true, Bool.and_eq_false_iff, Bool.or_eq_true, Bool.or_eq_false_iff] at h14
                              refine W_seq (fun K50 hK50 => ?_)
                              refine W_region (WL_cons rfl (WX_q rfl rfl (q_assign rfl rfl) (?_)))
                              refine WL_nil (hK50 _ ?_)
                              clear hK50 K50
                              refine W_ret (fin_one rfl (rc_v ?_))
                              all_goals clear hK48 K48
                              all_goals (first | rfl | (simp_all; done) | (simp_all; omega) | (exfalso; omega))
                            · try rw [h14]
                              try simp only [decide_eq_true_eq, decide_eq_false_iff_not, beq_iff_eq, bne_iff_ne, ne_eq, Bool.not_eq_true', Bool.not_eq_false', beq_eq_false_iff_ne, bne_eq_false_iff_eq, Bool.not_eq_true, Bool.not_eq_false, Int.not_lt, Int.not_le, gt_iff_lt, ge_iff_le, Bool.and_eq_true, Bool.and_eq_false_iff, Bool.or_eq_true, Bool.or_eq_false_iff] at h14
                              refine W_skip (hK48 _ ?_)
                              clear hK48 K48
                              refine W_seq (fun K51 hK51 => ?_)
                              refine W_region (WL_cons rfl (WX_q rfl rfl (q_assign rfl rfl) (?_)))
                              refine WL_nil (hK51 _ ?_)
                              clear hK51 K51
                              refine W_ret (fin_one rfl (rc_v ?_))
                              all_goals (first | rfl | (simp_all; done) | (simp_all; omega) | (exfalso; omega))

end Go.Proofs.Ytehijimgenicfaa
