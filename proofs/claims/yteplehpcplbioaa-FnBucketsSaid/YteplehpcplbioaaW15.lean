/- Walks through functions of the program, one contract each (written by gen.py). -/
import Derived.Test.YteplehpcplbioaaW3
import Derived.Test.YteplehpcplbioaaM2
set_option maxRecDepth 20000
set_option linter.unusedVariables false
set_option linter.unusedSimpArgs false
namespace Go.Proofs.Yteplehpcplbioaa
open Go Go.Rf

theorem c_spec_RunUses (x : Bucket) (ts : List Int) (c : Int) (hn : ts.length ≤ 1048576) : Ctr Try.prog 34 [.v (encB x), .lst 1 (ts.map encI), .v (.int .i64 c)] (.many [.fr 4 1 ((ruT x ts c).map encO), .v (encB (ruE x ts c)), .v (.bool (ruOK x ts c))]) := by
  refine Ctr.of (n := 61) G Try.func34 rfl (by kernel_rfl) rfl rfl rfl (fun w0 => ?_)
  refine W_seq (fun K1 hK1 => ?_)
  refine W_region (WL_cons rfl (WX_box 1 rfl rfl rfl rfl rfl rfl rfl (WL_cons rfl (WX_q rfl rfl (q_assign rfl rfl) (WL_cons rfl (WX_alloc_s G 2 rfl rfl rfl rfl rfl (WL_cons rfl (WX_q rfl rfl (q_assign rfl rfl) (?_)))))))))
  refine WL_nil (hK1 _ ?_)
  clear hK1 K1
  refine W_seq (fun K2 hK2 => ?_)
  refine W_region (WL_cons rfl (WX_lit G 3 rfl rfl rfl rfl rfl rfl rfl rfl (WL_cons rfl (WX_q rfl rfl (q_assign rfl rfl) (?_)))))
  refine WL_nil (hK2 _ ?_)
  clear hK2 K2
  refine W_seq (fun K3 hK3 => ?_)
  refine W_seq (fun K4 hK4 => ?_)
  refine W_region (WL_cons rfl (WX_q rfl rfl (q_load_box_struct G rfl rfl rfl rfl rfl rfl) (WL_cons rfl (?_))))
  refine WX_q rfl rfl (q_call rfl (ArgsOK.of rfl) (c_spec_l23One _) rfl) ?_
  refine WL_cons rfl (WX_q rfl rfl (q_not rfl rfl) (WL_cons rfl (WX_q rfl rfl (q_move rfl rfl) (WL_part rfl rfl rfl (fun h1 => ?_) (fun h1 => ?_)))))
  · try rw [h1]
    try simp only [decide_eq_true_eq, decide_eq_false_iff_not, beq_iff_eq, bne_iff_ne, ne_eq, Bool.not_eq_true', Bool.not_eq_false', beq_eq_false_iff_ne, bne_eq_false_iff_eq, Bool.not_eq_true, Bool.not_eq_false, Int.not_lt, Int.not_le, gt_iff_lt, ge_iff_le, Bool.and_eq_true, Bool.and_eq_false_iff, Bool.or_eq_true, Bool.or_eq_false_iff] at h1
    refine WL_skip rfl rfl rfl rfl rfl rfl (WL_skip rfl rfl rfl rfl rfl rfl (WL_skip rfl rfl rfl rfl rfl rfl (WL_cons rfl (WX_q rfl rfl (q_pick_t rfl rfl rfl) (WL_cons rfl (WX_q rfl rfl (q_move rfl rfl) (WL_skip rfl rfl rfl rfl rfl rfl (WL_skip rfl rfl rfl rfl rfl rfl (WL_skip rfl rfl rfl rfl rfl rfl (WL_cons rfl (WX_q rfl rfl (q_pick_t rfl rfl rfl) (?_))))))))))))
    refine WL_nil (hK4 _ ?_)
    clear hK4 K4
    refine W_true rfl ?_
    refine W_seq (fun K5 hK5 => ?_)
    refine W_region (WL_cons rfl (WX_q rfl rfl (q_move rfl rfl) (WL_cons rfl (WX_q rfl rfl (q_build G rfl rfl rfl rfl) (WL_cons rfl (WX_q rfl rfl (q_assign rfl rfl) (WL_cons rfl (WX_store G rfl rfl rfl rfl rfl rfl rfl rfl rfl rfl rfl (WL_cons rfl (WX_q rfl rfl (q_assign rfl rfl) (?_)))))))))))
    refine WL_nil (hK5 _ ?_)
    clear hK5 K5
    refine W_ret (fin_many rfl rfl rfl rfl (rcs_cons (rc_own rfl ?_) (rcs_cons (rc_agg rfl ?_) (rcs_cons (rc_v ?_) rcs_nil))))
    all_goals clear hK3 K3
    all_goals (first | rfl | (have e := ruOK_f (x := x) (ts := ts) (c := c) (i := i) (by assumption) (by omega); simp [ruT, ruE, e, zeroB, encB, encBc]; done) | (simp_all [ruT, ruE, ruOK, zeroB, encB, encBc]; done) | (have e : ruOK x ts c = false := (by simp [ruOK]; omega); simp [ruT, ruE, e, zeroB, encB, encBc]; done) | (have e : i = ts.length := (by omega); subst e; have e2 : allN ts.length (ruA x ts c) = true := allN_t hinv.2 (Nat.le_refl _); have e4 : ts.length ≤ 50 := (by omega); have e3 : ruOK x ts c = true := (by simp [ruOK, e2, e4, h1, h2]); simp [ruT, ruE, e3, encB, encBc]; done))
  · try rw [h1]
    try simp only [decide_eq_true_eq, decide_eq_false_iff_not, beq_iff_eq, bne_iff_ne, ne_eq, Bool.not_eq_true', Bool.not_eq_false', beq_eq_false_iff_ne, bne_eq_false_iff_eq, Bool.not_eq_true, Bool.not_eq_false, Int.not_lt, Int.not_le, gt_iff_lt, ge_iff_le, Bool.and_eq_true, Bool.and_eq_false_iff, Bool.or_eq_true, Bool.or_eq_false_iff] at h1
    refine WL_run rfl rfl rfl (WX_q rfl rfl (q_move rfl rfl) (WL_run rfl rfl rfl (?_)))
    refine WX_q rfl rfl (q_call rfl (ArgsOK.of rfl) (c_spec_l23Cost _) rfl) ?_
    refine WL_run rfl rfl rfl (WX_q rfl rfl (q_not rfl rfl) (WL_cons rfl (WX_q rfl rfl (q_pick_f rfl rfl rfl) (WL_cons rfl (WX_q rfl rfl (q_move rfl rfl) (WL_part rfl rfl rfl (fun h2 => ?_) (fun h2 => ?_)))))))
    · try rw [h2]
      try simp only [decide_eq_true_eq, decide_eq_false_iff_not, beq_iff_eq, bne_iff_ne, ne_eq, Bool.not_eq_true', Bool.not_eq_false', beq_eq_false_iff_ne, bne_eq_false_iff_eq, Bool.not_eq_true, Bool.not_eq_false, Int.not_lt, Int.not_le, gt_iff_lt, ge_iff_le, Bool.and_eq_true, Bool.and_eq_false_iff, Bool.or_eq_true, Bool.or_eq_false_iff] at h2
      refine WL_skip rfl rfl rfl rfl rfl rfl (WL_skip rfl rfl rfl rfl rfl rfl (WL_skip rfl rfl rfl rfl rfl rfl (WL_cons rfl (WX_q rfl rfl (q_pick_t rfl rfl rfl) (?_)))))
      refine WL_nil (hK4 _ ?_)
      clear hK4 K4
      refine W_true rfl ?_
      refine W_seq (fun K6 hK6 => ?_)
      refine W_region (WL_cons rfl (WX_q rfl rfl (q_move rfl rfl) (WL_cons rfl (WX_q rfl rfl (q_build G rfl rfl rfl rfl) (WL_cons rfl (WX_q rfl rfl (q_assign rfl rfl) (WL_cons rfl (WX_store G rfl rfl rfl rfl rfl rfl rfl rfl rfl rfl rfl (WL_cons rfl (WX_q rfl rfl (q_assign rfl rfl) (?_)))))))))))
      refine WL_nil (hK6 _ ?_)
      clear hK6 K6
      refine W_ret (fin_many rfl rfl rfl rfl (rcs_cons (rc_own rfl ?_) (rcs_cons (rc_agg rfl ?_) (rcs_cons (rc_v ?_) rcs_nil))))
      all_goals clear hK3 K3
      all_goals (first | rfl | (have e := ruOK_f (x := x) (ts := ts) (c := c) (i := i) (by assumption) (by omega); simp [ruT, ruE, e, zeroB, encB, encBc]; done) | (simp_all [ruT, ruE, ruOK, zeroB, encB, encBc]; done) | (have e : ruOK x ts c = false := (by simp [ruOK]; omega); simp [ruT, ruE, e, zeroB, encB, encBc]; done) | (have e : i = ts.length := (by omega); subst e; have e2 : allN ts.length (ruA x ts c) = true := allN_t hinv.2 (Nat.le_refl _); have e4 : ts.length ≤ 50 := (by omega); have e3 : ruOK x ts c = true := (by simp [ruOK, e2, e4, h1, h2]); simp [ruT, ruE, e3, encB, encBc]; done))
    · try rw [h2]
      try simp only [decide_eq_true_eq, decide_eq_false_iff_not, beq_iff_eq, bne_iff_ne, ne_eq, Bool.not_eq_true', Bool.not_eq_false', beq_eq_false_iff_ne, bne_eq_false_iff_eq, Bool.not_eq_true, Bool.not_eq_false, Int.not_lt, Int.not_le, gt_iff_lt, ge_iff_le, Bool.and_eq_true, Bool.and_eq_false_iff, Bool.or_eq_true, Bool.or_eq_false_iff] at h2
      refine WL_run rfl rfl rfl (WX_q rfl rfl (q_move rfl rfl) (WL_run rfl rfl rfl (?_)))
      first | refine WX_q rfl rfl (q_len' G rfl rfl rfl rfl (List.length_map _)) ?_ | refine WX_q rfl rfl (q_len G rfl rfl rfl rfl) ?_
      refine WL_run rfl rfl rfl (WX_q rfl rfl (q_cmp rfl rfl rfl rfl) (WL_cons rfl (WX_q rfl rfl (q_pick_f rfl rfl rfl) (?_))))
      refine WL_nil (hK4 _ ?_)
      clear hK4 K4
      refine W_cond rfl (fun h3 => ?_) (fun h3 => ?_)
      · try rw [h3]
        try simp only [decide_eq_true_eq, decide_eq_false_iff_not, beq_iff_eq, bne_iff_ne, ne_eq, Bool.not_eq_true', Bool.not_eq_false', beq_eq_false_iff_ne, bne_eq_false_iff_eq, Bool.not_eq_true, Bool.not_eq_false, Int.not_lt, Int.not_le, gt_iff_lt, ge_iff_le, Bool.and_eq_true, Bool.and_eq_false_iff, Bool.or_eq_true, Bool.or_eq_false_iff] at h3
        refine W_seq (fun K7 hK7 => ?_)
        refine W_region (WL_cons rfl (WX_q rfl rfl (q_move rfl rfl) (WL_cons rfl (WX_q rfl rfl (q_build G rfl rfl rfl rfl) (WL_cons rfl (WX_q rfl rfl (q_assign rfl rfl) (WL_cons rfl (WX_store G rfl rfl rfl rfl rfl rfl rfl rfl rfl rfl rfl (WL_cons rfl (WX_q rfl rfl (q_assign rfl rfl) (?_)))))))))))
        refine WL_nil (hK7 _ ?_)
        clear hK7 K7
        refine W_ret (fin_many rfl rfl rfl rfl (rcs_cons (rc_own rfl ?_) (rcs_cons (rc_agg rfl ?_) (rcs_cons (rc_v ?_) rcs_nil))))
        all_goals clear hK3 K3
        all_goals (first | rfl | (have e := ruOK_f (x := x) (ts := ts) (c := c) (i := i) (by assumption) (by omega); simp [ruT, ruE, e, zeroB, encB, encBc]; done) | (simp_all [ruT, ruE, ruOK, zeroB, encB, encBc]; done) | (have e : ruOK x ts c = false := (by simp [ruOK]; omega); simp [ruT, ruE, e, zeroB, encB, encBc]; done) | (have e : i = ts.length := (by omega); subst e; have e2 : allN ts.length (ruA x ts c) = true := allN_t hinv.2 (Nat.le_refl _); have e4 : ts.length ≤ 50 := (by omega); have e3 : ruOK x ts c = true := (by simp [ruOK, e2, e4, h1, h2]); simp [ruT, ruE, e3, encB, encBc]; done))
      · try rw [h3]
        try simp only [decide_eq_true_eq, decide_eq_false_iff_not, beq_iff_eq, bne_iff_ne, ne_eq, Bool.not_eq_true', Bool.not_eq_false', beq_eq_false_iff_ne, bne_eq_false_iff_eq, Bool.not_eq_true, Bool.not_eq_false, Int.not_lt, Int.not_le, gt_iff_lt, ge_iff_le, Bool.and_eq_true, Bool.and_eq_false_iff, Bool.or_eq_true, Bool.or_eq_false_iff] at h3
        refine W_skip (hK3 _ ?_)
        clear hK3 K3
        refine W_seq (fun K8 hK8 => ?_)
        refine W_seq (fun K9 hK9 => ?_)
        refine W_region (WL_cons rfl (WX_q rfl rfl (q_assign rfl rfl) (?_)))
        refine WL_nil (hK9 _ ?_)
        clear hK9 K9
        refine W_block ?_
        refine W_loopK [1, 2, 3, 7] [1] (fun (i : Nat) => [(9, .own 2), (10, .v (.int .i64 (i : Int)))]) (fun (i : Nat) => [(0, some (.box [.v (.int .i64 (ruB x ts c i).g), .v (.int .i64 (ruB x ts c i).r), .v (.int .i64 (ruB x ts c i).b), .v (.int .i64 (ruB x ts c i).h), .v (.int .i64 (ruB x ts c i).t)])), (2, some (.row 4 1 ((pre (ruO x ts c) i).map encO)))]) (fun (i : Nat) => i ≤ ts.length ∧ ∀ j, j < i → ruA x ts c j = true) (fun (i : Nat) => ts.length - i) 0 rfl rfl ?_ ?_ ?_ ?_
        · exact ⟨Nat.zero_le _, fun j hj => by omega⟩
        · exact ⟨⟨_, rfl, by rfl⟩, rfl, ⟨⟨_, rfl, by rfl⟩, rfl, trivial⟩⟩
        · exact ⟨⟨_, rfl, by rfl⟩, rfl, rfl, ⟨⟨_, rfl, by rfl⟩, rfl, rfl, trivial⟩⟩
        · intro i hinv
          have hi : i ≤ ts.length := hinv.1
          simp only [List.cons_append, List.nil_append]
          refine W_seq (fun K10 hK10 => ?_)
          refine W_seq (fun K11 hK11 => ?_)
          refine W_region (WL_cons rfl (WX_q rfl rfl (q_move rfl rfl) (WL_cons rfl (WX_q rfl rfl (q_move rfl rfl) (WL_cons rfl (?_))))))
          first | refine WX_q rfl rfl (q_len' G rfl rfl rfl rfl (List.length_map _)) ?_ | refine WX_q rfl rfl (q_len G rfl rfl rfl rfl) ?_
          refine WL_cons rfl (WX_q rfl rfl (q_cmp rfl rfl rfl rfl) (?_))
          refine WL_nil (hK11 _ ?_)
          clear hK11 K11
          refine W_cond rfl (fun h4 => ?_) (fun h4 => ?_)
          · try rw [h4]
            try simp only [decide_eq_true_eq, decide_eq_false_iff_not, beq_iff_eq, bne_iff_ne, ne_eq, Bool.not_eq_true', Bool.not_eq_false', beq_eq_false_iff_ne, bne_eq_false_iff_eq, Bool.not_eq_true, Bool.not_eq_false, Int.not_lt, Int.not_le, gt_iff_lt, ge_iff_le, Bool.and_eq_true, Bool.and_eq_false_iff, Bool.or_eq_true, Bool.or_eq_false_iff] at h4
            refine W_skip (hK10 _ ?_)
            clear hK10 K10
            refine W_seq (fun K12 hK12 => ?_)
            refine W_block ?_
            refine W_seq (fun K13 hK13 => ?_)
            refine W_seq (fun K14 hK14 => ?_)
            refine W_draws mixed (by kernel_rfl) (QL_cons rfl (QX_q rfl rfl (q_load_box_struct G rfl rfl rfl rfl rfl rfl) (QL_cons rfl (QX_q rfl rfl (q_move rfl rfl) (QL_cons rfl (QX_q rfl rfl (q_move rfl rfl) (QL_cons rfl (?_))))))))
            refine QX_q rfl rfl (q_index_lst G rfl rfl rfl rfl (by omega) (getN (by omega))) ?_
            refine QL_cons rfl (QX_q rfl rfl (q_load_ept G rfl rfl rfl rfl rfl) (QL_cons rfl (?_)))
            refine QX_q rfl rfl (q_call rfl (ArgsOK.of rfl) (c_spec_l23At (ruB x ts c i) _) rfl) ?_
            refine QL_cons rfl (QX_q rfl rfl (q_not rfl rfl) (?_))
            refine QL_nil (hK14 _ ?_)
            clear hK14 K14
            refine W_cond rfl (fun h5 => ?_) (fun h5 => ?_)
            · try rw [h5]
              try simp only [decide_eq_true_eq, decide_eq_false_iff_not, beq_iff_eq, bne_iff_ne, ne_eq, Bool.not_eq_true', Bool.not_eq_false', beq_eq_false_iff_ne, bne_eq_false_iff_eq, Bool.not_eq_true, Bool.not_eq_false, Int.not_lt, Int.not_le, gt_iff_lt, ge_iff_le, Bool.and_eq_true, Bool.and_eq_false_iff, Bool.or_eq_true, Bool.or_eq_false_iff] at h5
              refine W_seq (fun K15 hK15 => ?_)
              refine W_region (WL_cons rfl (WX_lit G 4 rfl rfl rfl rfl rfl rfl rfl rfl (WL_cons rfl (WX_q rfl rfl (q_build G rfl rfl rfl rfl) (WL_cons rfl (WX_q rfl rfl (q_assign rfl rfl) (WL_cons rfl (WX_store G rfl rfl rfl rfl rfl rfl rfl rfl rfl rfl rfl (WL_cons rfl (WX_q rfl rfl (q_assign rfl rfl) (?_)))))))))))
              refine WL_nil (hK15 _ ?_)
              clear hK15 K15
              refine W_ret (fin_many rfl rfl rfl rfl (rcs_cons (rc_own rfl ?_) (rcs_cons (rc_agg rfl ?_) (rcs_cons (rc_v ?_) rcs_nil))))
              all_goals clear hK13 K13 hK12 K12 hK8 K8
              all_goals (first | rfl | (have e := ruOK_f (x := x) (ts := ts) (c := c) (i := i) (by assumption) (by omega); simp [ruT, ruE, e, zeroB, encB, encBc]; done) | (simp_all [ruT, ruE, ruOK, zeroB, encB, encBc]; done) | (have e : ruOK x ts c = false := (by simp [ruOK]; omega); simp [ruT, ruE, e, zeroB, encB, encBc]; done) | (have e : i = ts.length := (by omega); subst e; have e2 : allN ts.length (ruA x ts c) = true := allN_t hinv.2 (Nat.le_refl _); have e4 : ts.length ≤ 50 := (by omega); have e3 : ruOK x ts c = true := (by simp [ruOK, e2, e4, h1, h2]); simp [ruT, ruE, e3, encB, encBc]; done))
            · try rw [h5]
              try simp only [decide_eq_true_eq, decide_eq_false_iff_not, beq_iff_eq, bne_iff_ne, ne_eq, Bool.not_eq_true', Bool.not_eq_false', beq_eq_false_iff_ne, bne_eq_false_iff_eq, Bool.not_eq_true, Bool.not_eq_false, Int.not_lt, Int.not_le, gt_iff_lt, ge_iff_le, Bool.and_eq_true, Bool.and_eq_false_iff, Bool.or_eq_true, Bool.or_eq_false_iff] at h5
              refine W_skip (hK13 _ ?_)
              clear hK13 K13
              refine W_seq (fun K16 hK16 => ?_)
              apply W_drawsJ [1, 2, 3, 7, 9, 10, 11, 12] [0, 1, 2, 3] 4 13 [0, 1, 2] mixed (by kernel_rfl) rfl rfl hK16
              · intro r0
                refine WA_take 0 rfl (by kernel_rfl) (by kernel_rfl) rfl rfl rfl rfl (q_load_box_struct G rfl rfl rfl rfl rfl rfl) (WA_take 1 rfl (by kernel_rfl) (by kernel_rfl) rfl rfl rfl rfl (q_move rfl rfl) (WA_take 2 rfl (by kernel_rfl) (by kernel_rfl) rfl rfl rfl rfl (q_move rfl rfl) (?_)))
                refine WA_take 3 rfl (by kernel_rfl) (by kernel_rfl) rfl rfl rfl rfl (q_index_lst G rfl rfl rfl rfl (by omega) (getN (by omega))) ?_
                refine WA_take 4 rfl (by kernel_rfl) (by kernel_rfl) rfl rfl rfl rfl (q_load_ept G rfl rfl rfl rfl rfl) (WA_take 5 rfl (by kernel_rfl) (by kernel_rfl) rfl rfl rfl rfl (q_move rfl rfl) (?_))
                refine WA_branch (rs := [6, 10]) (by kernel_rfl) rfl (AllB.cons ?_ (AllB.cons ?_ AllB.nil))
                · refine WB_run [0, 1, 2] rfl rfl (WX_q rfl rfl (q_call rfl (ArgsOK.of rfl) (c_spec_l23Use (ruB x ts c i) _ _ (by assumption) (by assumption)) rfl) (WL_nil ⟨rfl, ?_⟩))
                  refine WA_take 7 rfl (by kernel_rfl) (by kernel_rfl) rfl rfl rfl rfl (q_move rfl rfl) (WA_take 8 rfl (by kernel_rfl) (by kernel_rfl) rfl rfl rfl rfl (q_extract rfl rfl rfl) (WA_take 9 rfl (by kernel_rfl) (by kernel_rfl) rfl rfl rfl rfl (q_extract rfl rfl rfl) (?_)))
                  refine WA_branch (rs := [10]) (by kernel_rfl) rfl (AllB.cons ?_ AllB.nil)
                  refine WB_run [0, 1, 2] rfl rfl (WX_alloc_s G 4 rfl rfl rfl rfl rfl (WL_nil ⟨rfl, ?_⟩))
                  refine WA_branch (rs := [11]) (by kernel_rfl) rfl (AllB.cons ?_ AllB.nil)
                  refine WB_run [0, 1, 2] rfl rfl (WX_store G rfl rfl rfl rfl rfl rfl rfl rfl rfl rfl rfl (WL_nil ⟨rfl, ?_⟩))
                  refine WA_take 12 rfl (by kernel_rfl) (by kernel_rfl) rfl rfl rfl rfl (q_assign rfl rfl) (?_)
                  exact WA_end (by kernel_rfl) (Meet.mk rfl rfl rfl rfl)
                · refine WB_run [0, 1, 2] rfl rfl (WX_alloc_s G 4 rfl rfl rfl rfl rfl (WL_nil ⟨rfl, ?_⟩))
                  refine WA_branch (rs := [6]) (by kernel_rfl) rfl (AllB.cons ?_ AllB.nil)
                  refine WB_run [0, 1, 2] rfl rfl (WX_q rfl rfl (q_call rfl (ArgsOK.of rfl) (c_spec_l23Use (ruB x ts c i) _ _ (by assumption) (by assumption)) rfl) (WL_nil ⟨rfl, ?_⟩))
                  refine WA_take 7 rfl (by kernel_rfl) (by kernel_rfl) rfl rfl rfl rfl (q_move rfl rfl) (WA_take 8 rfl (by kernel_rfl) (by kernel_rfl) rfl rfl rfl rfl (q_extract rfl rfl rfl) (WA_take 9 rfl (by kernel_rfl) (by kernel_rfl) rfl rfl rfl rfl (q_extract rfl rfl rfl) (?_)))
                  refine WA_branch (rs := [11]) (by kernel_rfl) rfl (AllB.cons ?_ AllB.nil)
                  refine WB_run [0, 1, 2] rfl rfl (WX_store G rfl rfl rfl rfl rfl rfl rfl rfl rfl rfl rfl (WL_nil ⟨rfl, ?_⟩))
                  refine WA_take 12 rfl (by kernel_rfl) (by kernel_rfl) rfl rfl rfl rfl (q_assign rfl rfl) (?_)
                  exact WA_end (by kernel_rfl) (Meet.mk rfl rfl rfl rfl)
              · clear hK16 K16
                refine W_seq (fun K17 hK17 => ?_)
                refine W_region (WL_cons rfl (WX_q rfl rfl (q_move rfl rfl) (WL_cons rfl (WX_q rfl rfl (q_move rfl rfl) (WL_cons rfl (WX_lit G 5 rfl rfl rfl rfl rfl rfl rfl rfl (WL_cons rfl (?_))))))))
                refine WX_append G np rfl rfl rfl rfl rfl rfl rfl rfl rfl (by simp [pre_len]; omega) rfl rfl ?_
                refine WL_cons rfl (WX_q rfl rfl (q_assign rfl rfl) (?_))
                refine WL_nil (hK17 _ ?_)
                clear hK17 K17
                refine W_region (WL_cons rfl (WX_q rfl rfl (q_load_box_struct G rfl rfl rfl rfl rfl rfl) (WL_cons rfl (WX_store G rfl rfl rfl rfl rfl rfl rfl rfl rfl rfl rfl (?_)))))
                refine WL_nil (hK12 _ ?_)
                clear hK12 K12
                refine W_region (WL_cons rfl (WX_q rfl rfl (q_move rfl rfl) (WL_cons rfl (?_))))
                first | refine WX_q rfl rfl (q_arith rfl rfl rfl rfl (by omega) (by omega)) ?_ | refine WX_q rfl rfl (q_wrap rfl rfl rfl rfl) ?_
                refine WL_cons rfl (WX_q rfl rfl (q_assign rfl rfl) (?_))
                refine WL_nil ⟨(i + 1), ?_, ?_, ⟨⟨_, rfl, by rfl⟩, rfl, ⟨⟨_, rfl, by rfl⟩, rfl, trivial⟩⟩, ⟨⟨_, rfl, by (first | rfl | exact congrArg (Row.row _ _) (pre_snoc (g := ruO x ts c) (f := encO) (i := i)))⟩, rfl, rfl, ⟨⟨_, rfl, by (first | rfl | exact congrArg (Row.row _ _) (pre_snoc (g := ruO x ts c) (f := encO) (i := i)))⟩, rfl, rfl, trivial⟩⟩, rfl, rfl, rfl⟩
                · exact ⟨by omega, upto_succ hinv.2 (by simp only [ruA]; assumption)⟩
                · omega
          · try rw [h4]
            try simp only [decide_eq_true_eq, decide_eq_false_iff_not, beq_iff_eq, bne_iff_ne, ne_eq, Bool.not_eq_true', Bool.not_eq_false', beq_eq_false_iff_ne, bne_eq_false_iff_eq, Bool.not_eq_true, Bool.not_eq_false, Int.not_lt, Int.not_le, gt_iff_lt, ge_iff_le, Bool.and_eq_true, Bool.and_eq_false_iff, Bool.or_eq_true, Bool.or_eq_false_iff] at h4
            refine W_exit (hK8 _ ?_)
            clear hK10 K10 hK8 K8
            refine W_seq (fun K18 hK18 => ?_)
            refine W_drawsH 5 [0, 2] mixed (by kernel_rfl) rfl rfl (fun r0 => ?_) (fun _ h => h)
            refine WA_take 0 rfl (by kernel_rfl) (by kernel_rfl) rfl rfl rfl rfl (q_move rfl rfl) (WA_take 1 rfl (by kernel_rfl) (by kernel_rfl) rfl rfl rfl rfl (q_load_box_struct G rfl rfl rfl rfl rfl rfl) (WA_take 2 rfl (by kernel_rfl) (by kernel_rfl) rfl rfl rfl rfl (q_assign rfl rfl) (?_)))
            refine WA_branch (rs := [3]) (by kernel_rfl) rfl (AllB.cons ?_ AllB.nil)
            refine WB_run [0, 2] rfl rfl (WX_store G rfl rfl rfl rfl rfl rfl rfl rfl rfl rfl rfl (WL_nil ⟨rfl, ?_⟩))
            refine WA_take 4 rfl (by kernel_rfl) (by kernel_rfl) rfl rfl rfl rfl (q_assign rfl rfl) (?_)
            refine WA_end (by kernel_rfl) (hK18 _ ?_)
            clear hK18 K18
            refine W_ret (fin_many rfl rfl rfl rfl (rcs_cons (rc_own rfl ?_) (rcs_cons (rc_agg rfl ?_) (rcs_cons (rc_v ?_) rcs_nil))))
            all_goals (first | rfl | (have e := ruOK_f (x := x) (ts := ts) (c := c) (i := i) (by assumption) (by omega); simp [ruT, ruE, e, zeroB, encB, encBc]; done) | (simp_all [ruT, ruE, ruOK, zeroB, encB, encBc]; done) | (have e : ruOK x ts c = false := (by simp [ruOK]; omega); simp [ruT, ruE, e, zeroB, encB, encBc]; done) | (have e : i = ts.length := (by omega); subst e; have e2 : allN ts.length (ruA x ts c) = true := allN_t hinv.2 (Nat.le_refl _); have e4 : ts.length ≤ 50 := (by omega); have e3 : ruOK x ts c = true := (by simp [ruOK, e2, e4, h1, h2]); simp [ruT, ruE, e3, encB, encBc]; done))

theorem c_impl_RunUses (x : Bucket) (ts : List Int) (c : Int) (hn : ts.length ≤ 1048576) : Ctr Try.prog 36 [.v (encB x), .lst 1 (ts.map encI), .v (.int .i64 c)] (.many [.fr 4 1 ((ruT x ts c).map encO), .v (encB (ruE x ts c)), .v (.bool (ruOK x ts c))]) := by
  refine Ctr.of (n := 56) G Try.func36 rfl (by kernel_rfl) rfl rfl rfl (fun w0 => ?_)
  refine W_seq (fun K1 hK1 => ?_)
  refine W_region (WL_cons rfl (WX_box 1 rfl rfl rfl rfl rfl rfl rfl (WL_cons rfl (WX_q rfl rfl (q_assign rfl rfl) (WL_cons rfl (WX_alloc_s G 2 rfl rfl rfl rfl rfl (WL_cons rfl (WX_q rfl rfl (q_assign rfl rfl) (?_)))))))))
  refine WL_nil (hK1 _ ?_)
  clear hK1 K1
  refine W_seq (fun K2 hK2 => ?_)
  refine W_seq (fun K3 hK3 => ?_)
  refine W_region (WL_cons rfl (WX_q rfl rfl (q_load_box_struct G rfl rfl rfl rfl rfl rfl) (WL_cons rfl (?_))))
  refine WX_q rfl rfl (q_call rfl (ArgsOK.of rfl) (c_impl_IsBucket _) rfl) ?_
  refine WL_cons rfl (WX_q rfl rfl (q_not rfl rfl) (WL_cons rfl (WX_q rfl rfl (q_move rfl rfl) (WL_part rfl rfl rfl (fun h1 => ?_) (fun h1 => ?_)))))
  · try rw [h1]
    try simp only [decide_eq_true_eq, decide_eq_false_iff_not, beq_iff_eq, bne_iff_ne, ne_eq, Bool.not_eq_true', Bool.not_eq_false', beq_eq_false_iff_ne, bne_eq_false_iff_eq, Bool.not_eq_true, Bool.not_eq_false, Int.not_lt, Int.not_le, gt_iff_lt, ge_iff_le, Bool.and_eq_true, Bool.and_eq_false_iff, Bool.or_eq_true, Bool.or_eq_false_iff] at h1
    refine WL_skip rfl rfl rfl rfl rfl rfl (WL_skip rfl rfl rfl rfl rfl rfl (WL_skip rfl rfl rfl rfl rfl rfl (WL_cons rfl (WX_q rfl rfl (q_pick_t rfl rfl rfl) (WL_cons rfl (WX_q rfl rfl (q_move rfl rfl) (WL_skip rfl rfl rfl rfl rfl rfl (WL_skip rfl rfl rfl rfl rfl rfl (WL_skip rfl rfl rfl rfl rfl rfl (WL_cons rfl (WX_q rfl rfl (q_pick_t rfl rfl rfl) (?_))))))))))))
    refine WL_nil (hK3 _ ?_)
    clear hK3 K3
    refine W_true rfl ?_
    refine W_seq (fun K4 hK4 => ?_)
    refine W_region (WL_cons rfl (WX_q rfl rfl (q_build G rfl rfl rfl rfl) (WL_cons rfl (WX_q rfl rfl (q_assign rfl rfl) (WL_cons rfl (WX_store G rfl rfl rfl rfl rfl rfl rfl rfl rfl rfl rfl (WL_cons rfl (WX_q rfl rfl (q_assign rfl rfl) (?_)))))))))
    refine WL_nil (hK4 _ ?_)
    clear hK4 K4
    refine W_ret (fin_many rfl rfl rfl rfl (rcs_cons (rc_nil ?_) (rcs_cons (rc_agg rfl ?_) (rcs_cons (rc_v ?_) rcs_nil))))
    all_goals clear hK2 K2
    all_goals (first | rfl | (have e := ruOK_f (x := x) (ts := ts) (c := c) (i := i) (by simp only [okAt]; rw [hinv.2.2]; simpa using h5) (by omega); simp [ruT, ruE, e, zeroB, encB, encBc]; done) | (simp_all [ruT, ruE, ruOK, zeroB, encB, encBc]; done) | (have e : ruOK x ts c = false := (by simp [ruOK]; omega); simp [ruT, ruE, e, zeroB, encB, encBc]; done) | (have e : i = ts.length := (by omega); subst e; have e2 : allN ts.length (ruA x ts c) = true := allN_t hinv.2.1 (Nat.le_refl _); have e4 : ts.length ≤ 50 := (by omega); have e3 : ruOK x ts c = true := (by simp [ruOK, e2, e4, h1, h2]); simp [ruT, ruE, e3, encB, encBc]; done))
  · try rw [h1]
    try simp only [decide_eq_true_eq, decide_eq_false_iff_not, beq_iff_eq, bne_iff_ne, ne_eq, Bool.not_eq_true', Bool.not_eq_false', beq_eq_false_iff_ne, bne_eq_false_iff_eq, Bool.not_eq_true, Bool.not_eq_false, Int.not_lt, Int.not_le, gt_iff_lt, ge_iff_le, Bool.and_eq_true, Bool.and_eq_false_iff, Bool.or_eq_true, Bool.or_eq_false_iff] at h1
    refine WL_run rfl rfl rfl (WX_q rfl rfl (q_move rfl rfl) (WL_run rfl rfl rfl (?_)))
    refine WX_q rfl rfl (q_call rfl (ArgsOK.of rfl) (c_impl_isCost _) rfl) ?_
    refine WL_run rfl rfl rfl (WX_q rfl rfl (q_not rfl rfl) (WL_cons rfl (WX_q rfl rfl (q_pick_f rfl rfl rfl) (WL_cons rfl (WX_q rfl rfl (q_move rfl rfl) (WL_part rfl rfl rfl (fun h2 => ?_) (fun h2 => ?_)))))))
    · try rw [h2]
      try simp only [decide_eq_true_eq, decide_eq_false_iff_not, beq_iff_eq, bne_iff_ne, ne_eq, Bool.not_eq_true', Bool.not_eq_false', beq_eq_false_iff_ne, bne_eq_false_iff_eq, Bool.not_eq_true, Bool.not_eq_false, Int.not_lt, Int.not_le, gt_iff_lt, ge_iff_le, Bool.and_eq_true, Bool.and_eq_false_iff, Bool.or_eq_true, Bool.or_eq_false_iff] at h2
      refine WL_skip rfl rfl rfl rfl rfl rfl (WL_skip rfl rfl rfl rfl rfl rfl (WL_skip rfl rfl rfl rfl rfl rfl (WL_cons rfl (WX_q rfl rfl (q_pick_t rfl rfl rfl) (?_)))))
      refine WL_nil (hK3 _ ?_)
      clear hK3 K3
      refine W_true rfl ?_
      refine W_seq (fun K5 hK5 => ?_)
      refine W_region (WL_cons rfl (WX_q rfl rfl (q_build G rfl rfl rfl rfl) (WL_cons rfl (WX_q rfl rfl (q_assign rfl rfl) (WL_cons rfl (WX_store G rfl rfl rfl rfl rfl rfl rfl rfl rfl rfl rfl (WL_cons rfl (WX_q rfl rfl (q_assign rfl rfl) (?_)))))))))
      refine WL_nil (hK5 _ ?_)
      clear hK5 K5
      refine W_ret (fin_many rfl rfl rfl rfl (rcs_cons (rc_nil ?_) (rcs_cons (rc_agg rfl ?_) (rcs_cons (rc_v ?_) rcs_nil))))
      all_goals clear hK2 K2
      all_goals (first | rfl | (have e := ruOK_f (x := x) (ts := ts) (c := c) (i := i) (by simp only [okAt]; rw [hinv.2.2]; simpa using h5) (by omega); simp [ruT, ruE, e, zeroB, encB, encBc]; done) | (simp_all [ruT, ruE, ruOK, zeroB, encB, encBc]; done) | (have e : ruOK x ts c = false := (by simp [ruOK]; omega); simp [ruT, ruE, e, zeroB, encB, encBc]; done) | (have e : i = ts.length := (by omega); subst e; have e2 : allN ts.length (ruA x ts c) = true := allN_t hinv.2.1 (Nat.le_refl _); have e4 : ts.length ≤ 50 := (by omega); have e3 : ruOK x ts c = true := (by simp [ruOK, e2, e4, h1, h2]); simp [ruT, ruE, e3, encB, encBc]; done))
    · try rw [h2]
      try simp only [decide_eq_true_eq, decide_eq_false_iff_not, beq_iff_eq, bne_iff_ne, ne_eq, Bool.not_eq_true', Bool.not_eq_false', beq_eq_false_iff_ne, bne_eq_false_iff_eq, Bool.not_eq_true, Bool.not_eq_false, Int.not_lt, Int.not_le, gt_iff_lt, ge_iff_le, Bool.and_eq_true, Bool.and_eq_false_iff, Bool.or_eq_true, Bool.or_eq_false_iff] at h2
      refine WL_run rfl rfl rfl (WX_q rfl rfl (q_move rfl rfl) (WL_run rfl rfl rfl (?_)))
      first | refine WX_q rfl rfl (q_len' G rfl rfl rfl rfl (List.length_map _)) ?_ | refine WX_q rfl rfl (q_len G rfl rfl rfl rfl) ?_
      refine WL_run rfl rfl rfl (WX_q rfl rfl (q_cmp rfl rfl rfl rfl) (WL_cons rfl (WX_q rfl rfl (q_pick_f rfl rfl rfl) (?_))))
      refine WL_nil (hK3 _ ?_)
      clear hK3 K3
      refine W_cond rfl (fun h3 => ?_) (fun h3 => ?_)
      · try rw [h3]
        try simp only [decide_eq_true_eq, decide_eq_false_iff_not, beq_iff_eq, bne_iff_ne, ne_eq, Bool.not_eq_true', Bool.not_eq_false', beq_eq_false_iff_ne, bne_eq_false_iff_eq, Bool.not_eq_true, Bool.not_eq_false, Int.not_lt, Int.not_le, gt_iff_lt, ge_iff_le, Bool.and_eq_true, Bool.and_eq_false_iff, Bool.or_eq_true, Bool.or_eq_false_iff] at h3
        refine W_seq (fun K6 hK6 => ?_)
        refine W_region (WL_cons rfl (WX_q rfl rfl (q_build G rfl rfl rfl rfl) (WL_cons rfl (WX_q rfl rfl (q_assign rfl rfl) (WL_cons rfl (WX_store G rfl rfl rfl rfl rfl rfl rfl rfl rfl rfl rfl (WL_cons rfl (WX_q rfl rfl (q_assign rfl rfl) (?_)))))))))
        refine WL_nil (hK6 _ ?_)
        clear hK6 K6
        refine W_ret (fin_many rfl rfl rfl rfl (rcs_cons (rc_nil ?_) (rcs_cons (rc_agg rfl ?_) (rcs_cons (rc_v ?_) rcs_nil))))
        all_goals clear hK2 K2
        all_goals (first | rfl | (have e := ruOK_f (x := x) (ts := ts) (c := c) (i := i) (by simp only [okAt]; rw [hinv.2.2]; simpa using h5) (by omega); simp [ruT, ruE, e, zeroB, encB, encBc]; done) | (simp_all [ruT, ruE, ruOK, zeroB, encB, encBc]; done) | (have e : ruOK x ts c = false := (by simp [ruOK]; omega); simp [ruT, ruE, e, zeroB, encB, encBc]; done) | (have e : i = ts.length := (by omega); subst e; have e2 : allN ts.length (ruA x ts c) = true := allN_t hinv.2.1 (Nat.le_refl _); have e4 : ts.length ≤ 50 := (by omega); have e3 : ruOK x ts c = true := (by simp [ruOK, e2, e4, h1, h2]); simp [ruT, ruE, e3, encB, encBc]; done))
      · try rw [h3]
        try simp only [decide_eq_true_eq, decide_eq_false_iff_not, beq_iff_eq, bne_iff_ne, ne_eq, Bool.not_eq_true', Bool.not_eq_false', beq_eq_false_iff_ne, bne_eq_false_iff_eq, Bool.not_eq_true, Bool.not_eq_false, Int.not_lt, Int.not_le, gt_iff_lt, ge_iff_le, Bool.and_eq_true, Bool.and_eq_false_iff, Bool.or_eq_true, Bool.or_eq_false_iff] at h3
        refine W_skip (hK2 _ ?_)
        clear hK2 K2
        refine W_seq (fun K7 hK7 => ?_)
        refine W_region (WL_cons rfl (WX_lit G 3 rfl rfl rfl rfl rfl rfl rfl rfl (WL_cons rfl (WX_q rfl rfl (q_assign rfl rfl) (?_)))))
        refine WL_nil (hK7 _ ?_)
        clear hK7 K7
        refine W_seq (fun K8 hK8 => ?_)
        refine W_seq (fun K9 hK9 => ?_)
        refine W_region (WL_cons rfl (WX_q rfl rfl (q_move rfl rfl) (WL_cons rfl (?_))))
        first | refine WX_q rfl rfl (q_len' G rfl rfl rfl rfl (List.length_map _)) ?_ | refine WX_q rfl rfl (q_len G rfl rfl rfl rfl) ?_
        refine WL_cons rfl (WX_q rfl rfl (q_move rfl rfl) (?_))
        refine WL_nil (hK9 _ ?_)
        clear hK9 K9
        refine W_block ?_
        refine W_loopK [2, 3, 7, 29, 30] [1] (fun (i : Nat) => [(9, .own 2), (31, .v (.int .i64 (i : Int)))]) (fun (i : Nat) => [(0, some (.box [.v (.int .i64 (ruB x ts c i).g), .v (.int .i64 (ruB x ts c i).r), .v (.int .i64 (ruB x ts c i).b), .v (.int .i64 (ruB x ts c i).h), .v (.int .i64 (ruB x ts c i).t)])), (2, some (.row 4 1 ((pre (ruO x ts c) i).map encO)))]) (fun (i : Nat) => i ≤ ts.length ∧ (∀ j, j < i → ruA x ts c j = true) ∧ isBucket (ruB x ts c i) = true) (fun (i : Nat) => ts.length - i) 0 rfl rfl ?_ ?_ ?_ ?_
        · exact ⟨Nat.zero_le _, fun j hj => (by omega), h1⟩
        · exact ⟨⟨_, rfl, by rfl⟩, rfl, ⟨⟨_, rfl, by rfl⟩, rfl, trivial⟩⟩
        · exact ⟨⟨_, rfl, by rfl⟩, rfl, rfl, ⟨⟨_, rfl, by rfl⟩, rfl, rfl, trivial⟩⟩
        · intro i hinv
          have hi : i ≤ ts.length := hinv.1
          simp only [List.cons_append, List.nil_append]
          refine W_seq (fun K10 hK10 => ?_)
          refine W_region (WL_cons rfl (WX_q rfl rfl (q_cmp rfl rfl rfl rfl) (?_)))
          refine WL_nil (hK10 _ ?_)
          clear hK10 K10
          refine W_seq (fun K11 hK11 => ?_)
          refine W_cond rfl (fun h4 => ?_) (fun h4 => ?_)
          · try rw [h4]
            try simp only [decide_eq_true_eq, decide_eq_false_iff_not, beq_iff_eq, bne_iff_ne, ne_eq, Bool.not_eq_true', Bool.not_eq_false', beq_eq_false_iff_ne, bne_eq_false_iff_eq, Bool.not_eq_true, Bool.not_eq_false, Int.not_lt, Int.not_le, gt_iff_lt, ge_iff_le, Bool.and_eq_true, Bool.and_eq_false_iff, Bool.or_eq_true, Bool.or_eq_false_iff] at h4
            refine W_skip (hK11 _ ?_)
            clear hK11 K11
            refine W_seq (fun K12 hK12 => ?_)
            refine W_block ?_
            refine W_seq (fun K13 hK13 => ?_)
            refine W_region (WL_cons rfl (?_))
            refine WX_q rfl rfl (q_index_lst G rfl rfl rfl rfl (by omega) (getN (by omega))) ?_
            refine WL_cons rfl (WX_q rfl rfl (q_load_ept G rfl rfl rfl rfl rfl) (WL_cons rfl (WX_q rfl rfl (q_assign rfl rfl) (?_))))
            refine WL_nil (hK13 _ ?_)
            clear hK13 K13
            refine W_seq (fun K14 hK14 => ?_)
            refine W_seq (fun K15 hK15 => ?_)
            refine W_region (WL_cons rfl (WX_q rfl rfl (q_move rfl rfl) (WL_cons rfl (WX_q rfl rfl (q_field_ptr G rfl rfl rfl rfl) (WL_cons rfl (WX_q rfl rfl (q_load_box G rfl rfl rfl rfl rfl rfl rfl) (WL_cons rfl (?_))))))))
            refine WX_q rfl rfl (q_call rfl (ArgsOK.of rfl) (c_impl_inside _ _ _) rfl) ?_
            refine WL_cons rfl (WX_q rfl rfl (q_not rfl rfl) (?_))
            refine WL_nil (hK15 _ ?_)
            clear hK15 K15
            refine W_cond rfl (fun h5 => ?_) (fun h5 => ?_)
            · try rw [h5]
              try simp only [decide_eq_true_eq, decide_eq_false_iff_not, beq_iff_eq, bne_iff_ne, ne_eq, Bool.not_eq_true', Bool.not_eq_false', beq_eq_false_iff_ne, bne_eq_false_iff_eq, Bool.not_eq_true, Bool.not_eq_false, Int.not_lt, Int.not_le, gt_iff_lt, ge_iff_le, Bool.and_eq_true, Bool.and_eq_false_iff, Bool.or_eq_true, Bool.or_eq_false_iff] at h5
              refine W_seq (fun K16 hK16 => ?_)
              refine W_region (WL_cons rfl (WX_q rfl rfl (q_build G rfl rfl rfl rfl) (WL_cons rfl (WX_q rfl rfl (q_assign rfl rfl) (WL_cons rfl (WX_store G rfl rfl rfl rfl rfl rfl rfl rfl rfl rfl rfl (WL_cons rfl (WX_q rfl rfl (q_assign rfl rfl) (?_)))))))))
              refine WL_nil (hK16 _ ?_)
              clear hK16 K16
              refine W_ret (fin_many rfl rfl rfl rfl (rcs_cons (rc_nil ?_) (rcs_cons (rc_agg rfl ?_) (rcs_cons (rc_v ?_) rcs_nil))))
              all_goals clear hK14 K14 hK12 K12 hK8 K8
              all_goals (first | rfl | (have e := ruOK_f (x := x) (ts := ts) (c := c) (i := i) (by simp only [okAt]; rw [hinv.2.2]; simpa using h5) (by omega); simp [ruT, ruE, e, zeroB, encB, encBc]; done) | (simp_all [ruT, ruE, ruOK, zeroB, encB, encBc]; done) | (have e : ruOK x ts c = false := (by simp [ruOK]; omega); simp [ruT, ruE, e, zeroB, encB, encBc]; done) | (have e : i = ts.length := (by omega); subst e; have e2 : allN ts.length (ruA x ts c) = true := allN_t hinv.2.1 (Nat.le_refl _); have e4 : ts.length ≤ 50 := (by omega); have e3 : ruOK x ts c = true := (by simp [ruOK, e2, e4, h1, h2]); simp [ruT, ruE, e3, encB, encBc]; done))
            · try rw [h5]
              try simp only [decide_eq_true_eq, decide_eq_false_iff_not, beq_iff_eq, bne_iff_ne, ne_eq, Bool.not_eq_true', Bool.not_eq_false', beq_eq_false_iff_ne, bne_eq_false_iff_eq, Bool.not_eq_true, Bool.not_eq_false, Int.not_lt, Int.not_le, gt_iff_lt, ge_iff_le, Bool.and_eq_true, Bool.and_eq_false_iff, Bool.or_eq_true, Bool.or_eq_false_iff] at h5
              have hka : okAt (ruB x ts c i) (ts.getD i default) = true := (by simp only [okAt]; rw [hinv.2.2]; simpa using h5)
              refine W_skip (hK14 _ ?_)
              clear hK14 K14
              refine W_seq (fun K17 hK17 => ?_)
              refine W_region (WL_cons rfl (WX_q rfl rfl (q_load_box_struct G rfl rfl rfl rfl rfl rfl) (WL_cons rfl (WX_q rfl rfl (q_move rfl rfl) (WL_cons rfl (WX_q rfl rfl (q_move rfl rfl) (WL_cons rfl (?_))))))))
              refine WX_q rfl rfl (q_call rfl (ArgsOK.of rfl) (c_impl_used (ruB x ts c i) _ _ hka (by assumption)) rfl) ?_
              refine WL_cons rfl (WX_q rfl rfl (q_move rfl rfl) (WL_cons rfl (WX_q rfl rfl (q_extract rfl rfl rfl) (WL_cons rfl (WX_q rfl rfl (q_extract rfl rfl rfl) (WL_cons rfl (WX_alloc_s G 4 rfl rfl rfl rfl rfl (WL_cons rfl (WX_store G rfl rfl rfl rfl rfl rfl rfl rfl rfl rfl rfl (WL_cons rfl (WX_q rfl rfl (q_assign rfl rfl) (?_))))))))))))
              refine WL_nil (hK17 _ ?_)
              clear hK17 K17
              refine W_seq (fun K18 hK18 => ?_)
              refine W_region (WL_cons rfl (WX_q rfl rfl (q_load_box_struct G rfl rfl rfl rfl rfl rfl) (WL_cons rfl (WX_store G rfl rfl rfl rfl rfl rfl rfl rfl rfl rfl rfl (?_)))))
              refine WL_nil (hK18 _ ?_)
              clear hK18 K18
              refine W_region (WL_cons rfl (WX_q rfl rfl (q_move rfl rfl) (WL_cons rfl (WX_q rfl rfl (q_move rfl rfl) (WL_cons rfl (WX_lit G 5 rfl rfl rfl rfl rfl rfl rfl rfl (WL_cons rfl (?_))))))))
              refine WX_append G np rfl rfl rfl rfl rfl rfl rfl rfl rfl (by simp [pre_len]; omega) rfl rfl ?_
              refine WL_cons rfl (WX_q rfl rfl (q_assign rfl rfl) (?_))
              refine WL_nil (hK12 _ ?_)
              clear hK12 K12
              refine W_region (WL_cons rfl (?_))
              first | refine WX_q rfl rfl (q_arith rfl rfl rfl rfl (by omega) (by omega)) ?_ | refine WX_q rfl rfl (q_wrap rfl rfl rfl rfl) ?_
              refine WL_cons rfl (WX_q rfl rfl (q_move rfl rfl) (?_))
              refine WL_nil ⟨(i + 1), ?_, ?_, ⟨⟨_, rfl, by rfl⟩, rfl, ⟨⟨_, rfl, by rfl⟩, rfl, trivial⟩⟩, ⟨⟨_, rfl, by (first | rfl | exact congrArg (Row.row _ _) (pre_snoc (g := ruO x ts c) (f := encO) (i := i)))⟩, rfl, rfl, ⟨⟨_, rfl, by (first | rfl | exact congrArg (Row.row _ _) (pre_snoc (g := ruO x ts c) (f := encO) (i := i)))⟩, rfl, rfl, trivial⟩⟩, rfl, rfl, rfl⟩
              · exact ⟨by omega, upto_succ hinv.2.1 (by simp only [ruA]; exact hka), useB_ok hka h2⟩
              · omega
          · try rw [h4]
            try simp only [decide_eq_true_eq, decide_eq_false_iff_not, beq_iff_eq, bne_iff_ne, ne_eq, Bool.not_eq_true', Bool.not_eq_false', beq_eq_false_iff_ne, bne_eq_false_iff_eq, Bool.not_eq_true, Bool.not_eq_false, Int.not_lt, Int.not_le, gt_iff_lt, ge_iff_le, Bool.and_eq_true, Bool.and_eq_false_iff, Bool.or_eq_true, Bool.or_eq_false_iff] at h4
            refine W_exit (hK8 _ ?_)
            clear hK11 K11 hK8 K8
            refine W_seq (fun K19 hK19 => ?_)
            refine W_drawsH 5 [0, 2] mixed (by kernel_rfl) rfl rfl (fun r0 => ?_) (fun _ h => h)
            refine WA_take 0 rfl (by kernel_rfl) (by kernel_rfl) rfl rfl rfl rfl (q_move rfl rfl) (WA_take 1 rfl (by kernel_rfl) (by kernel_rfl) rfl rfl rfl rfl (q_load_box_struct G rfl rfl rfl rfl rfl rfl) (WA_take 2 rfl (by kernel_rfl) (by kernel_rfl) rfl rfl rfl rfl (q_assign rfl rfl) (?_)))
            refine WA_branch (rs := [3]) (by kernel_rfl) rfl (AllB.cons ?_ AllB.nil)
            refine WB_run [0, 2] rfl rfl (WX_store G rfl rfl rfl rfl rfl rfl rfl rfl rfl rfl rfl (WL_nil ⟨rfl, ?_⟩))
            refine WA_take 4 rfl (by kernel_rfl) (by kernel_rfl) rfl rfl rfl rfl (q_assign rfl rfl) (?_)
            refine WA_end (by kernel_rfl) (hK19 _ ?_)
            clear hK19 K19
            refine W_ret (fin_many rfl rfl rfl rfl (rcs_cons (rc_own rfl ?_) (rcs_cons (rc_agg rfl ?_) (rcs_cons (rc_v ?_) rcs_nil))))
            all_goals (first | rfl | (have e := ruOK_f (x := x) (ts := ts) (c := c) (i := i) (by simp only [okAt]; rw [hinv.2.2]; simpa using h5) (by omega); simp [ruT, ruE, e, zeroB, encB, encBc]; done) | (simp_all [ruT, ruE, ruOK, zeroB, encB, encBc]; done) | (have e : ruOK x ts c = false := (by simp [ruOK]; omega); simp [ruT, ruE, e, zeroB, encB, encBc]; done) | (have e : i = ts.length := (by omega); subst e; have e2 : allN ts.length (ruA x ts c) = true := allN_t hinv.2.1 (Nat.le_refl _); have e4 : ts.length ≤ 50 := (by omega); have e3 : ruOK x ts c = true := (by simp [ruOK, e2, e4, h1, h2]); simp [ruT, ruE, e3, encB, encBc]; done))

end Go.Proofs.Yteplehpcplbioaa
