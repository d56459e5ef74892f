/- Walks through functions of the program, one contract each (written by gen.py). -/
import Derived.Test.YtehijimgenicfaaW2
import Derived.Test.YtehijimgenicfaaW3
set_option maxRecDepth 20000
set_option linter.unusedVariables false
set_option linter.unusedSimpArgs false
namespace Go.Proofs.Ytehijimgenicfaa
open Go Go.Rf

theorem c_spec_l24Good (xs : List Setting) (hn : xs.length ≤ 1048576) (hz : ∀ i, i < xs.length → (xs.getD i default).n.size ≤ 9223372036854775807) : Ctr Try.prog 28 [.lst 6 (xs.map encTc)] (.one (.v (.bool (goodT xs)))) := by
  refine Ctr.of (n := 54) G Try.func28 rfl (by kernel_rfl) rfl rfl rfl (fun w0 => ?_)
  refine W_seq (fun K1 hK1 => ?_)
  refine W_region (WL_cons rfl (WX_q rfl rfl (q_assign rfl rfl) (?_)))
  refine WL_nil (hK1 _ ?_)
  clear hK1 K1
  refine W_seq (fun K2 hK2 => ?_)
  refine W_seq (fun K3 hK3 => ?_)
  refine W_region (WL_cons rfl (WX_q rfl rfl (q_assign rfl rfl) (?_)))
  refine WL_nil (hK3 _ ?_)
  clear hK3 K3
  refine W_block ?_
  refine W_loopK [0] [] (fun (i : Nat) => [(3, .v (.int .i64 (i : Int)))]) (fun (i : Nat) => []) (fun (i : Nat) => i ≤ xs.length ∧ ∀ j, j < i → oneT xs j = true) (fun (i : Nat) => xs.length - i) 0 rfl rfl ?_ ?_ ?_ ?_
  · exact ⟨Nat.zero_le _, fun j hj => by omega⟩
  · exact ⟨⟨_, rfl, by (first | rfl | (simp; done) | (simp; omega))⟩, rfl, trivial⟩
  · exact trivial
  · intro i hinv
    have ht : ((i : Int) - 1).toNat = i - 1 := by omega
    simp only [List.cons_append, List.nil_append]
    refine W_seq (fun K4 hK4 => ?_)
    refine W_seq (fun K5 hK5 => ?_)
    refine W_region (WL_cons rfl (WX_q rfl rfl (q_move rfl rfl) (WL_cons rfl (WX_q rfl rfl (q_move rfl rfl) (WL_cons rfl (?_))))))
    first | refine WX_q rfl rfl (q_len' G rfl rfl rfl rfl (List.length_map _)) ?_ | refine WX_q rfl rfl (q_len G rfl rfl rfl rfl) ?_
    refine WL_cons rfl (WX_q rfl rfl (q_cmp rfl rfl rfl rfl) (?_))
    refine WL_nil (hK5 _ ?_)
    clear hK5 K5
    refine W_cond rfl (fun h1 => ?_) (fun h1 => ?_)
    · try rw [h1]
      try simp only [decide_eq_true_eq, decide_eq_false_iff_not, beq_iff_eq, bne_iff_ne, ne_eq, Bool.not_eq_true', Bool.not_eq_false', beq_eq_false_iff_ne, bne_eq_false_iff_eq, Bool.not_eq_true, Bool.not_eq_false, Int.not_lt, Int.not_le, gt_iff_lt, ge_iff_le, Bool.and_eq_true, Bool.and_eq_false_iff, Bool.or_eq_true, Bool.or_eq_false_iff] at h1
      refine W_skip (hK4 _ ?_)
      clear hK4 K4
      refine W_seq (fun K6 hK6 => ?_)
      refine W_block ?_
      refine W_seq (fun K7 hK7 => ?_)
      refine W_seq (fun K8 hK8 => ?_)
      refine W_draws mixed (by kernel_rfl) (QL_cons rfl (QX_q rfl rfl (q_move rfl rfl) (QL_cons rfl (QX_q rfl rfl (q_move rfl rfl) (QL_cons rfl (?_))))))
      first | refine QX_q rfl rfl (q_index_lst G rfl rfl rfl rfl (by omega) (getN (by omega))) ?_ | refine QX_q rfl rfl (q_index_lst G rfl rfl rfl rfl (by omega) (getNI (by omega) (by omega))) ?_
      refine QL_cons rfl (QX_q rfl rfl (q_load_ept_struct G rfl rfl rfl rfl) (QL_cons rfl (?_)))
      refine QX_q rfl rfl (q_call rfl (ArgsOK.of rfl) (c_spec_l24One _ (hz i (by omega))) rfl) ?_
      refine QL_cons rfl (QX_q rfl rfl (q_not rfl rfl) (QL_cons rfl (QX_q rfl rfl (q_move rfl rfl) (QL_part rfl rfl rfl (fun h2 => ?_) (fun h2 => ?_)))))
      · try rw [h2]
        try simp only [decide_eq_true_eq, decide_eq_false_iff_not, beq_iff_eq, bne_iff_ne, ne_eq, Bool.not_eq_true', Bool.not_eq_false', beq_eq_false_iff_ne, bne_eq_false_iff_eq, Bool.not_eq_true, Bool.not_eq_false, Int.not_lt, Int.not_le, gt_iff_lt, ge_iff_le, Bool.and_eq_true, Bool.and_eq_false_iff, Bool.or_eq_true, Bool.or_eq_false_iff] at h2
        refine QL_skip rfl rfl rfl rfl rfl rfl (QL_skip rfl rfl rfl rfl rfl rfl (QL_skip rfl rfl rfl rfl rfl rfl (QL_skip_u rfl rfl rfl rfl rfl (QL_skip_u rfl rfl rfl rfl rfl (QL_skip_u rfl rfl rfl rfl rfl (QL_skip_u rfl rfl rfl rfl rfl (QL_skip_u rfl rfl rfl rfl rfl (QL_skip_u rfl rfl rfl rfl rfl (QL_skip_u rfl rfl rfl rfl rfl (QL_skip_u rfl rfl rfl rfl rfl (QL_skip_u rfl rfl rfl rfl rfl (QL_skip_u rfl rfl rfl rfl rfl (QL_skip_u rfl rfl rfl rfl rfl (QL_skip_u rfl rfl rfl rfl rfl (QL_skip rfl rfl rfl rfl rfl rfl (QL_cons rfl (QX_q rfl rfl (q_pick_t rfl rfl rfl) (?_))))))))))))))))))
        refine QL_nil (hK8 _ ?_)
        clear hK8 K8
        refine W_true rfl ?_
        refine W_seq (fun K9 hK9 => ?_)
        refine W_region (WL_cons rfl (WX_q rfl rfl (q_assign rfl rfl) (?_)))
        refine WL_nil (hK9 _ ?_)
        clear hK9 K9
        refine W_ret (fin_one rfl (rc_v ?_))
        all_goals clear hK7 K7 hK6 K6 hK2 K2
        all_goals (first | (have e : allN xs.length (oneT xs) = false := allN_f (i := i) (by rw [oneT, anyN_t (f := sameN xs i) (i := k) (by simp only [sameN, beq_iff_eq]; assumption) (by omega)]; simp) (by omega); simp [goodT, e]; done) | (have e : allN xs.length (oneT xs) = true := allN_t hinv.2 (by omega); simp [goodT, e]; first | done | omega) | (have e : allN xs.length (oneT xs) = false := allN_f (i := i) (by first | (simp_all [oneT] <;> omega) | (cases hz : oneT xs i <;> simp_all [oneT] <;> omega)) (by omega); simp [goodT, e]; done))
      · try rw [h2]
        try simp only [decide_eq_true_eq, decide_eq_false_iff_not, beq_iff_eq, bne_iff_ne, ne_eq, Bool.not_eq_true', Bool.not_eq_false', beq_eq_false_iff_ne, bne_eq_false_iff_eq, Bool.not_eq_true, Bool.not_eq_false, Int.not_lt, Int.not_le, gt_iff_lt, ge_iff_le, Bool.and_eq_true, Bool.and_eq_false_iff, Bool.or_eq_true, Bool.or_eq_false_iff] at h2
        refine QL_run rfl rfl rfl (QX_q rfl rfl (q_move rfl rfl) (QL_run rfl rfl rfl (QX_q rfl rfl (q_cmp rfl rfl rfl rfl) (QL_run rfl rfl rfl (QX_q rfl rfl (q_move rfl rfl) (QL_part rfl rfl rfl (fun h3 => ?_) (fun h3 => ?_)))))))
        · try rw [h3]
          try simp only [decide_eq_true_eq, decide_eq_false_iff_not, beq_iff_eq, bne_iff_ne, ne_eq, Bool.not_eq_true', Bool.not_eq_false', beq_eq_false_iff_ne, bne_eq_false_iff_eq, Bool.not_eq_true, Bool.not_eq_false, Int.not_lt, Int.not_le, gt_iff_lt, ge_iff_le, Bool.and_eq_true, Bool.and_eq_false_iff, Bool.or_eq_true, Bool.or_eq_false_iff] at h3
          refine QL_run rfl rfl rfl (QX_q rfl rfl (q_move rfl rfl) (QL_run rfl rfl rfl (QX_q rfl rfl (q_move rfl rfl) (QL_run rfl rfl rfl (?_)))))
          first | refine QX_q rfl rfl (q_arith rfl rfl rfl rfl (by omega) (by omega)) ?_ | refine QX_q rfl rfl (q_wrap rfl rfl rfl rfl) ?_
          refine QL_run rfl rfl rfl (?_)
          first | refine QX_q rfl rfl (q_index_lst G rfl rfl rfl rfl (by omega) (getN (by omega))) ?_ | refine QX_q rfl rfl (q_index_lst G rfl rfl rfl rfl (by omega) (getNI (by omega) (by omega))) ?_
          refine QL_run rfl rfl rfl (QX_q rfl rfl (q_field_ept G rfl rfl rfl rfl) (QL_run rfl rfl rfl (QX_q rfl rfl (q_load_ept G rfl rfl rfl rfl rfl) (QL_run rfl rfl rfl (QX_q rfl rfl (q_move rfl rfl) (QL_run rfl rfl rfl (QX_q rfl rfl (q_move rfl rfl) (QL_run rfl rfl rfl (?_)))))))))
          first | refine QX_q rfl rfl (q_index_lst G rfl rfl rfl rfl (by omega) (getN (by omega))) ?_ | refine QX_q rfl rfl (q_index_lst G rfl rfl rfl rfl (by omega) (getNI (by omega) (by omega))) ?_
          refine QL_run rfl rfl rfl (QX_q rfl rfl (q_field_ept G rfl rfl rfl rfl) (QL_run rfl rfl rfl (QX_q rfl rfl (q_load_ept G rfl rfl rfl rfl rfl) (QL_run rfl rfl rfl (QX_q rfl rfl (q_cmp rfl rfl rfl rfl) (QL_run rfl rfl rfl (QX_q rfl rfl (q_pick_t rfl rfl rfl) (QL_cons rfl (QX_q rfl rfl (q_pick_f rfl rfl rfl) (?_))))))))))
          refine QL_nil (hK8 _ ?_)
          clear hK8 K8
          refine W_cond rfl (fun h4 => ?_) (fun h4 => ?_)
          · try rw [h4]
            try simp only [decide_eq_true_eq, decide_eq_false_iff_not, beq_iff_eq, bne_iff_ne, ne_eq, Bool.not_eq_true', Bool.not_eq_false', beq_eq_false_iff_ne, bne_eq_false_iff_eq, Bool.not_eq_true, Bool.not_eq_false, Int.not_lt, Int.not_le, gt_iff_lt, ge_iff_le, Bool.and_eq_true, Bool.and_eq_false_iff, Bool.or_eq_true, Bool.or_eq_false_iff] at h4
            refine W_seq (fun K10 hK10 => ?_)
            refine W_region (WL_cons rfl (WX_q rfl rfl (q_assign rfl rfl) (?_)))
            refine WL_nil (hK10 _ ?_)
            clear hK10 K10
            refine W_ret (fin_one rfl (rc_v ?_))
            all_goals clear hK7 K7 hK6 K6 hK2 K2
            all_goals (first | (have e : allN xs.length (oneT xs) = false := allN_f (i := i) (by rw [oneT, anyN_t (f := sameN xs i) (i := k) (by simp only [sameN, beq_iff_eq]; assumption) (by omega)]; simp) (by omega); simp [goodT, e]; done) | (have e : allN xs.length (oneT xs) = true := allN_t hinv.2 (by omega); simp [goodT, e]; first | done | omega) | (have e : allN xs.length (oneT xs) = false := allN_f (i := i) (by first | (simp_all [oneT] <;> omega) | (cases hz : oneT xs i <;> simp_all [oneT] <;> omega)) (by omega); simp [goodT, e]; done))
          · try rw [h4]
            try simp only [decide_eq_true_eq, decide_eq_false_iff_not, beq_iff_eq, bne_iff_ne, ne_eq, Bool.not_eq_true', Bool.not_eq_false', beq_eq_false_iff_ne, bne_eq_false_iff_eq, Bool.not_eq_true, Bool.not_eq_false, Int.not_lt, Int.not_le, gt_iff_lt, ge_iff_le, Bool.and_eq_true, Bool.and_eq_false_iff, Bool.or_eq_true, Bool.or_eq_false_iff] at h4
            refine W_skip (hK7 _ ?_)
            clear hK7 K7
            refine W_seq (fun K11 hK11 => ?_)
            refine W_region (WL_cons rfl (WX_q rfl rfl (q_assign rfl rfl) (?_)))
            refine WL_nil (hK11 _ ?_)
            clear hK11 K11
            refine W_block ?_
            refine W_loopK [0, 3] [] (fun (k : Nat) => [(4, .v (.int .i64 (k : Int)))]) (fun (k : Nat) => []) (fun (k : Nat) => k ≤ i ∧ ∀ j, j < k → sameN xs i j = false) (fun (k : Nat) => i - k) 0 rfl rfl ?_ ?_ ?_ ?_
            · exact ⟨Nat.zero_le _, fun j hj => by omega⟩
            · exact ⟨⟨_, rfl, by (first | rfl | (simp; done) | (simp; omega))⟩, rfl, trivial⟩
            · exact trivial
            · intro k hk
              simp only [List.cons_append, List.nil_append]
              refine W_seq (fun K12 hK12 => ?_)
              refine W_seq (fun K13 hK13 => ?_)
              refine W_region (WL_cons rfl (WX_q rfl rfl (q_move rfl rfl) (WL_cons rfl (WX_q rfl rfl (q_move rfl rfl) (WL_cons rfl (WX_q rfl rfl (q_cmp rfl rfl rfl rfl) (?_)))))))
              refine WL_nil (hK13 _ ?_)
              clear hK13 K13
              refine W_cond rfl (fun h5 => ?_) (fun h5 => ?_)
              · try rw [h5]
                try simp only [decide_eq_true_eq, decide_eq_false_iff_not, beq_iff_eq, bne_iff_ne, ne_eq, Bool.not_eq_true', Bool.not_eq_false', beq_eq_false_iff_ne, bne_eq_false_iff_eq, Bool.not_eq_true, Bool.not_eq_false, Int.not_lt, Int.not_le, gt_iff_lt, ge_iff_le, Bool.and_eq_true, Bool.and_eq_false_iff, Bool.or_eq_true, Bool.or_eq_false_iff] at h5
                refine W_skip (hK12 _ ?_)
                clear hK12 K12
                refine W_seq (fun K14 hK14 => ?_)
                refine W_block ?_
                refine W_seq (fun K15 hK15 => ?_)
                refine W_draws mixed (by kernel_rfl) (QL_cons rfl (QX_q rfl rfl (q_move rfl rfl) (QL_cons rfl (QX_q rfl rfl (q_move rfl rfl) (QL_cons rfl (?_))))))
                first | refine QX_q rfl rfl (q_index_lst G rfl rfl rfl rfl (by omega) (getN (by omega))) ?_ | refine QX_q rfl rfl (q_index_lst G rfl rfl rfl rfl (by omega) (getNI (by omega) (by omega))) ?_
                refine QL_cons rfl (QX_q rfl rfl (q_field_ept G rfl rfl rfl rfl) (QL_cons rfl (QX_q rfl rfl (q_load_ept G rfl rfl rfl rfl rfl) (QL_cons rfl (QX_q rfl rfl (q_move rfl rfl) (QL_cons rfl (QX_q rfl rfl (q_move rfl rfl) (QL_cons rfl (?_)))))))))
                first | refine QX_q rfl rfl (q_index_lst G rfl rfl rfl rfl (by omega) (getN (by omega))) ?_ | refine QX_q rfl rfl (q_index_lst G rfl rfl rfl rfl (by omega) (getNI (by omega) (by omega))) ?_
                refine QL_cons rfl (QX_q rfl rfl (q_field_ept G rfl rfl rfl rfl) (QL_cons rfl (QX_q rfl rfl (q_load_ept G rfl rfl rfl rfl rfl) (QL_cons rfl (QX_q rfl rfl (q_cmp_str rfl rfl rfl rfl) (?_))))))
                refine QL_nil (hK15 _ ?_)
                clear hK15 K15
                refine W_cond rfl (fun h6 => ?_) (fun h6 => ?_)
                · try rw [h6]
                  try simp only [decide_eq_true_eq, decide_eq_false_iff_not, beq_iff_eq, bne_iff_ne, ne_eq, Bool.not_eq_true', Bool.not_eq_false', beq_eq_false_iff_ne, bne_eq_false_iff_eq, Bool.not_eq_true, Bool.not_eq_false, Int.not_lt, Int.not_le, gt_iff_lt, ge_iff_le, Bool.and_eq_true, Bool.and_eq_false_iff, Bool.or_eq_true, Bool.or_eq_false_iff] at h6
                  refine W_seq (fun K16 hK16 => ?_)
                  refine W_region (WL_cons rfl (WX_q rfl rfl (q_assign rfl rfl) (?_)))
                  refine WL_nil (hK16 _ ?_)
                  clear hK16 K16
                  refine W_ret (fin_one rfl (rc_v ?_))
                  all_goals clear hK14 K14 hK6 K6 hK2 K2
                  all_goals (first | (have e : allN xs.length (oneT xs) = false := allN_f (i := i) (by rw [oneT, anyN_t (f := sameN xs i) (i := k) (by simp only [sameN, beq_iff_eq]; assumption) (by omega)]; simp) (by omega); simp [goodT, e]; done) | (have e : allN xs.length (oneT xs) = true := allN_t hinv.2 (by omega); simp [goodT, e]; first | done | omega) | (have e : allN xs.length (oneT xs) = false := allN_f (i := i) (by first | (simp_all [oneT] <;> omega) | (cases hz : oneT xs i <;> simp_all [oneT] <;> omega)) (by omega); simp [goodT, e]; done))
                · try rw [h6]
                  try simp only [decide_eq_true_eq, decide_eq_false_iff_not, beq_iff_eq, bne_iff_ne, ne_eq, Bool.not_eq_true', Bool.not_eq_false', beq_eq_false_iff_ne, bne_eq_false_iff_eq, Bool.not_eq_true, Bool.not_eq_false, Int.not_lt, Int.not_le, gt_iff_lt, ge_iff_le, Bool.and_eq_true, Bool.and_eq_false_iff, Bool.or_eq_true, Bool.or_eq_false_iff] at h6
                  refine W_skip (hK14 _ ?_)
                  clear hK14 K14
                  refine W_region (WL_cons rfl (WX_q rfl rfl (q_move rfl rfl) (WL_cons rfl (?_))))
                  first | refine WX_q rfl rfl (q_arith rfl rfl rfl rfl (by omega) (by omega)) ?_ | refine WX_q rfl rfl (q_wrap rfl rfl rfl rfl) ?_
                  refine WL_cons rfl (WX_q rfl rfl (q_assign rfl rfl) (?_))
                  refine WL_nil ⟨(k + 1), ?_, ?_, ⟨⟨_, rfl, by rfl⟩, rfl, trivial⟩, trivial, rfl, rfl, rfl⟩
                  · exact ⟨by omega, upto_succ hk.2 (by simp only [sameN, beq_eq_false_iff_ne, ne_eq]; assumption)⟩
                  · omega
              · try rw [h5]
                try simp only [decide_eq_true_eq, decide_eq_false_iff_not, beq_iff_eq, bne_iff_ne, ne_eq, Bool.not_eq_true', Bool.not_eq_false', beq_eq_false_iff_ne, bne_eq_false_iff_eq, Bool.not_eq_true, Bool.not_eq_false, Int.not_lt, Int.not_le, gt_iff_lt, ge_iff_le, Bool.and_eq_true, Bool.and_eq_false_iff, Bool.or_eq_true, Bool.or_eq_false_iff] at h5
                refine W_exit (hK6 _ ?_)
                clear hK12 K12 hK6 K6
                refine W_region (WL_cons rfl (WX_q rfl rfl (q_move rfl rfl) (WL_cons rfl (?_))))
                first | refine WX_q rfl rfl (q_arith rfl rfl rfl rfl (by omega) (by omega)) ?_ | refine WX_q rfl rfl (q_wrap rfl rfl rfl rfl) ?_
                refine WL_cons rfl (WX_q rfl rfl (q_assign rfl rfl) (?_))
                refine WL_nil ⟨(i + 1), ?_, ?_, ⟨⟨_, rfl, by rfl⟩, rfl, trivial⟩, trivial, rfl, rfl, rfl⟩
                · refine ⟨by omega, upto_succ hinv.2 ?_⟩; have hany : anyN i (sameN xs i) = false := anyN_f hk.2 (by omega); simp_all [oneT] <;> omega
                · omega
        · try rw [h3]
          try simp only [decide_eq_true_eq, decide_eq_false_iff_not, beq_iff_eq, bne_iff_ne, ne_eq, Bool.not_eq_true', Bool.not_eq_false', beq_eq_false_iff_ne, bne_eq_false_iff_eq, Bool.not_eq_true, Bool.not_eq_false, Int.not_lt, Int.not_le, gt_iff_lt, ge_iff_le, Bool.and_eq_true, Bool.and_eq_false_iff, Bool.or_eq_true, Bool.or_eq_false_iff] at h3
          refine QL_skip rfl rfl rfl rfl rfl rfl (QL_skip rfl rfl rfl rfl rfl rfl (QL_skip rfl rfl rfl rfl rfl rfl (QL_skip rfl rfl rfl rfl rfl rfl (QL_skip rfl rfl rfl rfl rfl rfl (QL_skip rfl rfl rfl rfl rfl rfl (QL_skip rfl rfl rfl rfl rfl rfl (QL_skip rfl rfl rfl rfl rfl rfl (QL_skip rfl rfl rfl rfl rfl rfl (QL_skip rfl rfl rfl rfl rfl rfl (QL_skip rfl rfl rfl rfl rfl rfl (QL_skip rfl rfl rfl rfl rfl rfl (QL_run rfl rfl rfl (QX_q rfl rfl (q_pick_f rfl rfl rfl) (QL_cons rfl (QX_q rfl rfl (q_pick_f rfl rfl rfl) (?_))))))))))))))))
          refine QL_nil (hK8 _ ?_)
          clear hK8 K8
          refine W_false rfl ?_
          refine W_skip (hK7 _ ?_)
          clear hK7 K7
          refine W_seq (fun K17 hK17 => ?_)
          refine W_region (WL_cons rfl (WX_q rfl rfl (q_assign rfl rfl) (?_)))
          refine WL_nil (hK17 _ ?_)
          clear hK17 K17
          refine W_block ?_
          refine W_loopK [0, 3] [] (fun (k : Nat) => [(4, .v (.int .i64 (k : Int)))]) (fun (k : Nat) => []) (fun (k : Nat) => k ≤ i ∧ ∀ j, j < k → sameN xs i j = false) (fun (k : Nat) => i - k) 0 rfl rfl ?_ ?_ ?_ ?_
          · exact ⟨Nat.zero_le _, fun j hj => by omega⟩
          · exact ⟨⟨_, rfl, by (first | rfl | (simp; done) | (simp; omega))⟩, rfl, trivial⟩
          · exact trivial
          · intro k hk
            simp only [List.cons_append, List.nil_append]
            refine W_seq (fun K18 hK18 => ?_)
            refine W_seq (fun K19 hK19 => ?_)
            refine W_region (WL_cons rfl (WX_q rfl rfl (q_move rfl rfl) (WL_cons rfl (WX_q rfl rfl (q_move rfl rfl) (WL_cons rfl (WX_q rfl rfl (q_cmp rfl rfl rfl rfl) (?_)))))))
            refine WL_nil (hK19 _ ?_)
            clear hK19 K19
            refine W_cond rfl (fun h7 => ?_) (fun h7 => ?_)
            · try rw [h7]
              try simp only [decide_eq_true_eq, decide_eq_false_iff_not, beq_iff_eq, bne_iff_ne, ne_eq, Bool.not_eq_true', Bool.not_eq_false', beq_eq_false_iff_ne, bne_eq_false_iff_eq, Bool.not_eq_true, Bool.not_eq_false, Int.not_lt, Int.not_le, gt_iff_lt, ge_iff_le, Bool.and_eq_true, Bool.and_eq_false_iff, Bool.or_eq_true, Bool.or_eq_false_iff] at h7
              refine W_skip (hK18 _ ?_)
              clear hK18 K18
              refine W_seq (fun K20 hK20 => ?_)
              refine W_block ?_
              refine W_seq (fun K21 hK21 => ?_)
              refine W_draws mixed (by kernel_rfl) (QL_cons rfl (QX_q rfl rfl (q_move rfl rfl) (QL_cons rfl (QX_q rfl rfl (q_move rfl rfl) (QL_cons rfl (?_))))))
              first | refine QX_q rfl rfl (q_index_lst G rfl rfl rfl rfl (by omega) (getN (by omega))) ?_ | refine QX_q rfl rfl (q_index_lst G rfl rfl rfl rfl (by omega) (getNI (by omega) (by omega))) ?_
              refine QL_cons rfl (QX_q rfl rfl (q_field_ept G rfl rfl rfl rfl) (QL_cons rfl (QX_q rfl rfl (q_load_ept G rfl rfl rfl rfl rfl) (QL_cons rfl (QX_q rfl rfl (q_move rfl rfl) (QL_cons rfl (QX_q rfl rfl (q_move rfl rfl) (QL_cons rfl (?_)))))))))
              first | refine QX_q rfl rfl (q_index_lst G rfl rfl rfl rfl (by omega) (getN (by omega))) ?_ | refine QX_q rfl rfl (q_index_lst G rfl rfl rfl rfl (by omega) (getNI (by omega) (by omega))) ?_
              refine QL_cons rfl (QX_q rfl rfl (q_field_ept G rfl rfl rfl rfl) (QL_cons rfl (QX_q rfl rfl (q_load_ept G rfl rfl rfl rfl rfl) (QL_cons rfl (QX_q rfl rfl (q_cmp_str rfl rfl rfl rfl) (?_))))))
              refine QL_nil (hK21 _ ?_)
              clear hK21 K21
              refine W_cond rfl (fun h8 => ?_) (fun h8 => ?_)
              · try rw [h8]
                try simp only [decide_eq_true_eq, decide_eq_false_iff_not, beq_iff_eq, bne_iff_ne, ne_eq, Bool.not_eq_true', Bool.not_eq_false', beq_eq_false_iff_ne, bne_eq_false_iff_eq, Bool.not_eq_true, Bool.not_eq_false, Int.not_lt, Int.not_le, gt_iff_lt, ge_iff_le, Bool.and_eq_true, Bool.and_eq_false_iff, Bool.or_eq_true, Bool.or_eq_false_iff] at h8
                refine W_seq (fun K22 hK22 => ?_)
                refine W_region (WL_cons rfl (WX_q rfl rfl (q_assign rfl rfl) (?_)))
                refine WL_nil (hK22 _ ?_)
                clear hK22 K22
                refine W_ret (fin_one rfl (rc_v ?_))
                all_goals clear hK20 K20 hK6 K6 hK2 K2
                all_goals (first | (have e : allN xs.length (oneT xs) = false := allN_f (i := i) (by rw [oneT, anyN_t (f := sameN xs i) (i := k) (by simp only [sameN, beq_iff_eq]; assumption) (by omega)]; simp) (by omega); simp [goodT, e]; done) | (have e : allN xs.length (oneT xs) = true := allN_t hinv.2 (by omega); simp [goodT, e]; first | done | omega) | (have e : allN xs.length (oneT xs) = false := allN_f (i := i) (by first | (simp_all [oneT] <;> omega) | (cases hz : oneT xs i <;> simp_all [oneT] <;> omega)) (by omega); simp [goodT, e]; done))
              · try rw [h8]
                try simp only [decide_eq_true_eq, decide_eq_false_iff_not, beq_iff_eq, bne_iff_ne, ne_eq, Bool.not_eq_true', Bool.not_eq_false', beq_eq_false_iff_ne, bne_eq_false_iff_eq, Bool.not_eq_true, Bool.not_eq_false, Int.not_lt, Int.not_le, gt_iff_lt, ge_iff_le, Bool.and_eq_true, Bool.and_eq_false_iff, Bool.or_eq_true, Bool.or_eq_false_iff] at h8
                refine W_skip (hK20 _ ?_)
                clear hK20 K20
                refine W_region (WL_cons rfl (WX_q rfl rfl (q_move rfl rfl) (WL_cons rfl (?_))))
                first | refine WX_q rfl rfl (q_arith rfl rfl rfl rfl (by omega) (by omega)) ?_ | refine WX_q rfl rfl (q_wrap rfl rfl rfl rfl) ?_
                refine WL_cons rfl (WX_q rfl rfl (q_assign rfl rfl) (?_))
                refine WL_nil ⟨(k + 1), ?_, ?_, ⟨⟨_, rfl, by rfl⟩, rfl, trivial⟩, trivial, rfl, rfl, rfl⟩
                · exact ⟨by omega, upto_succ hk.2 (by simp only [sameN, beq_eq_false_iff_ne, ne_eq]; assumption)⟩
                · omega
            · try rw [h7]
              try simp only [decide_eq_true_eq, decide_eq_false_iff_not, beq_iff_eq, bne_iff_ne, ne_eq, Bool.not_eq_true', Bool.not_eq_false', beq_eq_false_iff_ne, bne_eq_false_iff_eq, Bool.not_eq_true, Bool.not_eq_false, Int.not_lt, Int.not_le, gt_iff_lt, ge_iff_le, Bool.and_eq_true, Bool.and_eq_false_iff, Bool.or_eq_true, Bool.or_eq_false_iff] at h7
              refine W_exit (hK6 _ ?_)
              clear hK18 K18 hK6 K6
              refine W_region (WL_cons rfl (WX_q rfl rfl (q_move rfl rfl) (WL_cons rfl (?_))))
              first | refine WX_q rfl rfl (q_arith rfl rfl rfl rfl (by omega) (by omega)) ?_ | refine WX_q rfl rfl (q_wrap rfl rfl rfl rfl) ?_
              refine WL_cons rfl (WX_q rfl rfl (q_assign rfl rfl) (?_))
              refine WL_nil ⟨(i + 1), ?_, ?_, ⟨⟨_, rfl, by rfl⟩, rfl, trivial⟩, trivial, rfl, rfl, rfl⟩
              · refine ⟨by omega, upto_succ hinv.2 ?_⟩; have hany : anyN i (sameN xs i) = false := anyN_f hk.2 (by omega); simp_all [oneT] <;> omega
              · omega
    · try rw [h1]
      try simp only [decide_eq_true_eq, decide_eq_false_iff_not, beq_iff_eq, bne_iff_ne, ne_eq, Bool.not_eq_true', Bool.not_eq_false', beq_eq_false_iff_ne, bne_eq_false_iff_eq, Bool.not_eq_true, Bool.not_eq_false, Int.not_lt, Int.not_le, gt_iff_lt, ge_iff_le, Bool.and_eq_true, Bool.and_eq_false_iff, Bool.or_eq_true, Bool.or_eq_false_iff] at h1
      refine W_exit (hK2 _ ?_)
      clear hK4 K4 hK2 K2
      refine W_seq (fun K23 hK23 => ?_)
      refine W_region (WL_cons rfl (WX_q rfl rfl (q_move rfl rfl) (WL_cons rfl (?_))))
      refine WX_q rfl rfl (q_call rfl (ArgsOK.of rfl) (c_spec_l24Sum xs hn (by have e : i = xs.length := (by omega); subst e; exact oneT_ok hinv.2)) rfl) ?_
      refine WL_cons rfl (WX_q rfl rfl (q_cmp rfl rfl rfl rfl) (WL_cons rfl (WX_q rfl rfl (q_assign rfl rfl) (?_))))
      refine WL_nil (hK23 _ ?_)
      clear hK23 K23
      refine W_ret (fin_one rfl (rc_v ?_))
      all_goals (first | (have e : allN xs.length (oneT xs) = false := allN_f (i := i) (by rw [oneT, anyN_t (f := sameN xs i) (i := k) (by simp only [sameN, beq_iff_eq]; assumption) (by omega)]; simp) (by omega); simp [goodT, e]; done) | (have e : allN xs.length (oneT xs) = true := allN_t hinv.2 (by omega); simp [goodT, e]; first | done | omega) | (have e : allN xs.length (oneT xs) = false := allN_f (i := i) (by first | (simp_all [oneT] <;> omega) | (cases hz : oneT xs i <;> simp_all [oneT] <;> omega)) (by omega); simp [goodT, e]; done))

theorem c_spec_AreSettings (xs : List Setting) (hn : xs.length ≤ 1048576) (hz : ∀ i, i < xs.length → (xs.getD i default).n.size ≤ 9223372036854775807) : Ctr Try.prog 9 [.lst 6 (xs.map encTc)] (.one (.v (.bool (goodT xs)))) := by
  refine Ctr.of (n := 5) G Try.func9 rfl (by kernel_rfl) rfl rfl rfl (fun w0 => ?_)
  refine W_seq (fun K1 hK1 => ?_)
  refine W_region (WL_cons rfl (WX_q rfl rfl (q_assign rfl rfl) (?_)))
  refine WL_nil (hK1 _ ?_)
  clear hK1 K1
  refine W_seq (fun K2 hK2 => ?_)
  refine W_region (WL_cons rfl (WX_q rfl rfl (q_move rfl rfl) (WL_cons rfl (?_))))
  refine WX_q rfl rfl (q_call rfl (ArgsOK.of rfl) (c_spec_l24Good _ (by omega) (by assumption)) rfl) ?_
  refine WL_cons rfl (WX_q rfl rfl (q_assign rfl rfl) (?_))
  refine WL_nil (hK2 _ ?_)
  clear hK2 K2
  refine W_ret (fin_one rfl (rc_v ?_))
  all_goals ((first | rfl | (simp_all; done) | (simp_all; omega)))

theorem c_impl_AreSettings (xs : List Setting) (hn : xs.length ≤ 1048576) (hz : ∀ i, i < xs.length → (xs.getD i default).n.size ≤ 9223372036854775807) : Ctr Try.prog 11 [.lst 6 (xs.map encTc)] (.one (.v (.bool (goodT xs)))) := by
  refine Ctr.of (n := 41) G Try.func11 rfl (by kernel_rfl) rfl rfl rfl (fun w0 => ?_)
  refine W_seq (fun K1 hK1 => ?_)
  refine W_region (WL_cons rfl (WX_q rfl rfl (q_assign rfl rfl) (?_)))
  refine WL_nil (hK1 _ ?_)
  clear hK1 K1
  refine W_seq (fun K2 hK2 => ?_)
  refine W_seq (fun K3 hK3 => ?_)
  refine W_region (WL_cons rfl (WX_q rfl rfl (q_move rfl rfl) (WL_cons rfl (?_))))
  first | refine WX_q rfl rfl (q_len' G rfl rfl rfl rfl (List.length_map _)) ?_ | refine WX_q rfl rfl (q_len G rfl rfl rfl rfl) ?_
  refine WL_cons rfl (WX_q rfl rfl (q_move rfl rfl) (?_))
  refine WL_nil (hK3 _ ?_)
  clear hK3 K3
  refine W_block ?_
  refine W_loopK [0, 5, 6] [] (fun (i : Nat) => [(7, .v (.int .i64 (i : Int)))]) (fun (i : Nat) => []) (fun (i : Nat) => i ≤ xs.length ∧ ∀ j, j < i → oneT xs j = true) (fun (i : Nat) => xs.length - i) 0 rfl rfl ?_ ?_ ?_ ?_
  · exact ⟨Nat.zero_le _, fun j hj => by omega⟩
  · exact ⟨⟨_, rfl, by (first | rfl | (simp; done) | (simp; omega))⟩, rfl, trivial⟩
  · exact trivial
  · intro i hinv
    have ht : ((i : Int) - 1).toNat = i - 1 := by omega
    simp only [List.cons_append, List.nil_append]
    refine W_seq (fun K4 hK4 => ?_)
    refine W_region (WL_cons rfl (WX_q rfl rfl (q_cmp rfl rfl rfl rfl) (?_)))
    refine WL_nil (hK4 _ ?_)
    clear hK4 K4
    refine W_seq (fun K5 hK5 => ?_)
    refine W_cond rfl (fun h1 => ?_) (fun h1 => ?_)
    · try rw [h1]
      try simp only [decide_eq_true_eq, decide_eq_false_iff_not, beq_iff_eq, bne_iff_ne, ne_eq, Bool.not_eq_true', Bool.not_eq_false', beq_eq_false_iff_ne, bne_eq_false_iff_eq, Bool.not_eq_true, Bool.not_eq_false, Int.not_lt, Int.not_le, gt_iff_lt, ge_iff_le, Bool.and_eq_true, Bool.and_eq_false_iff, Bool.or_eq_true, Bool.or_eq_false_iff] at h1
      refine W_skip (hK5 _ ?_)
      clear hK5 K5
      refine W_seq (fun K6 hK6 => ?_)
      refine W_block ?_
      refine W_seq (fun K7 hK7 => ?_)
      refine W_region (WL_cons rfl (WX_q rfl rfl (q_move rfl rfl) (WL_cons rfl (?_))))
      first | refine WX_q rfl rfl (q_index_lst G rfl rfl rfl rfl (by omega) (getN (by omega))) ?_ | refine WX_q rfl rfl (q_index_lst G rfl rfl rfl rfl (by omega) (getNI (by omega) (by omega))) ?_
      refine WL_cons rfl (WX_q rfl rfl (q_load_ept_struct G rfl rfl rfl rfl) (WL_cons rfl (WX_alloc_s G 1 rfl rfl rfl rfl rfl (WL_cons rfl (WX_q rfl rfl (q_assign rfl rfl) (WL_cons rfl (WX_store G rfl rfl rfl rfl rfl rfl rfl rfl rfl rfl rfl (?_))))))))
      refine WL_nil (hK7 _ ?_)
      clear hK7 K7
      refine W_seq (fun K8 hK8 => ?_)
      refine W_draws mixed (by kernel_rfl) (QL_cons rfl (QX_q rfl rfl (q_load_box_struct G rfl rfl rfl rfl rfl rfl) (QL_cons rfl (?_))))
      refine QX_q rfl rfl (q_call rfl (ArgsOK.of rfl) (c_impl_IsSetting _ (hz i (by omega))) rfl) ?_
      refine QL_cons rfl (QX_q rfl rfl (q_not rfl rfl) (QL_cons rfl (QX_q rfl rfl (q_move rfl rfl) (QL_part rfl rfl rfl (fun h2 => ?_) (fun h2 => ?_)))))
      · try rw [h2]
        try simp only [decide_eq_true_eq, decide_eq_false_iff_not, beq_iff_eq, bne_iff_ne, ne_eq, Bool.not_eq_true', Bool.not_eq_false', beq_eq_false_iff_ne, bne_eq_false_iff_eq, Bool.not_eq_true, Bool.not_eq_false, Int.not_lt, Int.not_le, gt_iff_lt, ge_iff_le, Bool.and_eq_true, Bool.and_eq_false_iff, Bool.or_eq_true, Bool.or_eq_false_iff] at h2
        refine QL_skip rfl rfl rfl rfl rfl rfl (QL_skip rfl rfl rfl rfl rfl rfl (QL_skip rfl rfl rfl rfl rfl rfl (QL_skip_u rfl rfl rfl rfl rfl (QL_skip_u rfl rfl rfl rfl rfl (QL_skip_u rfl rfl rfl rfl rfl (QL_skip_u rfl rfl rfl rfl rfl (QL_skip_u rfl rfl rfl rfl rfl (QL_skip_u rfl rfl rfl rfl rfl (QL_skip_u rfl rfl rfl rfl rfl (QL_skip_u rfl rfl rfl rfl rfl (QL_skip_u rfl rfl rfl rfl rfl (QL_skip rfl rfl rfl rfl rfl rfl (QL_cons rfl (QX_q rfl rfl (q_pick_t rfl rfl rfl) (QL_cons rfl (QX_q rfl rfl (q_move rfl rfl) (QL_skip rfl rfl rfl rfl rfl rfl (QL_skip rfl rfl rfl rfl rfl rfl (QL_skip rfl rfl rfl rfl rfl rfl (QL_skip rfl rfl rfl rfl rfl rfl (QL_skip rfl rfl rfl rfl rfl rfl (QL_cons rfl (QX_q rfl rfl (q_pick_t rfl rfl rfl) (?_))))))))))))))))))))))))
        refine QL_nil (hK8 _ ?_)
        clear hK8 K8
        refine W_true rfl ?_
        refine W_seq (fun K9 hK9 => ?_)
        refine W_region (WL_cons rfl (WX_q rfl rfl (q_assign rfl rfl) (?_)))
        refine WL_nil (hK9 _ ?_)
        clear hK9 K9
        refine W_ret (fin_one rfl (rc_v ?_))
        all_goals clear hK6 K6 hK2 K2
        all_goals (first | (have e : allN xs.length (oneT xs) = true := allN_t hinv.2 (by omega); simp [goodT, e]; first | done | omega) | (have e : allN xs.length (oneT xs) = false := allN_f (i := i) (by first | (simp_all [oneT] <;> omega) | (cases hz : oneT xs i <;> simp_all [oneT] <;> omega)) (by omega); simp [goodT, e]; done))
      · try rw [h2]
        try simp only [decide_eq_true_eq, decide_eq_false_iff_not, beq_iff_eq, bne_iff_ne, ne_eq, Bool.not_eq_true', Bool.not_eq_false', beq_eq_false_iff_ne, bne_eq_false_iff_eq, Bool.not_eq_true, Bool.not_eq_false, Int.not_lt, Int.not_le, gt_iff_lt, ge_iff_le, Bool.and_eq_true, Bool.and_eq_false_iff, Bool.or_eq_true, Bool.or_eq_false_iff] at h2
        refine QL_run rfl rfl rfl (QX_q rfl rfl (q_move rfl rfl) (QL_run rfl rfl rfl (QX_q rfl rfl (q_cmp rfl rfl rfl rfl) (QL_run rfl rfl rfl (QX_q rfl rfl (q_move rfl rfl) (QL_part rfl rfl rfl (fun h3 => ?_) (fun h3 => ?_)))))))
        · try rw [h3]
          try simp only [decide_eq_true_eq, decide_eq_false_iff_not, beq_iff_eq, bne_iff_ne, ne_eq, Bool.not_eq_true', Bool.not_eq_false', beq_eq_false_iff_ne, bne_eq_false_iff_eq, Bool.not_eq_true, Bool.not_eq_false, Int.not_lt, Int.not_le, gt_iff_lt, ge_iff_le, Bool.and_eq_true, Bool.and_eq_false_iff, Bool.or_eq_true, Bool.or_eq_false_iff] at h3
          refine QL_run rfl rfl rfl (QX_q rfl rfl (q_move rfl rfl) (QL_run rfl rfl rfl (QX_q rfl rfl (q_move rfl rfl) (QL_run rfl rfl rfl (?_)))))
          first | refine QX_q rfl rfl (q_arith rfl rfl rfl rfl (by omega) (by omega)) ?_ | refine QX_q rfl rfl (q_wrap rfl rfl rfl rfl) ?_
          refine QL_run rfl rfl rfl (?_)
          first | refine QX_q rfl rfl (q_index_lst G rfl rfl rfl rfl (by omega) (getN (by omega))) ?_ | refine QX_q rfl rfl (q_index_lst G rfl rfl rfl rfl (by omega) (getNI (by omega) (by omega))) ?_
          refine QL_run rfl rfl rfl (QX_q rfl rfl (q_field_ept G rfl rfl rfl rfl) (QL_run rfl rfl rfl (QX_q rfl rfl (q_load_ept G rfl rfl rfl rfl rfl) (QL_run rfl rfl rfl (QX_q rfl rfl (q_field_ptr G rfl rfl rfl rfl) (QL_run rfl rfl rfl (QX_q rfl rfl (q_load_box G rfl rfl rfl rfl rfl rfl rfl) (QL_run rfl rfl rfl (QX_q rfl rfl (q_cmp rfl rfl rfl rfl) (QL_run rfl rfl rfl (QX_q rfl rfl (q_pick_t rfl rfl rfl) (QL_cons rfl (QX_q rfl rfl (q_pick_f rfl rfl rfl) (QL_cons rfl (QX_q rfl rfl (q_move rfl rfl) (QL_part rfl rfl rfl (fun h4 => ?_) (fun h4 => ?_)))))))))))))))))
          · try rw [h4]
            try simp only [decide_eq_true_eq, decide_eq_false_iff_not, beq_iff_eq, bne_iff_ne, ne_eq, Bool.not_eq_true', Bool.not_eq_false', beq_eq_false_iff_ne, bne_eq_false_iff_eq, Bool.not_eq_true, Bool.not_eq_false, Int.not_lt, Int.not_le, gt_iff_lt, ge_iff_le, Bool.and_eq_true, Bool.and_eq_false_iff, Bool.or_eq_true, Bool.or_eq_false_iff] at h4
            refine QL_skip rfl rfl rfl rfl rfl rfl (QL_skip rfl rfl rfl rfl rfl rfl (QL_skip rfl rfl rfl rfl rfl rfl (QL_skip rfl rfl rfl rfl rfl rfl (QL_skip rfl rfl rfl rfl rfl rfl (QL_cons rfl (QX_q rfl rfl (q_pick_t rfl rfl rfl) (?_)))))))
            refine QL_nil (hK8 _ ?_)
            clear hK8 K8
            refine W_true rfl ?_
            refine W_seq (fun K10 hK10 => ?_)
            refine W_region (WL_cons rfl (WX_q rfl rfl (q_assign rfl rfl) (?_)))
            refine WL_nil (hK10 _ ?_)
            clear hK10 K10
            refine W_ret (fin_one rfl (rc_v ?_))
            all_goals clear hK6 K6 hK2 K2
            all_goals (first | (have e : allN xs.length (oneT xs) = true := allN_t hinv.2 (by omega); simp [goodT, e]; first | done | omega) | (have e : allN xs.length (oneT xs) = false := allN_f (i := i) (by first | (simp_all [oneT] <;> omega) | (cases hz : oneT xs i <;> simp_all [oneT] <;> omega)) (by omega); simp [goodT, e]; done))
          · try rw [h4]
            try simp only [decide_eq_true_eq, decide_eq_false_iff_not, beq_iff_eq, bne_iff_ne, ne_eq, Bool.not_eq_true', Bool.not_eq_false', beq_eq_false_iff_ne, bne_eq_false_iff_eq, Bool.not_eq_true, Bool.not_eq_false, Int.not_lt, Int.not_le, gt_iff_lt, ge_iff_le, Bool.and_eq_true, Bool.and_eq_false_iff, Bool.or_eq_true, Bool.or_eq_false_iff] at h4
            refine QL_run rfl rfl rfl (QX_q rfl rfl (q_move rfl rfl) (QL_run rfl rfl rfl (QX_q rfl rfl (q_move rfl rfl) (QL_run rfl rfl rfl (?_)))))
            first | refine QX_q rfl rfl (q_cut_lst G rfl rfl rfl rfl rfl (by omega) (by omega) (by omega)) ?_ | refine QX_q rfl rfl (q_cut_lst G rfl rfl rfl rfl rfl (by omega) (by first | (simp; done) | (simp; omega)) (by first | (simp; done) | (simp; omega))) ?_
            refine QL_run rfl rfl rfl (QX_q rfl rfl (q_func rfl rfl) (QL_run rfl rfl rfl (?_)))
            refine QX_q rfl rfl (q_call rfl (ArgsOK.of (congrArg some (congrArg (fun z => [AV.lst 6 z, AV.fnc 31 [.ept (encTc (xs.getD i default))]]) (cut_take (xs := xs) (i := i))))) (Ctr.bool (c_slices_ContainsFunc_impl_Setting_impl_Setting (xs.take i) 31 (encTc (xs.getD i default)) (fun x => x.n.toList == (xs.getD i default).n.toList) (by simp; omega) (fun k hk => c_impl_AreSettings_1 _ _)) (take_any (by omega))) rfl) ?_
            refine QL_cons rfl (QX_q rfl rfl (q_pick_f rfl rfl rfl) (?_))
            refine QL_nil (hK8 _ ?_)
            clear hK8 K8
            refine W_cond rfl (fun h5 => ?_) (fun h5 => ?_)
            · try rw [h5]
              try simp only [decide_eq_true_eq, decide_eq_false_iff_not, beq_iff_eq, bne_iff_ne, ne_eq, Bool.not_eq_true', Bool.not_eq_false', beq_eq_false_iff_ne, bne_eq_false_iff_eq, Bool.not_eq_true, Bool.not_eq_false, Int.not_lt, Int.not_le, gt_iff_lt, ge_iff_le, Bool.and_eq_true, Bool.and_eq_false_iff, Bool.or_eq_true, Bool.or_eq_false_iff] at h5
              refine W_seq (fun K11 hK11 => ?_)
              refine W_region (WL_cons rfl (WX_q rfl rfl (q_assign rfl rfl) (?_)))
              refine WL_nil (hK11 _ ?_)
              clear hK11 K11
              refine W_ret (fin_one rfl (rc_v ?_))
              all_goals clear hK6 K6 hK2 K2
              all_goals (first | (have e : allN xs.length (oneT xs) = true := allN_t hinv.2 (by omega); simp [goodT, e]; first | done | omega) | (have e : allN xs.length (oneT xs) = false := allN_f (i := i) (by first | (simp_all [oneT] <;> omega) | (cases hz : oneT xs i <;> simp_all [oneT] <;> omega)) (by omega); simp [goodT, e]; done))
            · try rw [h5]
              try simp only [decide_eq_true_eq, decide_eq_false_iff_not, beq_iff_eq, bne_iff_ne, ne_eq, Bool.not_eq_true', Bool.not_eq_false', beq_eq_false_iff_ne, bne_eq_false_iff_eq, Bool.not_eq_true, Bool.not_eq_false, Int.not_lt, Int.not_le, gt_iff_lt, ge_iff_le, Bool.and_eq_true, Bool.and_eq_false_iff, Bool.or_eq_true, Bool.or_eq_false_iff] at h5
              refine W_skip (hK6 _ ?_)
              clear hK6 K6
              refine W_region (WL_cons rfl (?_))
              first | refine WX_q rfl rfl (q_arith rfl rfl rfl rfl (by omega) (by omega)) ?_ | refine WX_q rfl rfl (q_wrap rfl rfl rfl rfl) ?_
              refine WL_cons rfl (WX_q rfl rfl (q_move rfl rfl) (?_))
              refine WL_nil ⟨(i + 1), ?_, ?_, ⟨⟨_, rfl, by rfl⟩, rfl, trivial⟩, trivial, rfl, rfl, rfl⟩
              · refine ⟨by omega, upto_succ hinv.2 ?_⟩; simp_all [oneT] <;> omega
              · omega
        · try rw [h3]
          try simp only [decide_eq_true_eq, decide_eq_false_iff_not, beq_iff_eq, bne_iff_ne, ne_eq, Bool.not_eq_true', Bool.not_eq_false', beq_eq_false_iff_ne, bne_eq_false_iff_eq, Bool.not_eq_true, Bool.not_eq_false, Int.not_lt, Int.not_le, gt_iff_lt, ge_iff_le, Bool.and_eq_true, Bool.and_eq_false_iff, Bool.or_eq_true, Bool.or_eq_false_iff] at h3
          refine QL_skip rfl rfl rfl rfl rfl rfl (QL_skip rfl rfl rfl rfl rfl rfl (QL_skip rfl rfl rfl rfl rfl rfl (QL_skip rfl rfl rfl rfl rfl rfl (QL_skip rfl rfl rfl rfl rfl rfl (QL_skip rfl rfl rfl rfl rfl rfl (QL_skip rfl rfl rfl rfl rfl rfl (QL_skip rfl rfl rfl rfl rfl rfl (QL_skip rfl rfl rfl rfl rfl rfl (QL_run rfl rfl rfl (QX_q rfl rfl (q_pick_f rfl rfl rfl) (QL_cons rfl (QX_q rfl rfl (q_pick_f rfl rfl rfl) (QL_cons rfl (QX_q rfl rfl (q_move rfl rfl) (QL_run rfl rfl rfl (QX_q rfl rfl (q_move rfl rfl) (QL_run rfl rfl rfl (QX_q rfl rfl (q_move rfl rfl) (QL_run rfl rfl rfl (?_))))))))))))))))))))
          first | refine QX_q rfl rfl (q_cut_lst G rfl rfl rfl rfl rfl (by omega) (by omega) (by omega)) ?_ | refine QX_q rfl rfl (q_cut_lst G rfl rfl rfl rfl rfl (by omega) (by first | (simp; done) | (simp; omega)) (by first | (simp; done) | (simp; omega))) ?_
          refine QL_run rfl rfl rfl (QX_q rfl rfl (q_func rfl rfl) (QL_run rfl rfl rfl (?_)))
          refine QX_q rfl rfl (q_call rfl (ArgsOK.of (congrArg some (congrArg (fun z => [AV.lst 6 z, AV.fnc 31 [.ept (encTc (xs.getD i default))]]) (cut_take (xs := xs) (i := i))))) (Ctr.bool (c_slices_ContainsFunc_impl_Setting_impl_Setting (xs.take i) 31 (encTc (xs.getD i default)) (fun x => x.n.toList == (xs.getD i default).n.toList) (by simp; omega) (fun k hk => c_impl_AreSettings_1 _ _)) (take_any (by omega))) rfl) ?_
          refine QL_cons rfl (QX_q rfl rfl (q_pick_f rfl rfl rfl) (?_))
          refine QL_nil (hK8 _ ?_)
          clear hK8 K8
          refine W_cond rfl (fun h6 => ?_) (fun h6 => ?_)
          · try rw [h6]
            try simp only [decide_eq_true_eq, decide_eq_false_iff_not, beq_iff_eq, bne_iff_ne, ne_eq, Bool.not_eq_true', Bool.not_eq_false', beq_eq_false_iff_ne, bne_eq_false_iff_eq, Bool.not_eq_true, Bool.not_eq_false, Int.not_lt, Int.not_le, gt_iff_lt, ge_iff_le, Bool.and_eq_true, Bool.and_eq_false_iff, Bool.or_eq_true, Bool.or_eq_false_iff] at h6
            refine W_seq (fun K12 hK12 => ?_)
            refine W_region (WL_cons rfl (WX_q rfl rfl (q_assign rfl rfl) (?_)))
            refine WL_nil (hK12 _ ?_)
            clear hK12 K12
            refine W_ret (fin_one rfl (rc_v ?_))
            all_goals clear hK6 K6 hK2 K2
            all_goals (first | (have e : allN xs.length (oneT xs) = true := allN_t hinv.2 (by omega); simp [goodT, e]; first | done | omega) | (have e : allN xs.length (oneT xs) = false := allN_f (i := i) (by first | (simp_all [oneT] <;> omega) | (cases hz : oneT xs i <;> simp_all [oneT] <;> omega)) (by omega); simp [goodT, e]; done))
          · try rw [h6]
            try simp only [decide_eq_true_eq, decide_eq_false_iff_not, beq_iff_eq, bne_iff_ne, ne_eq, Bool.not_eq_true', Bool.not_eq_false', beq_eq_false_iff_ne, bne_eq_false_iff_eq, Bool.not_eq_true, Bool.not_eq_false, Int.not_lt, Int.not_le, gt_iff_lt, ge_iff_le, Bool.and_eq_true, Bool.and_eq_false_iff, Bool.or_eq_true, Bool.or_eq_false_iff] at h6
            refine W_skip (hK6 _ ?_)
            clear hK6 K6
            refine W_region (WL_cons rfl (?_))
            first | refine WX_q rfl rfl (q_arith rfl rfl rfl rfl (by omega) (by omega)) ?_ | refine WX_q rfl rfl (q_wrap rfl rfl rfl rfl) ?_
            refine WL_cons rfl (WX_q rfl rfl (q_move rfl rfl) (?_))
            refine WL_nil ⟨(i + 1), ?_, ?_, ⟨⟨_, rfl, by rfl⟩, rfl, trivial⟩, trivial, rfl, rfl, rfl⟩
            · refine ⟨by omega, upto_succ hinv.2 ?_⟩; simp_all [oneT] <;> omega
            · omega
    · try rw [h1]
      try simp only [decide_eq_true_eq, decide_eq_false_iff_not, beq_iff_eq, bne_iff_ne, ne_eq, Bool.not_eq_true', Bool.not_eq_false', beq_eq_false_iff_ne, bne_eq_false_iff_eq, Bool.not_eq_true, Bool.not_eq_false, Int.not_lt, Int.not_le, gt_iff_lt, ge_iff_le, Bool.and_eq_true, Bool.and_eq_false_iff, Bool.or_eq_true, Bool.or_eq_false_iff] at h1
      refine W_exit (hK2 _ ?_)
      clear hK5 K5 hK2 K2
      refine W_seq (fun K13 hK13 => ?_)
      refine W_region (WL_cons rfl (WX_q rfl rfl (q_move rfl rfl) (WL_cons rfl (?_))))
      refine WX_q rfl rfl (q_call rfl (ArgsOK.of rfl) (c_impl_allFrames xs hn (by have e : i = xs.length := (by omega); subst e; exact oneT_ok hinv.2)) rfl) ?_
      refine WL_cons rfl (WX_q rfl rfl (q_cmp rfl rfl rfl rfl) (WL_cons rfl (WX_q rfl rfl (q_assign rfl rfl) (?_))))
      refine WL_nil (hK13 _ ?_)
      clear hK13 K13
      refine W_ret (fin_one rfl (rc_v ?_))
      all_goals (first | (have e : allN xs.length (oneT xs) = true := allN_t hinv.2 (by omega); simp [goodT, e]; first | done | omega) | (have e : allN xs.length (oneT xs) = false := allN_f (i := i) (by first | (simp_all [oneT] <;> omega) | (cases hz : oneT xs i <;> simp_all [oneT] <;> omega)) (by omega); simp [goodT, e]; done))

theorem c_spec_FreeFrames (xs : List Setting) (hn : xs.length ≤ 1048576) (hz : ∀ i, i < xs.length → (xs.getD i default).n.size ≤ 9223372036854775807) : Ctr Try.prog 13 [.lst 6 (xs.map encTc)] (.many [.v (.int .i64 (if goodT xs then 16 - sumF xs xs.length else 0)), .v (.bool (goodT xs))]) := by
  refine Ctr.of (n := 10) G Try.func13 rfl (by kernel_rfl) rfl rfl rfl (fun w0 => ?_)
  refine W_seq (fun K1 hK1 => ?_)
  refine W_region (WL_cons rfl (WX_q rfl rfl (q_assign rfl rfl) (WL_cons rfl (WX_q rfl rfl (q_assign rfl rfl) (?_)))))
  refine WL_nil (hK1 _ ?_)
  clear hK1 K1
  refine W_seq (fun K2 hK2 => ?_)
  refine W_seq (fun K3 hK3 => ?_)
  refine W_region (WL_cons rfl (WX_q rfl rfl (q_move rfl rfl) (WL_cons rfl (?_))))
  refine WX_q rfl rfl (q_call rfl (ArgsOK.of rfl) (c_spec_l24Good _ (by omega) (by assumption)) rfl) ?_
  refine WL_cons rfl (WX_q rfl rfl (q_not rfl rfl) (?_))
  refine WL_nil (hK3 _ ?_)
  clear hK3 K3
  refine W_cond rfl (fun h1 => ?_) (fun h1 => ?_)
  · try rw [h1]
    try simp only [decide_eq_true_eq, decide_eq_false_iff_not, beq_iff_eq, bne_iff_ne, ne_eq, Bool.not_eq_true', Bool.not_eq_false', beq_eq_false_iff_ne, bne_eq_false_iff_eq, Bool.not_eq_true, Bool.not_eq_false, Int.not_lt, Int.not_le, gt_iff_lt, ge_iff_le, Bool.and_eq_true, Bool.and_eq_false_iff, Bool.or_eq_true, Bool.or_eq_false_iff] at h1
    refine W_seq (fun K4 hK4 => ?_)
    refine W_region (WL_cons rfl (WX_q rfl rfl (q_assign rfl rfl) (WL_cons rfl (WX_q rfl rfl (q_assign rfl rfl) (?_)))))
    refine WL_nil (hK4 _ ?_)
    clear hK4 K4
    refine W_ret (fin_many rfl rfl rfl rfl (rcs_cons (rc_v ?_) (rcs_cons (rc_v ?_) rcs_nil)))
    all_goals clear hK2 K2
    all_goals (first | rfl | (simp_all; done))
  · try rw [h1]
    try simp only [decide_eq_true_eq, decide_eq_false_iff_not, beq_iff_eq, bne_iff_ne, ne_eq, Bool.not_eq_true', Bool.not_eq_false', beq_eq_false_iff_ne, bne_eq_false_iff_eq, Bool.not_eq_true, Bool.not_eq_false, Int.not_lt, Int.not_le, gt_iff_lt, ge_iff_le, Bool.and_eq_true, Bool.and_eq_false_iff, Bool.or_eq_true, Bool.or_eq_false_iff] at h1
    have hg := goodT_ok h1
    have hsb := sumF_le hg.1 xs.length (Nat.le_refl _)
    refine W_skip (hK2 _ ?_)
    clear hK2 K2
    refine W_seq (fun K5 hK5 => ?_)
    refine W_region (WL_cons rfl (WX_q rfl rfl (q_move rfl rfl) (WL_cons rfl (?_))))
    refine WX_q rfl rfl (q_call rfl (ArgsOK.of rfl) (c_spec_l24Sum xs hn hg.1) rfl) ?_
    refine WL_cons rfl (?_)
    first | refine WX_q rfl rfl (q_arith rfl rfl rfl rfl (by omega) (by omega)) ?_ | refine WX_q rfl rfl (q_wrap rfl rfl rfl rfl) ?_
    refine WL_cons rfl (WX_q rfl rfl (q_assign rfl rfl) (WL_cons rfl (WX_q rfl rfl (q_assign rfl rfl) (?_))))
    refine WL_nil (hK5 _ ?_)
    clear hK5 K5
    refine W_ret (fin_many rfl rfl rfl rfl (rcs_cons (rc_v ?_) (rcs_cons (rc_v ?_) rcs_nil)))
    all_goals (first | rfl | (simp_all; done))

theorem c_impl_FreeFrames (xs : List Setting) (hn : xs.length ≤ 1048576) (hz : ∀ i, i < xs.length → (xs.getD i default).n.size ≤ 9223372036854775807) : Ctr Try.prog 14 [.lst 6 (xs.map encTc)] (.many [.v (.int .i64 (if goodT xs then 16 - sumF xs xs.length else 0)), .v (.bool (goodT xs))]) := by
  refine Ctr.of (n := 10) G Try.func14 rfl (by kernel_rfl) rfl rfl rfl (fun w0 => ?_)
  refine W_seq (fun K1 hK1 => ?_)
  refine W_region (WL_cons rfl (WX_q rfl rfl (q_assign rfl rfl) (WL_cons rfl (WX_q rfl rfl (q_assign rfl rfl) (?_)))))
  refine WL_nil (hK1 _ ?_)
  clear hK1 K1
  refine W_seq (fun K2 hK2 => ?_)
  refine W_seq (fun K3 hK3 => ?_)
  refine W_region (WL_cons rfl (WX_q rfl rfl (q_move rfl rfl) (WL_cons rfl (?_))))
  refine WX_q rfl rfl (q_call rfl (ArgsOK.of rfl) (c_impl_AreSettings _ (by omega) (by assumption)) rfl) ?_
  refine WL_cons rfl (WX_q rfl rfl (q_not rfl rfl) (?_))
  refine WL_nil (hK3 _ ?_)
  clear hK3 K3
  refine W_cond rfl (fun h1 => ?_) (fun h1 => ?_)
  · try rw [h1]
    try simp only [decide_eq_true_eq, decide_eq_false_iff_not, beq_iff_eq, bne_iff_ne, ne_eq, Bool.not_eq_true', Bool.not_eq_false', beq_eq_false_iff_ne, bne_eq_false_iff_eq, Bool.not_eq_true, Bool.not_eq_false, Int.not_lt, Int.not_le, gt_iff_lt, ge_iff_le, Bool.and_eq_true, Bool.and_eq_false_iff, Bool.or_eq_true, Bool.or_eq_false_iff] at h1
    refine W_seq (fun K4 hK4 => ?_)
    refine W_region (WL_cons rfl (WX_q rfl rfl (q_assign rfl rfl) (WL_cons rfl (WX_q rfl rfl (q_assign rfl rfl) (?_)))))
    refine WL_nil (hK4 _ ?_)
    clear hK4 K4
    refine W_ret (fin_many rfl rfl rfl rfl (rcs_cons (rc_v ?_) (rcs_cons (rc_v ?_) rcs_nil)))
    all_goals clear hK2 K2
    all_goals (first | rfl | (simp_all; done))
  · try rw [h1]
    try simp only [decide_eq_true_eq, decide_eq_false_iff_not, beq_iff_eq, bne_iff_ne, ne_eq, Bool.not_eq_true', Bool.not_eq_false', beq_eq_false_iff_ne, bne_eq_false_iff_eq, Bool.not_eq_true, Bool.not_eq_false, Int.not_lt, Int.not_le, gt_iff_lt, ge_iff_le, Bool.and_eq_true, Bool.and_eq_false_iff, Bool.or_eq_true, Bool.or_eq_false_iff] at h1
    have hg := goodT_ok h1
    have hsb := sumF_le hg.1 xs.length (Nat.le_refl _)
    refine W_skip (hK2 _ ?_)
    clear hK2 K2
    refine W_seq (fun K5 hK5 => ?_)
    refine W_region (WL_cons rfl (WX_q rfl rfl (q_move rfl rfl) (WL_cons rfl (?_))))
    refine WX_q rfl rfl (q_call rfl (ArgsOK.of rfl) (c_impl_allFrames xs hn hg.1) rfl) ?_
    refine WL_cons rfl (?_)
    first | refine WX_q rfl rfl (q_arith rfl rfl rfl rfl (by omega) (by omega)) ?_ | refine WX_q rfl rfl (q_wrap rfl rfl rfl rfl) ?_
    refine WL_cons rfl (WX_q rfl rfl (q_assign rfl rfl) (WL_cons rfl (WX_q rfl rfl (q_assign rfl rfl) (?_))))
    refine WL_nil (hK5 _ ?_)
    clear hK5 K5
    refine W_ret (fin_many rfl rfl rfl rfl (rcs_cons (rc_v ?_) (rcs_cons (rc_v ?_) rcs_nil)))
    all_goals (first | rfl | (simp_all; done))

theorem c_laws_FnExactAreSettings (xs : List Setting) (h0 : xs.length ≤ 9223372036854775807) (hz : ∀ i, i < xs.length → (xs.getD i default).n.size ≤ 9223372036854775807) : Ctr Try.prog 3 [.lst 6 (xs.map encTc)] (.one (.v (.bool true))) := by
  refine Ctr.of (n := 27) G Try.func3 rfl (by kernel_rfl) rfl rfl rfl (fun w0 => ?_)
  refine W_seq (fun K1 hK1 => ?_)
  refine W_region (WL_cons rfl (WX_q rfl rfl (q_assign rfl rfl) (?_)))
  refine WL_nil (hK1 _ ?_)
  clear hK1 K1
  refine W_seq (fun K2 hK2 => ?_)
  refine W_region (WL_cons rfl (WX_q rfl rfl (q_assign rfl rfl) (?_)))
  refine WL_nil (hK2 _ ?_)
  clear hK2 K2
  refine W_seq (fun K3 hK3 => ?_)
  refine W_region (WL_cons rfl (WX_q rfl rfl (q_move rfl rfl) (WL_cons rfl (WX_q rfl rfl (q_move rfl rfl) (WL_cons rfl (?_))))))
  refine WX_q rfl rfl (q_call rfl (ArgsOK.of rfl) (c_laws_szSettingS _ _ (by assumption) (by assumption) (by first | rfl | omega)) rfl) ?_
  refine WL_cons rfl (WX_q rfl rfl (q_assign rfl rfl) (?_))
  refine WL_nil (hK3 _ ?_)
  clear hK3 K3
  refine W_seq (fun K4 hK4 => ?_)
  refine W_seq (fun K5 hK5 => ?_)
  refine W_region (WL_cons rfl (WX_q rfl rfl (q_move rfl rfl) (WL_cons rfl (WX_q rfl rfl (q_cmp rfl rfl rfl rfl) (?_)))))
  refine WL_nil (hK5 _ ?_)
  clear hK5 K5
  refine W_cond rfl (fun h1 => ?_) (fun h1 => ?_)
  · try rw [h1]
    try simp only [decide_eq_true_eq, decide_eq_false_iff_not, beq_iff_eq, bne_iff_ne, ne_eq, Bool.not_eq_true', Bool.not_eq_false', beq_eq_false_iff_ne, bne_eq_false_iff_eq, Bool.not_eq_true, Bool.not_eq_false, Int.not_lt, Int.not_le, gt_iff_lt, ge_iff_le, Bool.and_eq_true, Bool.and_eq_false_iff, Bool.or_eq_true, Bool.or_eq_false_iff] at h1
    refine W_seq (fun K6 hK6 => ?_)
    refine W_region (WL_cons rfl (WX_q rfl rfl (q_assign rfl rfl) (?_)))
    refine WL_nil (hK6 _ ?_)
    clear hK6 K6
    refine W_ret (fin_one rfl (rc_v ?_))
    all_goals clear hK4 K4
    all_goals ((first | rfl | (simp_all; done) | (simp_all; omega)))
  · try rw [h1]
    try simp only [decide_eq_true_eq, decide_eq_false_iff_not, beq_iff_eq, bne_iff_ne, ne_eq, Bool.not_eq_true', Bool.not_eq_false', beq_eq_false_iff_ne, bne_eq_false_iff_eq, Bool.not_eq_true, Bool.not_eq_false, Int.not_lt, Int.not_le, gt_iff_lt, ge_iff_le, Bool.and_eq_true, Bool.and_eq_false_iff, Bool.or_eq_true, Bool.or_eq_false_iff] at h1
    have hn : xs.length ≤ 1048576 := by unfold szT at h1; split at h1 <;> omega
    refine W_skip (hK4 _ ?_)
    clear hK4 K4
    refine W_seq (fun K7 hK7 => ?_)
    refine W_region (WL_cons rfl (WX_q rfl rfl (q_move rfl rfl) (WL_cons rfl (?_))))
    refine WX_call 1 rfl rfl rfl (ArgsOK.of rfl) (c_laws_toSettingS _ (by assumption)) rfl rfl ?_
    refine WL_cons rfl (?_)
    refine WX_q rfl rfl (q_call rfl (ArgsOK.of rfl) (c_spec_AreSettings _ (by omega) (by assumption)) rfl) ?_
    refine WL_cons rfl (WX_q rfl rfl (q_assign rfl rfl) (?_))
    refine WL_nil (hK7 _ ?_)
    clear hK7 K7
    refine W_seq (fun K8 hK8 => ?_)
    refine W_region (WL_cons rfl (WX_q rfl rfl (q_move rfl rfl) (WL_cons rfl (?_))))
    refine WX_call 2 rfl rfl rfl (ArgsOK.of rfl) (c_laws_toSettingS _ (by assumption)) rfl rfl ?_
    refine WL_cons rfl (WX_q rfl rfl (q_assign rfl rfl) (?_))
    refine WL_nil (hK8 _ ?_)
    clear hK8 K8
    refine W_seq (fun K9 hK9 => ?_)
    refine W_region (WL_cons rfl (WX_q rfl rfl (q_move rfl rfl) (WL_cons rfl (?_))))
    refine WX_q rfl rfl (q_call rfl (ArgsOK.of rfl) (c_impl_AreSettings _ (by omega) (by assumption)) rfl) ?_
    refine WL_cons rfl (WX_q rfl rfl (q_assign rfl rfl) (?_))
    refine WL_nil (hK9 _ ?_)
    clear hK9 K9
    refine W_seq (fun K10 hK10 => ?_)
    refine W_seq (fun K11 hK11 => ?_)
    refine W_region (WL_cons rfl (WX_q rfl rfl (q_move rfl rfl) (WL_cons rfl (WX_q rfl rfl (q_move rfl rfl) (WL_cons rfl (WX_q rfl rfl (q_bne (G 4 _ rfl).1 rfl rfl rfl) (?_)))))))
    refine WL_nil (hK11 _ ?_)
    clear hK11 K11
    refine W_cond rfl (fun h2 => ?_) (fun h2 => ?_)
    · try rw [h2]
      try simp only [decide_eq_true_eq, decide_eq_false_iff_not, beq_iff_eq, bne_iff_ne, ne_eq, Bool.not_eq_true', Bool.not_eq_false', beq_eq_false_iff_ne, bne_eq_false_iff_eq, Bool.not_eq_true, Bool.not_eq_false, Int.not_lt, Int.not_le, gt_iff_lt, ge_iff_le, Bool.and_eq_true, Bool.and_eq_false_iff, Bool.or_eq_true, Bool.or_eq_false_iff] at h2
      refine W_seq (fun K12 hK12 => ?_)
      refine W_region (WL_cons rfl (WX_q rfl rfl (q_assign rfl rfl) (?_)))
      refine WL_nil (hK12 _ ?_)
      clear hK12 K12
      refine W_ret (fin_one rfl (rc_v ?_))
      all_goals clear hK10 K10
      all_goals ((first | rfl | (simp_all; done) | (simp_all; omega)))
    · try rw [h2]
      try simp only [decide_eq_true_eq, decide_eq_false_iff_not, beq_iff_eq, bne_iff_ne, ne_eq, Bool.not_eq_true', Bool.not_eq_false', beq_eq_false_iff_ne, bne_eq_false_iff_eq, Bool.not_eq_true, Bool.not_eq_false, Int.not_lt, Int.not_le, gt_iff_lt, ge_iff_le, Bool.and_eq_true, Bool.and_eq_false_iff, Bool.or_eq_true, Bool.or_eq_false_iff] at h2
      refine W_skip (hK10 _ ?_)
      clear hK10 K10
      refine W_seq (fun K13 hK13 => ?_)
      refine W_seq (fun K14 hK14 => ?_)
      refine W_region (WL_cons rfl (WX_q rfl rfl (q_move rfl rfl) (WL_cons rfl (WX_q rfl rfl (q_move rfl rfl) (WL_cons rfl (?_))))))
      refine WX_call 3 rfl rfl rfl (ArgsOK.of rfl) (c_laws_toSettingS _ (by assumption)) rfl rfl ?_
      refine WL_cons rfl (?_)
      refine WX_q rfl rfl (q_call rfl (ArgsOK.of rfl) (c_laws_eqSettingS _ _ (by omega)) rfl) ?_
      refine WL_cons rfl (WX_q rfl rfl (q_not rfl rfl) (?_))
      refine WL_nil (hK14 _ ?_)
      clear hK14 K14
      refine W_cond rfl (fun h3 => ?_) (fun h3 => ?_)
      · try rw [h3]
        try simp only [decide_eq_true_eq, decide_eq_false_iff_not, beq_iff_eq, bne_iff_ne, ne_eq, Bool.not_eq_true', Bool.not_eq_false', beq_eq_false_iff_ne, bne_eq_false_iff_eq, Bool.not_eq_true, Bool.not_eq_false, Int.not_lt, Int.not_le, gt_iff_lt, ge_iff_le, Bool.and_eq_true, Bool.and_eq_false_iff, Bool.or_eq_true, Bool.or_eq_false_iff] at h3
        refine W_seq (fun K15 hK15 => ?_)
        refine W_region (WL_cons rfl (WX_q rfl rfl (q_assign rfl rfl) (?_)))
        refine WL_nil (hK15 _ ?_)
        clear hK15 K15
        refine W_ret (fin_one rfl (rc_v ?_))
        all_goals clear hK13 K13
        all_goals ((first | rfl | (simp_all; done) | (simp_all; omega)))
      · try rw [h3]
        try simp only [decide_eq_true_eq, decide_eq_false_iff_not, beq_iff_eq, bne_iff_ne, ne_eq, Bool.not_eq_true', Bool.not_eq_false', beq_eq_false_iff_ne, bne_eq_false_iff_eq, Bool.not_eq_true, Bool.not_eq_false, Int.not_lt, Int.not_le, gt_iff_lt, ge_iff_le, Bool.and_eq_true, Bool.and_eq_false_iff, Bool.or_eq_true, Bool.or_eq_false_iff] at h3
        refine W_skip (hK13 _ ?_)
        clear hK13 K13
        refine W_seq (fun K16 hK16 => ?_)
        refine W_region (WL_cons rfl (WX_q rfl rfl (q_assign rfl rfl) (?_)))
        refine WL_nil (hK16 _ ?_)
        clear hK16 K16
        refine W_ret (fin_one rfl (rc_v ?_))
        all_goals ((first | rfl | (simp_all; done) | (simp_all; omega)))

theorem c_laws_FnExactFreeFrames (xs : List Setting) (h0 : xs.length ≤ 9223372036854775807) (hz : ∀ i, i < xs.length → (xs.getD i default).n.size ≤ 9223372036854775807) : Ctr Try.prog 4 [.lst 6 (xs.map encTc)] (.one (.v (.bool true))) := by
  refine Ctr.of (n := 40) G Try.func4 rfl (by kernel_rfl) rfl rfl rfl (fun w0 => ?_)
  refine W_seq (fun K1 hK1 => ?_)
  refine W_region (WL_cons rfl (WX_q rfl rfl (q_assign rfl rfl) (?_)))
  refine WL_nil (hK1 _ ?_)
  clear hK1 K1
  refine W_seq (fun K2 hK2 => ?_)
  refine W_region (WL_cons rfl (WX_q rfl rfl (q_assign rfl rfl) (?_)))
  refine WL_nil (hK2 _ ?_)
  clear hK2 K2
  refine W_seq (fun K3 hK3 => ?_)
  refine W_region (WL_cons rfl (WX_q rfl rfl (q_move rfl rfl) (WL_cons rfl (WX_q rfl rfl (q_move rfl rfl) (WL_cons rfl (?_))))))
  refine WX_q rfl rfl (q_call rfl (ArgsOK.of rfl) (c_laws_szSettingS _ _ (by assumption) (by assumption) (by first | rfl | omega)) rfl) ?_
  refine WL_cons rfl (WX_q rfl rfl (q_assign rfl rfl) (?_))
  refine WL_nil (hK3 _ ?_)
  clear hK3 K3
  refine W_seq (fun K4 hK4 => ?_)
  refine W_seq (fun K5 hK5 => ?_)
  refine W_region (WL_cons rfl (WX_q rfl rfl (q_move rfl rfl) (WL_cons rfl (WX_q rfl rfl (q_cmp rfl rfl rfl rfl) (?_)))))
  refine WL_nil (hK5 _ ?_)
  clear hK5 K5
  refine W_cond rfl (fun h1 => ?_) (fun h1 => ?_)
  · try rw [h1]
    try simp only [decide_eq_true_eq, decide_eq_false_iff_not, beq_iff_eq, bne_iff_ne, ne_eq, Bool.not_eq_true', Bool.not_eq_false', beq_eq_false_iff_ne, bne_eq_false_iff_eq, Bool.not_eq_true, Bool.not_eq_false, Int.not_lt, Int.not_le, gt_iff_lt, ge_iff_le, Bool.and_eq_true, Bool.and_eq_false_iff, Bool.or_eq_true, Bool.or_eq_false_iff] at h1
    refine W_seq (fun K6 hK6 => ?_)
    refine W_region (WL_cons rfl (WX_q rfl rfl (q_assign rfl rfl) (?_)))
    refine WL_nil (hK6 _ ?_)
    clear hK6 K6
    refine W_ret (fin_one rfl (rc_v ?_))
    all_goals clear hK4 K4
    all_goals ((first | rfl | (simp_all; done) | (simp_all; omega)))
  · try rw [h1]
    try simp only [decide_eq_true_eq, decide_eq_false_iff_not, beq_iff_eq, bne_iff_ne, ne_eq, Bool.not_eq_true', Bool.not_eq_false', beq_eq_false_iff_ne, bne_eq_false_iff_eq, Bool.not_eq_true, Bool.not_eq_false, Int.not_lt, Int.not_le, gt_iff_lt, ge_iff_le, Bool.and_eq_true, Bool.and_eq_false_iff, Bool.or_eq_true, Bool.or_eq_false_iff] at h1
    have hn : xs.length ≤ 1048576 := by unfold szT at h1; split at h1 <;> omega
    refine W_skip (hK4 _ ?_)
    clear hK4 K4
    refine W_seq (fun K7 hK7 => ?_)
    refine W_region (WL_cons rfl (WX_q rfl rfl (q_move rfl rfl) (WL_cons rfl (?_))))
    refine WX_call 1 rfl rfl rfl (ArgsOK.of rfl) (c_laws_toSettingS _ (by assumption)) rfl rfl ?_
    refine WL_cons rfl (?_)
    refine WX_q rfl rfl (q_call rfl (ArgsOK.of rfl) (c_spec_FreeFrames _ (by omega) (by assumption)) rfl) ?_
    refine WL_cons rfl (WX_q rfl rfl (q_move rfl rfl) (WL_cons rfl (WX_q rfl rfl (q_extract rfl rfl rfl) (WL_cons rfl (WX_q rfl rfl (q_extract rfl rfl rfl) (WL_cons rfl (WX_q rfl rfl (q_assign rfl rfl) (WL_cons rfl (WX_q rfl rfl (q_assign rfl rfl) (?_))))))))))
    refine WL_nil (hK7 _ ?_)
    clear hK7 K7
    refine W_seq (fun K8 hK8 => ?_)
    refine W_region (WL_cons rfl (WX_q rfl rfl (q_move rfl rfl) (WL_cons rfl (?_))))
    refine WX_call 2 rfl rfl rfl (ArgsOK.of rfl) (c_laws_toSettingS _ (by assumption)) rfl rfl ?_
    refine WL_cons rfl (WX_q rfl rfl (q_assign rfl rfl) (?_))
    refine WL_nil (hK8 _ ?_)
    clear hK8 K8
    refine W_seq (fun K9 hK9 => ?_)
    refine W_region (WL_cons rfl (WX_q rfl rfl (q_move rfl rfl) (WL_cons rfl (?_))))
    refine WX_q rfl rfl (q_call rfl (ArgsOK.of rfl) (c_impl_FreeFrames _ (by omega) (by assumption)) rfl) ?_
    refine WL_cons rfl (WX_q rfl rfl (q_move rfl rfl) (WL_cons rfl (WX_q rfl rfl (q_extract rfl rfl rfl) (WL_cons rfl (WX_q rfl rfl (q_extract rfl rfl rfl) (WL_cons rfl (WX_q rfl rfl (q_assign rfl rfl) (WL_cons rfl (WX_q rfl rfl (q_assign rfl rfl) (?_))))))))))
    refine WL_nil (hK9 _ ?_)
    clear hK9 K9
    refine W_seq (fun K10 hK10 => ?_)
    refine W_seq (fun K11 hK11 => ?_)
    refine W_region (WL_cons rfl (WX_q rfl rfl (q_move rfl rfl) (WL_cons rfl (WX_q rfl rfl (q_move rfl rfl) (WL_cons rfl (WX_q rfl rfl (q_cmp rfl rfl rfl rfl) (WL_cons rfl (WX_q rfl rfl (q_move rfl rfl) (WL_part rfl rfl rfl (fun h2 => ?_) (fun h2 => ?_))))))))))
    · try rw [h2]
      try simp only [decide_eq_true_eq, decide_eq_false_iff_not, beq_iff_eq, bne_iff_ne, ne_eq, Bool.not_eq_true', Bool.not_eq_false', beq_eq_false_iff_ne, bne_eq_false_iff_eq, Bool.not_eq_true, Bool.not_eq_false, Int.not_lt, Int.not_le, gt_iff_lt, ge_iff_le, Bool.and_eq_true, Bool.and_eq_false_iff, Bool.or_eq_true, Bool.or_eq_false_iff] at h2
      refine WL_skip rfl rfl rfl rfl rfl rfl (WL_skip rfl rfl rfl rfl rfl rfl (WL_skip rfl rfl rfl rfl rfl rfl (WL_cons rfl (WX_q rfl rfl (q_pick_t rfl rfl rfl) (?_)))))
      refine WL_nil (hK11 _ ?_)
      clear hK11 K11
      refine W_true rfl ?_
      refine W_seq (fun K12 hK12 => ?_)
      refine W_region (WL_cons rfl (WX_q rfl rfl (q_assign rfl rfl) (?_)))
      refine WL_nil (hK12 _ ?_)
      clear hK12 K12
      refine W_ret (fin_one rfl (rc_v ?_))
      all_goals clear hK10 K10
      all_goals ((first | rfl | (simp_all; done) | (simp_all; omega)))
    · try rw [h2]
      try simp only [decide_eq_true_eq, decide_eq_false_iff_not, beq_iff_eq, bne_iff_ne, ne_eq, Bool.not_eq_true', Bool.not_eq_false', beq_eq_false_iff_ne, bne_eq_false_iff_eq, Bool.not_eq_true, Bool.not_eq_false, Int.not_lt, Int.not_le, gt_iff_lt, ge_iff_le, Bool.and_eq_true, Bool.and_eq_false_iff, Bool.or_eq_true, Bool.or_eq_false_iff] at h2
      refine WL_run rfl rfl rfl (WX_q rfl rfl (q_move rfl rfl) (WL_run rfl rfl rfl (WX_q rfl rfl (q_move rfl rfl) (WL_run rfl rfl rfl (WX_q rfl rfl (q_bne (G 4 _ rfl).1 rfl rfl rfl) (WL_cons rfl (WX_q rfl rfl (q_pick_f rfl rfl rfl) (?_))))))))
      refine WL_nil (hK11 _ ?_)
      clear hK11 K11
      refine W_cond rfl (fun h3 => ?_) (fun h3 => ?_)
      · try rw [h3]
        try simp only [decide_eq_true_eq, decide_eq_false_iff_not, beq_iff_eq, bne_iff_ne, ne_eq, Bool.not_eq_true', Bool.not_eq_false', beq_eq_false_iff_ne, bne_eq_false_iff_eq, Bool.not_eq_true, Bool.not_eq_false, Int.not_lt, Int.not_le, gt_iff_lt, ge_iff_le, Bool.and_eq_true, Bool.and_eq_false_iff, Bool.or_eq_true, Bool.or_eq_false_iff] at h3
        refine W_seq (fun K13 hK13 => ?_)
        refine W_region (WL_cons rfl (WX_q rfl rfl (q_assign rfl rfl) (?_)))
        refine WL_nil (hK13 _ ?_)
        clear hK13 K13
        refine W_ret (fin_one rfl (rc_v ?_))
        all_goals clear hK10 K10
        all_goals ((first | rfl | (simp_all; done) | (simp_all; omega)))
      · try rw [h3]
        try simp only [decide_eq_true_eq, decide_eq_false_iff_not, beq_iff_eq, bne_iff_ne, ne_eq, Bool.not_eq_true', Bool.not_eq_false', beq_eq_false_iff_ne, bne_eq_false_iff_eq, Bool.not_eq_true, Bool.not_eq_false, Int.not_lt, Int.not_le, gt_iff_lt, ge_iff_le, Bool.and_eq_true, Bool.and_eq_false_iff, Bool.or_eq_true, Bool.or_eq_false_iff] at h3
        refine W_skip (hK10 _ ?_)
        clear hK10 K10
        refine W_seq (fun K14 hK14 => ?_)
        refine W_seq (fun K15 hK15 => ?_)
        refine W_region (WL_cons rfl (WX_q rfl rfl (q_move rfl rfl) (WL_cons rfl (WX_q rfl rfl (q_move rfl rfl) (WL_cons rfl (?_))))))
        refine WX_call 3 rfl rfl rfl (ArgsOK.of rfl) (c_laws_toSettingS _ (by assumption)) rfl rfl ?_
        refine WL_cons rfl (?_)
        refine WX_q rfl rfl (q_call rfl (ArgsOK.of rfl) (c_laws_eqSettingS _ _ (by omega)) rfl) ?_
        refine WL_cons rfl (WX_q rfl rfl (q_not rfl rfl) (?_))
        refine WL_nil (hK15 _ ?_)
        clear hK15 K15
        refine W_cond rfl (fun h4 => ?_) (fun h4 => ?_)
        · try rw [h4]
          try simp only [decide_eq_true_eq, decide_eq_false_iff_not, beq_iff_eq, bne_iff_ne, ne_eq, Bool.not_eq_true', Bool.not_eq_false', beq_eq_false_iff_ne, bne_eq_false_iff_eq, Bool.not_eq_true, Bool.not_eq_false, Int.not_lt, Int.not_le, gt_iff_lt, ge_iff_le, Bool.and_eq_true, Bool.and_eq_false_iff, Bool.or_eq_true, Bool.or_eq_false_iff] at h4
          refine W_seq (fun K16 hK16 => ?_)
          refine W_region (WL_cons rfl (WX_q rfl rfl (q_assign rfl rfl) (?_)))
          refine WL_nil (hK16 _ ?_)
          clear hK16 K16
          refine W_ret (fin_one rfl (rc_v ?_))
          all_goals clear hK14 K14
          all_goals ((first | rfl | (simp_all; done) | (simp_all; omega)))
        · try rw [h4]
          try simp only [decide_eq_true_eq, decide_eq_false_iff_not, beq_iff_eq, bne_iff_ne, ne_eq, Bool.not_eq_true', Bool.not_eq_false', beq_eq_false_iff_ne, bne_eq_false_iff_eq, Bool.not_eq_true, Bool.not_eq_false, Int.not_lt, Int.not_le, gt_iff_lt, ge_iff_le, Bool.and_eq_true, Bool.and_eq_false_iff, Bool.or_eq_true, Bool.or_eq_false_iff] at h4
          refine W_skip (hK14 _ ?_)
          clear hK14 K14
          refine W_seq (fun K17 hK17 => ?_)
          refine W_region (WL_cons rfl (WX_q rfl rfl (q_assign rfl rfl) (?_)))
          refine WL_nil (hK17 _ ?_)
          clear hK17 K17
          refine W_ret (fin_one rfl (rc_v ?_))
          all_goals ((first | rfl | (simp_all; done) | (simp_all; omega)))

end Go.Proofs.Ytehijimgenicfaa
