/- Walks through functions of the program, one contract each (written by gen.py). -/
import Derived.Test.YtehijimgenicfaaW1
set_option maxRecDepth 20000
set_option linter.unusedVariables false
set_option linter.unusedSimpArgs false
namespace Go.Proofs.Ytehijimgenicfaa
open Go Go.Rf

theorem c_laws_toSettingS (xs : List Setting) (hn : xs.length ≤ 1048576) : Ctr Try.prog 10 [.lst 6 (xs.map encTc)] (.one (.fr 39 6 (xs.map encTc))) := by
  refine Ctr.of (n := 23) G Try.func10 rfl (by kernel_rfl) rfl rfl rfl (fun w0 => ?_)
  refine W_seq (fun K1 hK1 => ?_)
  refine W_region (WL_cons rfl (WX_q rfl rfl (q_assign rfl rfl) (?_)))
  refine WL_nil (hK1 _ ?_)
  clear hK1 K1
  refine W_seq (fun K2 hK2 => ?_)
  refine W_region (WL_cons rfl (WX_q rfl rfl (q_move rfl rfl) (WL_cons rfl (?_))))
  first | refine WX_q rfl rfl (q_len' G rfl rfl rfl rfl (List.length_map _)) ?_ | refine WX_q rfl rfl (q_len G rfl rfl rfl rfl) ?_
  refine WL_cons rfl (?_)
  refine WX_make (n := xs.length) G 1 rfl rfl rfl rfl rfl rfl rfl (by first | rfl | simp) (by first | rfl | simp) (by omega) (by omega) ?_
  refine WL_cons rfl (WX_q rfl rfl (q_assign rfl rfl) (?_))
  refine WL_nil (hK2 _ ?_)
  clear hK2 K2
  refine W_seq (fun K3 hK3 => ?_)
  refine W_seq (fun K4 hK4 => ?_)
  refine W_region (WL_cons rfl (WX_q rfl rfl (q_assign rfl rfl) (?_)))
  refine WL_nil (hK4 _ ?_)
  clear hK4 K4
  refine W_block ?_
  refine W_loopK [0, 3] [] (fun (i : Nat) => [(4, .v (.int .i64 (i : Int)))]) (fun (i : Nat) => [(0, some (.row 39 6 (fill encTc (encTc ⟨0, ⟨#[]⟩, 0, 0, 0, false⟩) xs i)))]) (fun (i : Nat) => i ≤ xs.length) (fun (i : Nat) => xs.length - i) 0 rfl rfl ?_ ?_ ?_ ?_
  · exact Nat.zero_le _
  · exact ⟨⟨_, rfl, by (first | rfl | (simp; done) | (simp; omega))⟩, rfl, trivial⟩
  · exact ⟨⟨_, rfl, by (rw [fill_zero]; rfl)⟩, rfl, rfl, trivial⟩
  · intro i hinv
    simp only [List.cons_append, List.nil_append]
    refine W_seq (fun K5 hK5 => ?_)
    refine W_seq (fun K6 hK6 => ?_)
    refine W_region (WL_cons rfl (WX_q rfl rfl (q_move rfl rfl) (WL_cons rfl (WX_q rfl rfl (q_move rfl rfl) (WL_cons rfl (?_))))))
    first | refine WX_q rfl rfl (q_len' G rfl rfl rfl rfl (List.length_map _)) ?_ | refine WX_q rfl rfl (q_len G rfl rfl rfl rfl) ?_
    refine WL_cons rfl (WX_q rfl rfl (q_cmp rfl rfl rfl rfl) (?_))
    refine WL_nil (hK6 _ ?_)
    clear hK6 K6
    refine W_cond rfl (fun h1 => ?_) (fun h1 => ?_)
    · try rw [h1]
      try simp only [decide_eq_true_eq, decide_eq_false_iff_not, beq_iff_eq, bne_iff_ne, ne_eq, Bool.not_eq_true', Bool.not_eq_false', beq_eq_false_iff_ne, bne_eq_false_iff_eq, Bool.not_eq_true, Bool.not_eq_false, Int.not_lt, Int.not_le, gt_iff_lt, ge_iff_le, Bool.and_eq_true, Bool.and_eq_false_iff, Bool.or_eq_true, Bool.or_eq_false_iff] at h1
      refine W_skip (hK5 _ ?_)
      clear hK5 K5
      refine W_seq (fun K7 hK7 => ?_)
      refine W_block ?_
      refine W_region (WL_cons rfl (WX_q rfl rfl (q_move rfl rfl) (WL_cons rfl (WX_q rfl rfl (q_move rfl rfl) (WL_cons rfl (WX_q rfl rfl (q_move rfl rfl) (WL_cons rfl (WX_q rfl rfl (q_move rfl rfl) (WL_cons rfl (?_))))))))))
      refine WX_q rfl rfl (q_index_lst G rfl rfl rfl rfl (by omega) (getN (by omega))) ?_
      refine WL_cons rfl (WX_q rfl rfl (q_load_ept_struct G rfl rfl rfl rfl) (WL_cons rfl (?_)))
      refine WX_q rfl rfl (q_call rfl (ArgsOK.of rfl) (c_laws_toSetting _) rfl) ?_
      refine WL_cons rfl (?_)
      refine WX_q rfl rfl (q_index_own G rfl rfl rfl rfl rfl (by omega) (by rw [fill_len (by omega)]; omega)) ?_
      refine WL_cons rfl (?_)
      refine WX_store_row G rfl rfl rfl rfl rfl (fill_get (by omega)) rfl rfl rfl rfl rfl (Nat.le_of_ble_eq_true rfl) rfl ?_
      refine WL_nil (hK7 _ ?_)
      clear hK7 K7
      refine W_region (WL_cons rfl (WX_q rfl rfl (q_move rfl rfl) (WL_cons rfl (?_))))
      first | refine WX_q rfl rfl (q_arith rfl rfl rfl rfl (by omega) (by omega)) ?_ | refine WX_q rfl rfl (q_wrap rfl rfl rfl rfl) ?_
      refine WL_cons rfl (WX_q rfl rfl (q_assign rfl rfl) (?_))
      refine WL_nil ⟨(i + 1), ?_, ?_, ⟨⟨_, rfl, by rfl⟩, rfl, trivial⟩, ⟨⟨_, rfl, by (rw [← fill_set (by omega)]; rfl)⟩, rfl, rfl, trivial⟩, rfl, rfl, rfl⟩
      · omega
      · omega
    · try rw [h1]
      try simp only [decide_eq_true_eq, decide_eq_false_iff_not, beq_iff_eq, bne_iff_ne, ne_eq, Bool.not_eq_true', Bool.not_eq_false', beq_eq_false_iff_ne, bne_eq_false_iff_eq, Bool.not_eq_true, Bool.not_eq_false, Int.not_lt, Int.not_le, gt_iff_lt, ge_iff_le, Bool.and_eq_true, Bool.and_eq_false_iff, Bool.or_eq_true, Bool.or_eq_false_iff] at h1
      refine W_exit (hK3 _ ?_)
      clear hK5 K5 hK3 K3
      refine W_seq (fun K8 hK8 => ?_)
      refine W_region (WL_cons rfl (WX_q rfl rfl (q_move rfl rfl) (WL_cons rfl (WX_q rfl rfl (q_assign rfl rfl) (?_)))))
      refine WL_nil (hK8 _ ?_)
      clear hK8 K8
      refine W_ret (fin_one rfl (rc_own rfl ?_))
      all_goals (exact fill_end (by omega) (by omega))

theorem c_laws_eqSettingS (xs ys : List Setting) (hn : xs.length ≤ 9223372036854775807) : Ctr Try.prog 12 [.lst 6 (xs.map encTc), .lst 6 (ys.map encTc)] (.one (.v (.bool (@decide (xs = ys) (Classical.propDecidable _))))) := by
  refine Ctr.of (n := 27) G Try.func12 rfl (by kernel_rfl) rfl rfl rfl (fun w0 => ?_)
  refine W_seq (fun K1 hK1 => ?_)
  refine W_region (WL_cons rfl (WX_q rfl rfl (q_assign rfl rfl) (?_)))
  refine WL_nil (hK1 _ ?_)
  clear hK1 K1
  refine W_seq (fun K2 hK2 => ?_)
  refine W_seq (fun K3 hK3 => ?_)
  refine W_region (WL_cons rfl (WX_q rfl rfl (q_move rfl rfl) (WL_cons rfl (?_))))
  first | refine WX_q rfl rfl (q_len' G rfl rfl rfl rfl (List.length_map _)) ?_ | refine WX_q rfl rfl (q_len G rfl rfl rfl rfl) ?_
  refine WL_cons rfl (WX_q rfl rfl (q_move rfl rfl) (WL_cons rfl (?_)))
  first | refine WX_q rfl rfl (q_len' G rfl rfl rfl rfl (List.length_map _)) ?_ | refine WX_q rfl rfl (q_len G rfl rfl rfl rfl) ?_
  refine WL_cons rfl (WX_q rfl rfl (q_cmp rfl rfl rfl rfl) (?_))
  refine WL_nil (hK3 _ ?_)
  clear hK3 K3
  refine W_cond rfl (fun h1 => ?_) (fun h1 => ?_)
  · try rw [h1]
    try simp only [decide_eq_true_eq, decide_eq_false_iff_not, beq_iff_eq, bne_iff_ne, ne_eq, Bool.not_eq_true', Bool.not_eq_false', beq_eq_false_iff_ne, bne_eq_false_iff_eq, Bool.not_eq_true, Bool.not_eq_false, Int.not_lt, Int.not_le, gt_iff_lt, ge_iff_le, Bool.and_eq_true, Bool.and_eq_false_iff, Bool.or_eq_true, Bool.or_eq_false_iff] at h1
    refine W_seq (fun K4 hK4 => ?_)
    refine W_region (WL_cons rfl (WX_q rfl rfl (q_assign rfl rfl) (?_)))
    refine WL_nil (hK4 _ ?_)
    clear hK4 K4
    refine W_ret (fin_one rfl (rc_v ?_))
    all_goals clear hK2 K2
    all_goals (first | (have e : xs ≠ ys := fun e => (by (subst e; simp_all [eqT]; done)); simp [e]; done) | (have e : xs = ys := eq_true_of (by omega) hinv.2 (by omega); simp [e]; done) | (have e : xs ≠ ys := eq_false_of (i := i) (fun e => (by simp_all [eqT])); simp [e]; done))
  · try rw [h1]
    try simp only [decide_eq_true_eq, decide_eq_false_iff_not, beq_iff_eq, bne_iff_ne, ne_eq, Bool.not_eq_true', Bool.not_eq_false', beq_eq_false_iff_ne, bne_eq_false_iff_eq, Bool.not_eq_true, Bool.not_eq_false, Int.not_lt, Int.not_le, gt_iff_lt, ge_iff_le, Bool.and_eq_true, Bool.and_eq_false_iff, Bool.or_eq_true, Bool.or_eq_false_iff] at h1
    refine W_skip (hK2 _ ?_)
    clear hK2 K2
    refine W_seq (fun K5 hK5 => ?_)
    refine W_seq (fun K6 hK6 => ?_)
    refine W_region (WL_cons rfl (WX_q rfl rfl (q_assign rfl rfl) (?_)))
    refine WL_nil (hK6 _ ?_)
    clear hK6 K6
    refine W_block ?_
    refine W_loopK [0, 1] [] (fun (i : Nat) => [(5, .v (.int .i64 (i : Int)))]) (fun (i : Nat) => []) (fun (i : Nat) => i ≤ xs.length ∧ ∀ j, j < i → xs.getD j default = ys.getD j default) (fun (i : Nat) => xs.length - i) 0 rfl rfl ?_ ?_ ?_ ?_
    · exact ⟨Nat.zero_le _, fun j hj => by omega⟩
    · exact ⟨⟨_, rfl, by (first | rfl | (simp; done) | (simp; omega))⟩, rfl, trivial⟩
    · exact trivial
    · intro i hinv
      simp only [List.cons_append, List.nil_append]
      refine W_seq (fun K7 hK7 => ?_)
      refine W_seq (fun K8 hK8 => ?_)
      refine W_region (WL_cons rfl (WX_q rfl rfl (q_move rfl rfl) (WL_cons rfl (WX_q rfl rfl (q_move rfl rfl) (WL_cons rfl (?_))))))
      first | refine WX_q rfl rfl (q_len' G rfl rfl rfl rfl (List.length_map _)) ?_ | refine WX_q rfl rfl (q_len G rfl rfl rfl rfl) ?_
      refine WL_cons rfl (WX_q rfl rfl (q_cmp rfl rfl rfl rfl) (?_))
      refine WL_nil (hK8 _ ?_)
      clear hK8 K8
      refine W_cond rfl (fun h2 => ?_) (fun h2 => ?_)
      · try rw [h2]
        try simp only [decide_eq_true_eq, decide_eq_false_iff_not, beq_iff_eq, bne_iff_ne, ne_eq, Bool.not_eq_true', Bool.not_eq_false', beq_eq_false_iff_ne, bne_eq_false_iff_eq, Bool.not_eq_true, Bool.not_eq_false, Int.not_lt, Int.not_le, gt_iff_lt, ge_iff_le, Bool.and_eq_true, Bool.and_eq_false_iff, Bool.or_eq_true, Bool.or_eq_false_iff] at h2
        refine W_skip (hK7 _ ?_)
        clear hK7 K7
        refine W_seq (fun K9 hK9 => ?_)
        refine W_block ?_
        refine W_seq (fun K10 hK10 => ?_)
        refine W_draws mixed (by kernel_rfl) (QL_cons rfl (QX_q rfl rfl (q_move rfl rfl) (QL_cons rfl (QX_q rfl rfl (q_move rfl rfl) (QL_cons rfl (?_))))))
        refine QX_q rfl rfl (q_index_lst G rfl rfl rfl rfl (by omega) (getN (by omega))) ?_
        refine QL_cons rfl (QX_q rfl rfl (q_load_ept_struct G rfl rfl rfl rfl) (QL_cons rfl (QX_q rfl rfl (q_move rfl rfl) (QL_cons rfl (QX_q rfl rfl (q_move rfl rfl) (QL_cons rfl (?_)))))))
        refine QX_q rfl rfl (q_index_lst G rfl rfl rfl rfl (by omega) (getN (by omega))) ?_
        refine QL_cons rfl (QX_q rfl rfl (q_load_ept_struct G rfl rfl rfl rfl) (QL_cons rfl (?_)))
        refine QX_q rfl rfl (q_call rfl (ArgsOK.of rfl) (c_laws_eqSetting _ _) rfl) ?_
        refine QL_cons rfl (QX_q rfl rfl (q_not rfl rfl) (?_))
        refine QL_nil (hK10 _ ?_)
        clear hK10 K10
        refine W_cond rfl (fun h3 => ?_) (fun h3 => ?_)
        · try rw [h3]
          try simp only [decide_eq_true_eq, decide_eq_false_iff_not, beq_iff_eq, bne_iff_ne, ne_eq, Bool.not_eq_true', Bool.not_eq_false', beq_eq_false_iff_ne, bne_eq_false_iff_eq, Bool.not_eq_true, Bool.not_eq_false, Int.not_lt, Int.not_le, gt_iff_lt, ge_iff_le, Bool.and_eq_true, Bool.and_eq_false_iff, Bool.or_eq_true, Bool.or_eq_false_iff] at h3
          refine W_seq (fun K11 hK11 => ?_)
          refine W_region (WL_cons rfl (WX_q rfl rfl (q_assign rfl rfl) (?_)))
          refine WL_nil (hK11 _ ?_)
          clear hK11 K11
          refine W_ret (fin_one rfl (rc_v ?_))
          all_goals clear hK9 K9 hK5 K5
          all_goals (first | (have e : xs ≠ ys := fun e => (by (subst e; simp_all [eqT]; done)); simp [e]; done) | (have e : xs = ys := eq_true_of (by omega) hinv.2 (by omega); simp [e]; done) | (have e : xs ≠ ys := eq_false_of (i := i) (fun e => (by simp_all [eqT])); simp [e]; done))
        · try rw [h3]
          try simp only [decide_eq_true_eq, decide_eq_false_iff_not, beq_iff_eq, bne_iff_ne, ne_eq, Bool.not_eq_true', Bool.not_eq_false', beq_eq_false_iff_ne, bne_eq_false_iff_eq, Bool.not_eq_true, Bool.not_eq_false, Int.not_lt, Int.not_le, gt_iff_lt, ge_iff_le, Bool.and_eq_true, Bool.and_eq_false_iff, Bool.or_eq_true, Bool.or_eq_false_iff] at h3
          refine W_skip (hK9 _ ?_)
          clear hK9 K9
          refine W_region (WL_cons rfl (WX_q rfl rfl (q_move rfl rfl) (WL_cons rfl (?_))))
          first | refine WX_q rfl rfl (q_arith rfl rfl rfl rfl (by omega) (by omega)) ?_ | refine WX_q rfl rfl (q_wrap rfl rfl rfl rfl) ?_
          refine WL_cons rfl (WX_q rfl rfl (q_assign rfl rfl) (?_))
          refine WL_nil ⟨(i + 1), ?_, ?_, ⟨⟨_, rfl, by rfl⟩, rfl, trivial⟩, trivial, rfl, rfl, rfl⟩
          · exact ⟨by omega, upto_succ hinv.2 (by first | exact eqT_iff.mp (by assumption) | exact eqT_iff.mp (by simp_all))⟩
          · omega
      · try rw [h2]
        try simp only [decide_eq_true_eq, decide_eq_false_iff_not, beq_iff_eq, bne_iff_ne, ne_eq, Bool.not_eq_true', Bool.not_eq_false', beq_eq_false_iff_ne, bne_eq_false_iff_eq, Bool.not_eq_true, Bool.not_eq_false, Int.not_lt, Int.not_le, gt_iff_lt, ge_iff_le, Bool.and_eq_true, Bool.and_eq_false_iff, Bool.or_eq_true, Bool.or_eq_false_iff] at h2
        refine W_exit (hK5 _ ?_)
        clear hK7 K7 hK5 K5
        refine W_seq (fun K12 hK12 => ?_)
        refine W_region (WL_cons rfl (WX_q rfl rfl (q_assign rfl rfl) (?_)))
        refine WL_nil (hK12 _ ?_)
        clear hK12 K12
        refine W_ret (fin_one rfl (rc_v ?_))
        all_goals (first | (have e : xs ≠ ys := fun e => (by (subst e; simp_all [eqT]; done)); simp [e]; done) | (have e : xs = ys := eq_true_of (by omega) hinv.2 (by omega); simp [e]; done) | (have e : xs ≠ ys := eq_false_of (i := i) (fun e => (by simp_all [eqT])); simp [e]; done))

theorem c_laws_szSettingS (xs : List Setting) (l : Int) (h0 : xs.length ≤ 9223372036854775807) (hz : ∀ i, i < xs.length → (xs.getD i default).n.size ≤ 9223372036854775807) (hl : l = 1048576) : Ctr Try.prog 8 [.lst 6 (xs.map encTc), .v (.int .i64 l)] (.one (.v (.int .i64 (szT xs l)))) := by
  subst hl
  refine Ctr.of (n := 27) G Try.func8 rfl (by kernel_rfl) rfl rfl rfl (fun w0 => ?_)
  refine W_seq (fun K1 hK1 => ?_)
  refine W_region (WL_cons rfl (WX_q rfl rfl (q_assign rfl rfl) (?_)))
  refine WL_nil (hK1 _ ?_)
  clear hK1 K1
  refine W_seq (fun K2 hK2 => ?_)
  refine W_region (WL_cons rfl (WX_q rfl rfl (q_move rfl rfl) (WL_cons rfl (WX_q rfl rfl (q_move rfl rfl) (WL_cons rfl (?_))))))
  first | refine WX_q rfl rfl (q_len' G rfl rfl rfl rfl (List.length_map _)) ?_ | refine WX_q rfl rfl (q_len G rfl rfl rfl rfl) ?_
  refine WL_cons rfl (?_)
  first | refine WX_q rfl rfl (q_arith rfl rfl rfl rfl (by omega) (by omega)) ?_ | refine WX_q rfl rfl (q_wrap rfl rfl rfl rfl) ?_
  refine WL_cons rfl (WX_q rfl rfl (q_assign rfl rfl) (?_))
  refine WL_nil (hK2 _ ?_)
  clear hK2 K2
  refine W_seq (fun K3 hK3 => ?_)
  refine W_seq (fun K4 hK4 => ?_)
  refine W_region (WL_cons rfl (WX_q rfl rfl (q_move rfl rfl) (WL_cons rfl (WX_q rfl rfl (q_cmp rfl rfl rfl rfl) (?_)))))
  refine WL_nil (hK4 _ ?_)
  clear hK4 K4
  refine W_cond rfl (fun h1 => ?_) (fun h1 => ?_)
  · try rw [h1]
    try simp only [decide_eq_true_eq, decide_eq_false_iff_not, beq_iff_eq, bne_iff_ne, ne_eq, Bool.not_eq_true', Bool.not_eq_false', beq_eq_false_iff_ne, bne_eq_false_iff_eq, Bool.not_eq_true, Bool.not_eq_false, Int.not_lt, Int.not_le, gt_iff_lt, ge_iff_le, Bool.and_eq_true, Bool.and_eq_false_iff, Bool.or_eq_true, Bool.or_eq_false_iff] at h1
    refine W_seq (fun K5 hK5 => ?_)
    refine W_region (WL_cons rfl (WX_q rfl rfl (q_assign rfl rfl) (?_)))
    refine WL_nil (hK5 _ ?_)
    clear hK5 K5
    refine W_ret (fin_one rfl (rc_v ?_))
    all_goals clear hK3 K3
    all_goals (first | (simp only [szT]; rw [if_pos (by omega)]; done) | (simp only [szT]; rw [if_neg (by omega), if_pos (allN_t hinv.2.1 (by omega))]; have e : i = xs.length := (by omega); subst e; rfl) | (simp only [szT]; rw [if_neg (by omega), if_neg]; rw [allN_f (i := i) (by simp only [decide_eq_false_iff_not]; rw [szN_succ]; split at h3 <;> omega) (by omega)]; simp))
  · try rw [h1]
    try simp only [decide_eq_true_eq, decide_eq_false_iff_not, beq_iff_eq, bne_iff_ne, ne_eq, Bool.not_eq_true', Bool.not_eq_false', beq_eq_false_iff_ne, bne_eq_false_iff_eq, Bool.not_eq_true, Bool.not_eq_false, Int.not_lt, Int.not_le, gt_iff_lt, ge_iff_le, Bool.and_eq_true, Bool.and_eq_false_iff, Bool.or_eq_true, Bool.or_eq_false_iff] at h1
    refine W_skip (hK3 _ ?_)
    clear hK3 K3
    refine W_seq (fun K6 hK6 => ?_)
    refine W_seq (fun K7 hK7 => ?_)
    refine W_region (WL_cons rfl (WX_q rfl rfl (q_assign rfl rfl) (?_)))
    refine WL_nil (hK7 _ ?_)
    clear hK7 K7
    refine W_block ?_
    refine W_loopK [0] [] (fun (i : Nat) => [(1, .v (.int .i64 (szN xs 1048576 i))), (5, .v (.int .i64 (i : Int)))]) (fun (i : Nat) => []) (fun (i : Nat) => i ≤ xs.length ∧ (∀ j, j < i → decide (0 ≤ szN xs 1048576 (j + 1)) = true) ∧ 0 ≤ szN xs 1048576 i ∧ szN xs 1048576 i ≤ 1048576) (fun (i : Nat) => xs.length - i) 0 rfl rfl ?_ ?_ ?_ ?_
    · (refine ⟨Nat.zero_le _, fun j hj => (by omega), ?_, ?_⟩ <;> (show _ ≤ _; simp only [szN]; omega))
    · exact ⟨⟨_, rfl, by rfl⟩, rfl, ⟨⟨_, rfl, by rfl⟩, rfl, trivial⟩⟩
    · exact trivial
    · intro i hinv
      have hs1 : szN xs 1048576 (i + 1) = _ := szN_succ
      simp only [List.cons_append, List.nil_append]
      refine W_seq (fun K8 hK8 => ?_)
      refine W_seq (fun K9 hK9 => ?_)
      refine W_region (WL_cons rfl (WX_q rfl rfl (q_move rfl rfl) (WL_cons rfl (WX_q rfl rfl (q_move rfl rfl) (WL_cons rfl (?_))))))
      first | refine WX_q rfl rfl (q_len' G rfl rfl rfl rfl (List.length_map _)) ?_ | refine WX_q rfl rfl (q_len G rfl rfl rfl rfl) ?_
      refine WL_cons rfl (WX_q rfl rfl (q_cmp rfl rfl rfl rfl) (?_))
      refine WL_nil (hK9 _ ?_)
      clear hK9 K9
      refine W_cond rfl (fun h2 => ?_) (fun h2 => ?_)
      · try rw [h2]
        try simp only [decide_eq_true_eq, decide_eq_false_iff_not, beq_iff_eq, bne_iff_ne, ne_eq, Bool.not_eq_true', Bool.not_eq_false', beq_eq_false_iff_ne, bne_eq_false_iff_eq, Bool.not_eq_true, Bool.not_eq_false, Int.not_lt, Int.not_le, gt_iff_lt, ge_iff_le, Bool.and_eq_true, Bool.and_eq_false_iff, Bool.or_eq_true, Bool.or_eq_false_iff] at h2
        refine W_skip (hK8 _ ?_)
        clear hK8 K8
        refine W_seq (fun K10 hK10 => ?_)
        refine W_block ?_
        refine W_seq (fun K11 hK11 => ?_)
        refine W_region (WL_cons rfl (WX_q rfl rfl (q_move rfl rfl) (WL_cons rfl (WX_q rfl rfl (q_move rfl rfl) (WL_cons rfl (?_))))))
        refine WX_q rfl rfl (q_index_lst G rfl rfl rfl rfl (by omega) (getN (by omega))) ?_
        refine WL_cons rfl (WX_q rfl rfl (q_load_ept_struct G rfl rfl rfl rfl) (WL_cons rfl (WX_q rfl rfl (q_move rfl rfl) (WL_cons rfl (?_)))))
        refine WX_q rfl rfl (q_call rfl (ArgsOK.of rfl) (c_laws_szSetting _ _ (hz i (by omega)) (by omega)) rfl) ?_
        refine WL_cons rfl (WX_q rfl rfl (q_assign rfl rfl) (?_))
        refine WL_nil (hK11 _ ?_)
        clear hK11 K11
        refine W_seq (fun K12 hK12 => ?_)
        refine W_region (WL_cons rfl (WX_q rfl rfl (q_move rfl rfl) (WL_cons rfl (WX_q rfl rfl (q_cmp rfl rfl rfl rfl) (?_)))))
        refine WL_nil (hK12 _ ?_)
        clear hK12 K12
        refine W_cond rfl (fun h3 => ?_) (fun h3 => ?_)
        · try rw [h3]
          try simp only [decide_eq_true_eq, decide_eq_false_iff_not, beq_iff_eq, bne_iff_ne, ne_eq, Bool.not_eq_true', Bool.not_eq_false', beq_eq_false_iff_ne, bne_eq_false_iff_eq, Bool.not_eq_true, Bool.not_eq_false, Int.not_lt, Int.not_le, gt_iff_lt, ge_iff_le, Bool.and_eq_true, Bool.and_eq_false_iff, Bool.or_eq_true, Bool.or_eq_false_iff] at h3
          refine W_seq (fun K13 hK13 => ?_)
          refine W_region (WL_cons rfl (WX_q rfl rfl (q_assign rfl rfl) (?_)))
          refine WL_nil (hK13 _ ?_)
          clear hK13 K13
          refine W_ret (fin_one rfl (rc_v ?_))
          all_goals clear hK10 K10 hK6 K6
          all_goals (first | (simp only [szT]; rw [if_pos (by omega)]; done) | (simp only [szT]; rw [if_neg (by omega), if_pos (allN_t hinv.2.1 (by omega))]; have e : i = xs.length := (by omega); subst e; rfl) | (simp only [szT]; rw [if_neg (by omega), if_neg]; rw [allN_f (i := i) (by simp only [decide_eq_false_iff_not]; rw [szN_succ]; split at h3 <;> omega) (by omega)]; simp))
        · try rw [h3]
          try simp only [decide_eq_true_eq, decide_eq_false_iff_not, beq_iff_eq, bne_iff_ne, ne_eq, Bool.not_eq_true', Bool.not_eq_false', beq_eq_false_iff_ne, bne_eq_false_iff_eq, Bool.not_eq_true, Bool.not_eq_false, Int.not_lt, Int.not_le, gt_iff_lt, ge_iff_le, Bool.and_eq_true, Bool.and_eq_false_iff, Bool.or_eq_true, Bool.or_eq_false_iff] at h3
          refine W_skip (hK10 _ ?_)
          clear hK10 K10
          refine W_region (WL_cons rfl (WX_q rfl rfl (q_move rfl rfl) (WL_cons rfl (?_))))
          first | refine WX_q rfl rfl (q_arith rfl rfl rfl rfl (by omega) (by omega)) ?_ | refine WX_q rfl rfl (q_wrap rfl rfl rfl rfl) ?_
          refine WL_cons rfl (WX_q rfl rfl (q_assign rfl rfl) (?_))
          refine WL_nil ⟨(i + 1), ?_, ?_, ⟨⟨_, rfl, by (first | rfl | (rw [szN_succ]; rw [if_neg (by split at h3 <;> omega)]))⟩, rfl, ⟨⟨_, rfl, by (first | rfl | (rw [szN_succ]; rw [if_neg (by split at h3 <;> omega)]))⟩, rfl, trivial⟩⟩, trivial, rfl, rfl, rfl⟩
          · (have hq : 0 ≤ szN xs 1048576 (i + 1) := (by rw [szN_succ]; split at h3 <;> omega)); exact ⟨by omega, upto_succ hinv.2.1 (by simpa using hq), hq, (by rw [szN_succ]; omega)⟩
          · omega
      · try rw [h2]
        try simp only [decide_eq_true_eq, decide_eq_false_iff_not, beq_iff_eq, bne_iff_ne, ne_eq, Bool.not_eq_true', Bool.not_eq_false', beq_eq_false_iff_ne, bne_eq_false_iff_eq, Bool.not_eq_true, Bool.not_eq_false, Int.not_lt, Int.not_le, gt_iff_lt, ge_iff_le, Bool.and_eq_true, Bool.and_eq_false_iff, Bool.or_eq_true, Bool.or_eq_false_iff] at h2
        refine W_exit (hK6 _ ?_)
        clear hK8 K8 hK6 K6
        refine W_seq (fun K14 hK14 => ?_)
        refine W_region (WL_cons rfl (WX_q rfl rfl (q_move rfl rfl) (WL_cons rfl (WX_q rfl rfl (q_assign rfl rfl) (?_)))))
        refine WL_nil (hK14 _ ?_)
        clear hK14 K14
        refine W_ret (fin_one rfl (rc_v ?_))
        all_goals (first | (simp only [szT]; rw [if_pos (by omega)]; done) | (simp only [szT]; rw [if_neg (by omega), if_pos (allN_t hinv.2.1 (by omega))]; have e : i = xs.length := (by omega); subst e; rfl) | (simp only [szT]; rw [if_neg (by omega), if_neg]; rw [allN_f (i := i) (by simp only [decide_eq_false_iff_not]; rw [szN_succ]; split at h3 <;> omega) (by omega)]; simp))

end Go.Proofs.Ytehijimgenicfaa
