/- Texts merged into one: W10, W12, W13. -/
import Derived.Test.YtcnodpipinlpcaaPFnExactRunAbstractC
/- Walks through functions of the program, one contract each (written by gen.py). -/
set_option maxRecDepth 20000
set_option linter.unusedVariables false
set_option linter.unusedSimpArgs false
namespace Go.Proofs.Ytcnodpipinlpcaa
open Go Go.Rf

theorem c_laws_markBoolS (xs : List Bool) (k : Int) (hn : xs.length ≤ 1048576) (hk : 0 ≤ k ∧ k ≤ 1000000000) : CtrM Try.prog 54 [.own 0, .v (.int .i64 k)] [.row 4 1 (xs.map encO)] (.one (.v (.int .i64 (k + (xs.length : Int))))) [some (.row 4 1 ((over (mkO k) xs xs.length).map encO))] := by
  refine CtrM.of (n := 21) (k := 1) G Try.func54 rfl (by kernel_rfl) rfl rfl rfl rfl rfl rfl rfl (fun w0 _ hpin => ?_)
  refine W_seq (fun K1 hK1 => ?_)
  refine W_region (WL_cons rfl (WX_q rfl rfl (q_assign rfl rfl) (?_)))
  refine WL_nil (hK1 _ ?_)
  clear hK1 K1
  refine W_seq (fun K2 hK2 => ?_)
  refine W_seq (fun K3 hK3 => ?_)
  refine W_region (WL_cons rfl (WX_q rfl rfl (q_assign rfl rfl) (?_)))
  refine WL_nil (hK3 _ ?_)
  clear hK3 K3
  refine W_block ?_
  refine W_loopK [0] [] (fun (i : Nat) => [(1, .v (.int .i64 (k + (i : Int)))), (5, .v (.int .i64 (i : Int)))]) (fun (i : Nat) => [(0, some (.row 4 1 ((over (mkO k) xs i).map encO)))]) (fun (i : Nat) => i ≤ xs.length) (fun (i : Nat) => xs.length - i) 0 rfl rfl ?_ ?_ ?_ ?_
  · exact Nat.zero_le _
  · exact ⟨⟨_, rfl, by (first | rfl | (congr 2; omega))⟩, rfl, ⟨⟨_, rfl, by (first | rfl | (congr 2; omega))⟩, rfl, trivial⟩⟩
  · exact ⟨⟨_, rfl, by exact congrArg (Row.row _ _) (by rw [over_zero])⟩, rfl, rfl, trivial⟩
  · intro i hinv
    have hi : i ≤ xs.length := hinv
    simp only [List.cons_append, List.nil_append]
    refine W_seq (fun K4 hK4 => ?_)
    refine W_seq (fun K5 hK5 => ?_)
    refine W_region (WL_cons rfl (WX_q rfl rfl (q_move rfl rfl) (WL_cons rfl (WX_q rfl rfl (q_move rfl rfl) (WL_cons rfl (?_))))))
    first | refine WX_q rfl rfl (q_len' G rfl rfl rfl rfl (by rw [List.length_map, over_len (by omega)])) ?_ | refine WX_q rfl rfl (q_len G rfl rfl rfl rfl) ?_
    refine WL_cons rfl (WX_q rfl rfl (q_cmp rfl rfl rfl rfl) (?_))
    refine WL_nil (hK5 _ ?_)
    clear hK5 K5
    refine W_cond rfl (fun h1 => ?_) (fun h1 => ?_)
    · try rw [h1]
      try simp only [decide_eq_true_eq, decide_eq_false_iff_not, beq_iff_eq, bne_iff_ne, ne_eq, Bool.not_eq_true', Bool.not_eq_false', beq_eq_false_iff_ne, bne_eq_false_iff_eq, Bool.not_eq_true, Bool.not_eq_false, Int.not_lt, Int.not_le, gt_iff_lt, ge_iff_le, Bool.and_eq_true, Bool.and_eq_false_iff, Bool.or_eq_true, Bool.or_eq_false_iff] at h1
      refine W_skip (hK4 _ ?_)
      clear hK4 K4
      refine W_seq (fun K6 hK6 => ?_)
      refine W_block ?_
      refine W_seq (fun K7 hK7 => ?_)
      refine W_region (WL_cons rfl (WX_q rfl rfl (q_move rfl rfl) (WL_cons rfl (WX_q rfl rfl (q_move rfl rfl) (WL_cons rfl (WX_q rfl rfl (q_move rfl rfl) (WL_cons rfl (?_))))))))
      first | refine WX_q rfl rfl (q_rem_pos rfl rfl rfl (by omega) (by omega)) ?_ | refine WX_q rfl rfl (q_rem rfl rfl rfl (by omega)) ?_
      refine WL_cons rfl (WX_q rfl rfl (q_cmp rfl rfl rfl rfl) (WL_cons rfl (?_)))
      first | refine WX_q rfl rfl (q_index_own G rfl rfl rfl rfl rfl (by omega) (by rw [List.length_map, over_len (by omega)]; omega)) ?_ | refine WX_q rfl rfl (q_index_own G rfl rfl rfl rfl rfl (by omega) (by rw [List.length_set, List.length_map, over_len (by omega)]; omega)) ?_ | refine WX_q rfl rfl (q_index_own G rfl rfl rfl rfl rfl (by omega) (by simp only [List.length_set, List.length_map]; rw [over_len (by omega)]; omega)) ?_
      refine WL_cons rfl (?_)
      first | refine WX_store_row G rfl rfl rfl rfl rfl (over_get (by omega)) rfl rfl rfl rfl rfl (Nat.le_of_ble_eq_true rfl) rfl ?_ | refine WX_store_row G rfl rfl rfl rfl rfl (set_get (by rw [List.length_map, over_len (by omega)]; omega)) rfl rfl rfl rfl rfl (Nat.le_of_ble_eq_true rfl) rfl ?_ | refine WX_store_row G rfl rfl rfl rfl rfl (set_get (by simp only [List.length_set, List.length_map]; rw [over_len (by omega)]; omega)) rfl rfl rfl rfl rfl (Nat.le_of_ble_eq_true rfl) rfl ?_
      refine WL_nil (hK7 _ ?_)
      clear hK7 K7
      refine W_region (WL_cons rfl (WX_q rfl rfl (q_move rfl rfl) (WL_cons rfl (?_))))
      first | refine WX_q rfl rfl (q_arith rfl rfl rfl rfl (by omega) (by omega)) ?_ | refine WX_q rfl rfl (q_wrap rfl rfl rfl rfl) ?_
      refine WL_cons rfl (WX_q rfl rfl (q_assign rfl rfl) (?_))
      refine WL_nil (hK6 _ ?_)
      clear hK6 K6
      refine W_region (WL_cons rfl (WX_q rfl rfl (q_move rfl rfl) (WL_cons rfl (?_))))
      first | refine WX_q rfl rfl (q_arith rfl rfl rfl rfl (by omega) (by omega)) ?_ | refine WX_q rfl rfl (q_wrap rfl rfl rfl rfl) ?_
      refine WL_cons rfl (WX_q rfl rfl (q_assign rfl rfl) (?_))
      refine WL_nil ⟨(i + 1), ?_, ?_, ⟨⟨_, rfl, by (first | rfl | (congr 2; omega))⟩, rfl, ⟨⟨_, rfl, by (first | rfl | (congr 2; omega))⟩, rfl, trivial⟩⟩, ⟨⟨_, rfl, by exact congrArg (Row.row _ _) (by (try simp only [List.set_set]); exact over_set (g := mkO k) (f := encO) (by omega))⟩, rfl, rfl, trivial⟩, rfl, rfl, rfl⟩
      · omega
      · omega
    · try rw [h1]
      try simp only [decide_eq_true_eq, decide_eq_false_iff_not, beq_iff_eq, bne_iff_ne, ne_eq, Bool.not_eq_true', Bool.not_eq_false', beq_eq_false_iff_ne, bne_eq_false_iff_eq, Bool.not_eq_true, Bool.not_eq_false, Int.not_lt, Int.not_le, gt_iff_lt, ge_iff_le, Bool.and_eq_true, Bool.and_eq_false_iff, Bool.or_eq_true, Bool.or_eq_false_iff] at h1
      refine W_exit (hK2 _ ?_)
      clear hK4 K4 hK2 K2
      refine W_seq (fun K8 hK8 => ?_)
      refine W_region (WL_cons rfl (WX_q rfl rfl (q_move rfl rfl) (WL_cons rfl (WX_q rfl rfl (q_assign rfl rfl) (?_)))))
      refine WL_nil (hK8 _ ?_)
      clear hK8 K8
      refine W_ret (finm_one rfl (rc_v ?_) rfl (AftOK.stays rfl ?_ rfl AftOK.nil))
      all_goals (
        have e : i = xs.length := (by omega)
        subst e
        first | rfl | (congr 1; omega)
      )

theorem c_laws_heldBoolS (xs : List Bool) (k : Int) (hn : xs.length ≤ 1048576) (hk : 0 ≤ k ∧ k ≤ 1000000000) : Ctr Try.prog 56 [.lst 1 ((over (mkO k) xs xs.length).map encO), .v (.int .i64 k)] (.one (.v (.int .i64 (k + (xs.length : Int))))) := by
  refine Ctr.of (n := 23) G Try.func56 rfl (by kernel_rfl) rfl rfl rfl (fun w0 => ?_)
  refine W_seq (fun K1 hK1 => ?_)
  refine W_region (WL_cons rfl (WX_q rfl rfl (q_assign rfl rfl) (?_)))
  refine WL_nil (hK1 _ ?_)
  clear hK1 K1
  refine W_seq (fun K2 hK2 => ?_)
  refine W_seq (fun K3 hK3 => ?_)
  refine W_region (WL_cons rfl (WX_q rfl rfl (q_assign rfl rfl) (?_)))
  refine WL_nil (hK3 _ ?_)
  clear hK3 K3
  refine W_block ?_
  refine W_loopK [0] [] (fun (i : Nat) => [(1, .v (.int .i64 (k + (i : Int)))), (5, .v (.int .i64 (i : Int)))]) (fun (i : Nat) => []) (fun (i : Nat) => i ≤ xs.length) (fun (i : Nat) => xs.length - i) 0 rfl rfl ?_ ?_ ?_ ?_
  · exact Nat.zero_le _
  · exact ⟨⟨_, rfl, by (first | rfl | (congr 2; omega))⟩, rfl, ⟨⟨_, rfl, by (first | rfl | (congr 2; omega))⟩, rfl, trivial⟩⟩
  · exact trivial
  · intro i hinv
    have hi : i ≤ xs.length := hinv
    simp only [List.cons_append, List.nil_append]
    refine W_seq (fun K4 hK4 => ?_)
    refine W_seq (fun K5 hK5 => ?_)
    refine W_region (WL_cons rfl (WX_q rfl rfl (q_move rfl rfl) (WL_cons rfl (WX_q rfl rfl (q_move rfl rfl) (WL_cons rfl (?_))))))
    first | refine WX_q rfl rfl (q_len' G rfl rfl rfl rfl (by rw [List.length_map, over_lenF])) ?_ | refine WX_q rfl rfl (q_len G rfl rfl rfl rfl) ?_
    refine WL_cons rfl (WX_q rfl rfl (q_cmp rfl rfl rfl rfl) (?_))
    refine WL_nil (hK5 _ ?_)
    clear hK5 K5
    refine W_cond rfl (fun h1 => ?_) (fun h1 => ?_)
    · try rw [h1]
      try simp only [decide_eq_true_eq, decide_eq_false_iff_not, beq_iff_eq, bne_iff_ne, ne_eq, Bool.not_eq_true', Bool.not_eq_false', beq_eq_false_iff_ne, bne_eq_false_iff_eq, Bool.not_eq_true, Bool.not_eq_false, Int.not_lt, Int.not_le, gt_iff_lt, ge_iff_le, Bool.and_eq_true, Bool.and_eq_false_iff, Bool.or_eq_true, Bool.or_eq_false_iff] at h1
      refine W_skip (hK4 _ ?_)
      clear hK4 K4
      refine W_seq (fun K6 hK6 => ?_)
      refine W_block ?_
      refine W_seq (fun K7 hK7 => ?_)
      refine W_seq (fun K8 hK8 => ?_)
      refine W_region (WL_cons rfl (WX_q rfl rfl (q_move rfl rfl) (WL_cons rfl (WX_q rfl rfl (q_move rfl rfl) (WL_cons rfl (?_))))))
      refine WX_q rfl rfl (q_index_lst G rfl rfl rfl rfl (by omega) (over_full (by omega))) ?_
      refine WL_cons rfl (WX_q rfl rfl (q_load_ept G rfl rfl rfl rfl rfl) (WL_cons rfl (WX_q rfl rfl (q_move rfl rfl) (WL_cons rfl (?_)))))
      first | refine WX_q rfl rfl (q_rem_pos rfl rfl rfl (by omega) (by omega)) ?_ | refine WX_q rfl rfl (q_rem rfl rfl rfl (by omega)) ?_
      refine WL_cons rfl (WX_q rfl rfl (q_cmp rfl rfl rfl rfl) (WL_cons rfl (WX_q rfl rfl (q_bne (G 4 _ rfl).1 rfl rfl rfl) (?_))))
      refine WL_nil (hK8 _ ?_)
      clear hK8 K8
      refine W_cond rfl (fun h2 => ?_) (fun h2 => ?_)
      · try rw [h2]
        try simp only [decide_eq_true_eq, decide_eq_false_iff_not, beq_iff_eq, bne_iff_ne, ne_eq, Bool.not_eq_true', Bool.not_eq_false', beq_eq_false_iff_ne, bne_eq_false_iff_eq, Bool.not_eq_true, Bool.not_eq_false, Int.not_lt, Int.not_le, gt_iff_lt, ge_iff_le, Bool.and_eq_true, Bool.and_eq_false_iff, Bool.or_eq_true, Bool.or_eq_false_iff] at h2
        refine W_seq (fun K9 hK9 => ?_)
        refine W_region (WL_cons rfl (WX_q rfl rfl (q_assign rfl rfl) (?_)))
        refine WL_nil (hK9 _ ?_)
        clear hK9 K9
        refine W_ret (fin_one rfl (rc_v ?_))
        all_goals clear hK7 K7 hK6 K6 hK2 K2
        all_goals (first | (have e : i = xs.length := (by omega); subst e; rfl) | (exfalso; omega) | (exfalso; simp_all [mkB, mkI, mkO]; done))
      · try rw [h2]
        try simp only [decide_eq_true_eq, decide_eq_false_iff_not, beq_iff_eq, bne_iff_ne, ne_eq, Bool.not_eq_true', Bool.not_eq_false', beq_eq_false_iff_ne, bne_eq_false_iff_eq, Bool.not_eq_true, Bool.not_eq_false, Int.not_lt, Int.not_le, gt_iff_lt, ge_iff_le, Bool.and_eq_true, Bool.and_eq_false_iff, Bool.or_eq_true, Bool.or_eq_false_iff] at h2
        refine W_skip (hK7 _ ?_)
        clear hK7 K7
        refine W_region (WL_cons rfl (WX_q rfl rfl (q_move rfl rfl) (WL_cons rfl (?_))))
        first | refine WX_q rfl rfl (q_arith rfl rfl rfl rfl (by omega) (by omega)) ?_ | refine WX_q rfl rfl (q_wrap rfl rfl rfl rfl) ?_
        refine WL_cons rfl (WX_q rfl rfl (q_assign rfl rfl) (?_))
        refine WL_nil (hK6 _ ?_)
        clear hK6 K6
        refine W_region (WL_cons rfl (WX_q rfl rfl (q_move rfl rfl) (WL_cons rfl (?_))))
        first | refine WX_q rfl rfl (q_arith rfl rfl rfl rfl (by omega) (by omega)) ?_ | refine WX_q rfl rfl (q_wrap rfl rfl rfl rfl) ?_
        refine WL_cons rfl (WX_q rfl rfl (q_assign rfl rfl) (?_))
        refine WL_nil ⟨(i + 1), ?_, ?_, ⟨⟨_, rfl, by (first | rfl | (congr 2; omega))⟩, rfl, ⟨⟨_, rfl, by (first | rfl | (congr 2; omega))⟩, rfl, trivial⟩⟩, trivial, rfl, rfl, rfl⟩
        · omega
        · omega
    · try rw [h1]
      try simp only [decide_eq_true_eq, decide_eq_false_iff_not, beq_iff_eq, bne_iff_ne, ne_eq, Bool.not_eq_true', Bool.not_eq_false', beq_eq_false_iff_ne, bne_eq_false_iff_eq, Bool.not_eq_true, Bool.not_eq_false, Int.not_lt, Int.not_le, gt_iff_lt, ge_iff_le, Bool.and_eq_true, Bool.and_eq_false_iff, Bool.or_eq_true, Bool.or_eq_false_iff] at h1
      refine W_exit (hK2 _ ?_)
      clear hK4 K4 hK2 K2
      refine W_seq (fun K10 hK10 => ?_)
      refine W_region (WL_cons rfl (WX_q rfl rfl (q_move rfl rfl) (WL_cons rfl (WX_q rfl rfl (q_assign rfl rfl) (?_)))))
      refine WL_nil (hK10 _ ?_)
      clear hK10 K10
      refine W_ret (fin_one rfl (rc_v ?_))
      all_goals (first | (have e : i = xs.length := (by omega); subst e; rfl) | (exfalso; omega) | (exfalso; simp_all [mkB, mkI, mkO]; done))

theorem c_laws_markIntS (xs : List Int) (k : Int) (hn : xs.length ≤ 1048576) (hk : 0 ≤ k ∧ k ≤ 1000000000) : CtrM Try.prog 30 [.own 0, .v (.int .i64 k)] [.row 3 1 (xs.map encI)] (.one (.v (.int .i64 (k + (xs.length : Int))))) [some (.row 3 1 ((over (mkI k) xs xs.length).map encI))] := by
  refine CtrM.of (n := 19) (k := 1) G Try.func30 rfl (by kernel_rfl) rfl rfl rfl rfl rfl rfl rfl (fun w0 _ hpin => ?_)
  refine W_seq (fun K1 hK1 => ?_)
  refine W_region (WL_cons rfl (WX_q rfl rfl (q_assign rfl rfl) (?_)))
  refine WL_nil (hK1 _ ?_)
  clear hK1 K1
  refine W_seq (fun K2 hK2 => ?_)
  refine W_seq (fun K3 hK3 => ?_)
  refine W_region (WL_cons rfl (WX_q rfl rfl (q_assign rfl rfl) (?_)))
  refine WL_nil (hK3 _ ?_)
  clear hK3 K3
  refine W_block ?_
  refine W_loopK [0] [] (fun (i : Nat) => [(1, .v (.int .i64 (k + (i : Int)))), (5, .v (.int .i64 (i : Int)))]) (fun (i : Nat) => [(0, some (.row 3 1 ((over (mkI k) xs i).map encI)))]) (fun (i : Nat) => i ≤ xs.length) (fun (i : Nat) => xs.length - i) 0 rfl rfl ?_ ?_ ?_ ?_
  · exact Nat.zero_le _
  · exact ⟨⟨_, rfl, by (first | rfl | (congr 2; omega))⟩, rfl, ⟨⟨_, rfl, by (first | rfl | (congr 2; omega))⟩, rfl, trivial⟩⟩
  · exact ⟨⟨_, rfl, by exact congrArg (Row.row _ _) (by rw [over_zero])⟩, rfl, rfl, trivial⟩
  · intro i hinv
    have hi : i ≤ xs.length := hinv
    simp only [List.cons_append, List.nil_append]
    refine W_seq (fun K4 hK4 => ?_)
    refine W_seq (fun K5 hK5 => ?_)
    refine W_region (WL_cons rfl (WX_q rfl rfl (q_move rfl rfl) (WL_cons rfl (WX_q rfl rfl (q_move rfl rfl) (WL_cons rfl (?_))))))
    first | refine WX_q rfl rfl (q_len' G rfl rfl rfl rfl (by rw [List.length_map, over_len (by omega)])) ?_ | refine WX_q rfl rfl (q_len G rfl rfl rfl rfl) ?_
    refine WL_cons rfl (WX_q rfl rfl (q_cmp rfl rfl rfl rfl) (?_))
    refine WL_nil (hK5 _ ?_)
    clear hK5 K5
    refine W_cond rfl (fun h1 => ?_) (fun h1 => ?_)
    · try rw [h1]
      try simp only [decide_eq_true_eq, decide_eq_false_iff_not, beq_iff_eq, bne_iff_ne, ne_eq, Bool.not_eq_true', Bool.not_eq_false', beq_eq_false_iff_ne, bne_eq_false_iff_eq, Bool.not_eq_true, Bool.not_eq_false, Int.not_lt, Int.not_le, gt_iff_lt, ge_iff_le, Bool.and_eq_true, Bool.and_eq_false_iff, Bool.or_eq_true, Bool.or_eq_false_iff] at h1
      refine W_skip (hK4 _ ?_)
      clear hK4 K4
      refine W_seq (fun K6 hK6 => ?_)
      refine W_block ?_
      refine W_seq (fun K7 hK7 => ?_)
      refine W_region (WL_cons rfl (WX_q rfl rfl (q_move rfl rfl) (WL_cons rfl (WX_q rfl rfl (q_move rfl rfl) (WL_cons rfl (WX_q rfl rfl (q_move rfl rfl) (WL_cons rfl (?_))))))))
      first | refine WX_q rfl rfl (q_index_own G rfl rfl rfl rfl rfl (by omega) (by rw [List.length_map, over_len (by omega)]; omega)) ?_ | refine WX_q rfl rfl (q_index_own G rfl rfl rfl rfl rfl (by omega) (by rw [List.length_set, List.length_map, over_len (by omega)]; omega)) ?_ | refine WX_q rfl rfl (q_index_own G rfl rfl rfl rfl rfl (by omega) (by simp only [List.length_set, List.length_map]; rw [over_len (by omega)]; omega)) ?_
      refine WL_cons rfl (?_)
      first | refine WX_store_row G rfl rfl rfl rfl rfl (over_get (by omega)) rfl rfl rfl rfl rfl (Nat.le_of_ble_eq_true rfl) rfl ?_ | refine WX_store_row G rfl rfl rfl rfl rfl (set_get (by rw [List.length_map, over_len (by omega)]; omega)) rfl rfl rfl rfl rfl (Nat.le_of_ble_eq_true rfl) rfl ?_ | refine WX_store_row G rfl rfl rfl rfl rfl (set_get (by simp only [List.length_set, List.length_map]; rw [over_len (by omega)]; omega)) rfl rfl rfl rfl rfl (Nat.le_of_ble_eq_true rfl) rfl ?_
      refine WL_nil (hK7 _ ?_)
      clear hK7 K7
      refine W_region (WL_cons rfl (WX_q rfl rfl (q_move rfl rfl) (WL_cons rfl (?_))))
      first | refine WX_q rfl rfl (q_arith rfl rfl rfl rfl (by omega) (by omega)) ?_ | refine WX_q rfl rfl (q_wrap rfl rfl rfl rfl) ?_
      refine WL_cons rfl (WX_q rfl rfl (q_assign rfl rfl) (?_))
      refine WL_nil (hK6 _ ?_)
      clear hK6 K6
      refine W_region (WL_cons rfl (WX_q rfl rfl (q_move rfl rfl) (WL_cons rfl (?_))))
      first | refine WX_q rfl rfl (q_arith rfl rfl rfl rfl (by omega) (by omega)) ?_ | refine WX_q rfl rfl (q_wrap rfl rfl rfl rfl) ?_
      refine WL_cons rfl (WX_q rfl rfl (q_assign rfl rfl) (?_))
      refine WL_nil ⟨(i + 1), ?_, ?_, ⟨⟨_, rfl, by (first | rfl | (congr 2; omega))⟩, rfl, ⟨⟨_, rfl, by (first | rfl | (congr 2; omega))⟩, rfl, trivial⟩⟩, ⟨⟨_, rfl, by exact congrArg (Row.row _ _) (by (try simp only [List.set_set]); exact over_set (g := mkI k) (f := encI) (by omega))⟩, rfl, rfl, trivial⟩, rfl, rfl, rfl⟩
      · omega
      · omega
    · try rw [h1]
      try simp only [decide_eq_true_eq, decide_eq_false_iff_not, beq_iff_eq, bne_iff_ne, ne_eq, Bool.not_eq_true', Bool.not_eq_false', beq_eq_false_iff_ne, bne_eq_false_iff_eq, Bool.not_eq_true, Bool.not_eq_false, Int.not_lt, Int.not_le, gt_iff_lt, ge_iff_le, Bool.and_eq_true, Bool.and_eq_false_iff, Bool.or_eq_true, Bool.or_eq_false_iff] at h1
      refine W_exit (hK2 _ ?_)
      clear hK4 K4 hK2 K2
      refine W_seq (fun K8 hK8 => ?_)
      refine W_region (WL_cons rfl (WX_q rfl rfl (q_move rfl rfl) (WL_cons rfl (WX_q rfl rfl (q_assign rfl rfl) (?_)))))
      refine WL_nil (hK8 _ ?_)
      clear hK8 K8
      refine W_ret (finm_one rfl (rc_v ?_) rfl (AftOK.stays rfl ?_ rfl AftOK.nil))
      all_goals (
        have e : i = xs.length := (by omega)
        subst e
        first | rfl | (congr 1; omega)
      )

theorem c_laws_heldIntS (xs : List Int) (k : Int) (hn : xs.length ≤ 1048576) (hk : 0 ≤ k ∧ k ≤ 1000000000) : Ctr Try.prog 31 [.lst 1 ((over (mkI k) xs xs.length).map encI), .v (.int .i64 k)] (.one (.v (.int .i64 (k + (xs.length : Int))))) := by
  refine Ctr.of (n := 21) G Try.func31 rfl (by kernel_rfl) rfl rfl rfl (fun w0 => ?_)
  refine W_seq (fun K1 hK1 => ?_)
  refine W_region (WL_cons rfl (WX_q rfl rfl (q_assign rfl rfl) (?_)))
  refine WL_nil (hK1 _ ?_)
  clear hK1 K1
  refine W_seq (fun K2 hK2 => ?_)
  refine W_seq (fun K3 hK3 => ?_)
  refine W_region (WL_cons rfl (WX_q rfl rfl (q_assign rfl rfl) (?_)))
  refine WL_nil (hK3 _ ?_)
  clear hK3 K3
  refine W_block ?_
  refine W_loopK [0] [] (fun (i : Nat) => [(1, .v (.int .i64 (k + (i : Int)))), (5, .v (.int .i64 (i : Int)))]) (fun (i : Nat) => []) (fun (i : Nat) => i ≤ xs.length) (fun (i : Nat) => xs.length - i) 0 rfl rfl ?_ ?_ ?_ ?_
  · exact Nat.zero_le _
  · exact ⟨⟨_, rfl, by (first | rfl | (congr 2; omega))⟩, rfl, ⟨⟨_, rfl, by (first | rfl | (congr 2; omega))⟩, rfl, trivial⟩⟩
  · exact trivial
  · intro i hinv
    have hi : i ≤ xs.length := hinv
    simp only [List.cons_append, List.nil_append]
    refine W_seq (fun K4 hK4 => ?_)
    refine W_seq (fun K5 hK5 => ?_)
    refine W_region (WL_cons rfl (WX_q rfl rfl (q_move rfl rfl) (WL_cons rfl (WX_q rfl rfl (q_move rfl rfl) (WL_cons rfl (?_))))))
    first | refine WX_q rfl rfl (q_len' G rfl rfl rfl rfl (by rw [List.length_map, over_lenF])) ?_ | refine WX_q rfl rfl (q_len G rfl rfl rfl rfl) ?_
    refine WL_cons rfl (WX_q rfl rfl (q_cmp rfl rfl rfl rfl) (?_))
    refine WL_nil (hK5 _ ?_)
    clear hK5 K5
    refine W_cond rfl (fun h1 => ?_) (fun h1 => ?_)
    · try rw [h1]
      try simp only [decide_eq_true_eq, decide_eq_false_iff_not, beq_iff_eq, bne_iff_ne, ne_eq, Bool.not_eq_true', Bool.not_eq_false', beq_eq_false_iff_ne, bne_eq_false_iff_eq, Bool.not_eq_true, Bool.not_eq_false, Int.not_lt, Int.not_le, gt_iff_lt, ge_iff_le, Bool.and_eq_true, Bool.and_eq_false_iff, Bool.or_eq_true, Bool.or_eq_false_iff] at h1
      refine W_skip (hK4 _ ?_)
      clear hK4 K4
      refine W_seq (fun K6 hK6 => ?_)
      refine W_block ?_
      refine W_seq (fun K7 hK7 => ?_)
      refine W_seq (fun K8 hK8 => ?_)
      refine W_region (WL_cons rfl (WX_q rfl rfl (q_move rfl rfl) (WL_cons rfl (WX_q rfl rfl (q_move rfl rfl) (WL_cons rfl (?_))))))
      refine WX_q rfl rfl (q_index_lst G rfl rfl rfl rfl (by omega) (over_full (by omega))) ?_
      refine WL_cons rfl (WX_q rfl rfl (q_load_ept G rfl rfl rfl rfl rfl) (WL_cons rfl (WX_q rfl rfl (q_move rfl rfl) (WL_cons rfl (WX_q rfl rfl (q_cmp rfl rfl rfl rfl) (?_))))))
      refine WL_nil (hK8 _ ?_)
      clear hK8 K8
      refine W_cond rfl (fun h2 => ?_) (fun h2 => ?_)
      · try rw [h2]
        try simp only [decide_eq_true_eq, decide_eq_false_iff_not, beq_iff_eq, bne_iff_ne, ne_eq, Bool.not_eq_true', Bool.not_eq_false', beq_eq_false_iff_ne, bne_eq_false_iff_eq, Bool.not_eq_true, Bool.not_eq_false, Int.not_lt, Int.not_le, gt_iff_lt, ge_iff_le, Bool.and_eq_true, Bool.and_eq_false_iff, Bool.or_eq_true, Bool.or_eq_false_iff] at h2
        refine W_seq (fun K9 hK9 => ?_)
        refine W_region (WL_cons rfl (WX_q rfl rfl (q_assign rfl rfl) (?_)))
        refine WL_nil (hK9 _ ?_)
        clear hK9 K9
        refine W_ret (fin_one rfl (rc_v ?_))
        all_goals clear hK7 K7 hK6 K6 hK2 K2
        all_goals (first | (have e : i = xs.length := (by omega); subst e; rfl) | (exfalso; omega) | (exfalso; simp_all [mkB, mkI, mkO]; done))
      · try rw [h2]
        try simp only [decide_eq_true_eq, decide_eq_false_iff_not, beq_iff_eq, bne_iff_ne, ne_eq, Bool.not_eq_true', Bool.not_eq_false', beq_eq_false_iff_ne, bne_eq_false_iff_eq, Bool.not_eq_true, Bool.not_eq_false, Int.not_lt, Int.not_le, gt_iff_lt, ge_iff_le, Bool.and_eq_true, Bool.and_eq_false_iff, Bool.or_eq_true, Bool.or_eq_false_iff] at h2
        refine W_skip (hK7 _ ?_)
        clear hK7 K7
        refine W_region (WL_cons rfl (WX_q rfl rfl (q_move rfl rfl) (WL_cons rfl (?_))))
        first | refine WX_q rfl rfl (q_arith rfl rfl rfl rfl (by omega) (by omega)) ?_ | refine WX_q rfl rfl (q_wrap rfl rfl rfl rfl) ?_
        refine WL_cons rfl (WX_q rfl rfl (q_assign rfl rfl) (?_))
        refine WL_nil (hK6 _ ?_)
        clear hK6 K6
        refine W_region (WL_cons rfl (WX_q rfl rfl (q_move rfl rfl) (WL_cons rfl (?_))))
        first | refine WX_q rfl rfl (q_arith rfl rfl rfl rfl (by omega) (by omega)) ?_ | refine WX_q rfl rfl (q_wrap rfl rfl rfl rfl) ?_
        refine WL_cons rfl (WX_q rfl rfl (q_assign rfl rfl) (?_))
        refine WL_nil ⟨(i + 1), ?_, ?_, ⟨⟨_, rfl, by (first | rfl | (congr 2; omega))⟩, rfl, ⟨⟨_, rfl, by (first | rfl | (congr 2; omega))⟩, rfl, trivial⟩⟩, trivial, rfl, rfl, rfl⟩
        · omega
        · omega
    · try rw [h1]
      try simp only [decide_eq_true_eq, decide_eq_false_iff_not, beq_iff_eq, bne_iff_ne, ne_eq, Bool.not_eq_true', Bool.not_eq_false', beq_eq_false_iff_ne, bne_eq_false_iff_eq, Bool.not_eq_true, Bool.not_eq_false, Int.not_lt, Int.not_le, gt_iff_lt, ge_iff_le, Bool.and_eq_true, Bool.and_eq_false_iff, Bool.or_eq_true, Bool.or_eq_false_iff] at h1
      refine W_exit (hK2 _ ?_)
      clear hK4 K4 hK2 K2
      refine W_seq (fun K10 hK10 => ?_)
      refine W_region (WL_cons rfl (WX_q rfl rfl (q_move rfl rfl) (WL_cons rfl (WX_q rfl rfl (q_assign rfl rfl) (?_)))))
      refine WL_nil (hK10 _ ?_)
      clear hK10 K10
      refine W_ret (fin_one rfl (rc_v ?_))
      all_goals (first | (have e : i = xs.length := (by omega); subst e; rfl) | (exfalso; omega) | (exfalso; simp_all [mkB, mkI, mkO]; done))

theorem c_laws_markRouteS (xs : List Route) (hn : xs.length ≤ 1048576) : CtrM Try.prog 20 [.own 0, .v (.int .i64 1)] [.row 64 2 (xs.map encRo)] (.one (.v (.int .i64 (1 + 2 * (xs.length : Int))))) [some (.row 64 2 ((over (mkRo 1) xs xs.length).map encRo))] := by
  refine CtrM.of (n := 27) (k := 1) G Try.func20 rfl (by kernel_rfl) rfl rfl rfl rfl rfl rfl rfl (fun w0 _ hpin => ?_)
  refine W_seq (fun K1 hK1 => ?_)
  refine W_region (WL_cons rfl (WX_q rfl rfl (q_assign rfl rfl) (?_)))
  refine WL_nil (hK1 _ ?_)
  clear hK1 K1
  refine W_seq (fun K2 hK2 => ?_)
  refine W_seq (fun K3 hK3 => ?_)
  refine W_region (WL_cons rfl (WX_q rfl rfl (q_assign rfl rfl) (?_)))
  refine WL_nil (hK3 _ ?_)
  clear hK3 K3
  refine W_block ?_
  refine W_loopK [0] [] (fun (i : Nat) => [(1, .v (.int .i64 (1 + 2 * (i : Int)))), (5, .v (.int .i64 (i : Int)))]) (fun (i : Nat) => [(0, some (.row 64 2 ((over (mkRo 1) xs i).map encRo)))]) (fun (i : Nat) => i ≤ xs.length) (fun (i : Nat) => xs.length - i) 0 rfl rfl ?_ ?_ ?_ ?_
  · exact Nat.zero_le _
  · exact ⟨⟨_, rfl, by rfl⟩, rfl, ⟨⟨_, rfl, by rfl⟩, rfl, trivial⟩⟩
  · exact ⟨⟨_, rfl, by exact congrArg (Row.row _ _) (by rw [over_zero])⟩, rfl, rfl, trivial⟩
  · intro i hinv
    have hi : i ≤ xs.length := hinv
    simp only [List.cons_append, List.nil_append]
    refine W_seq (fun K4 hK4 => ?_)
    refine W_seq (fun K5 hK5 => ?_)
    refine W_region (WL_cons rfl (WX_q rfl rfl (q_move rfl rfl) (WL_cons rfl (WX_q rfl rfl (q_move rfl rfl) (WL_cons rfl (?_))))))
    first | refine WX_q rfl rfl (q_len' G rfl rfl rfl rfl (by rw [List.length_map, over_len (by omega)])) ?_ | refine WX_q rfl rfl (q_len G rfl rfl rfl rfl) ?_
    refine WL_cons rfl (WX_q rfl rfl (q_cmp rfl rfl rfl rfl) (?_))
    refine WL_nil (hK5 _ ?_)
    clear hK5 K5
    refine W_cond rfl (fun h1 => ?_) (fun h1 => ?_)
    · try rw [h1]
      try simp only [decide_eq_true_eq, decide_eq_false_iff_not, beq_iff_eq, bne_iff_ne, ne_eq, Bool.not_eq_true', Bool.not_eq_false', beq_eq_false_iff_ne, bne_eq_false_iff_eq, Bool.not_eq_true, Bool.not_eq_false, Int.not_lt, Int.not_le, gt_iff_lt, ge_iff_le, Bool.and_eq_true, Bool.and_eq_false_iff, Bool.or_eq_true, Bool.or_eq_false_iff] at h1
      refine W_skip (hK4 _ ?_)
      clear hK4 K4
      refine W_seq (fun K6 hK6 => ?_)
      refine W_block ?_
      refine W_seq (fun K7 hK7 => ?_)
      refine W_region (WL_cons rfl (WX_q rfl rfl (q_move rfl rfl) (WL_cons rfl (WX_q rfl rfl (q_move rfl rfl) (WL_cons rfl (WX_q rfl rfl (q_move rfl rfl) (WL_cons rfl (?_))))))))
      first | refine WX_q rfl rfl (q_index_own G rfl rfl rfl rfl rfl (by omega) (by rw [List.length_map, over_len (by omega)]; omega)) ?_ | refine WX_q rfl rfl (q_index_own G rfl rfl rfl rfl rfl (by omega) (by rw [List.length_set, List.length_map, over_len (by omega)]; omega)) ?_ | refine WX_q rfl rfl (q_index_own G rfl rfl rfl rfl rfl (by omega) (by simp only [List.length_set, List.length_map]; rw [over_len (by omega)]; omega)) ?_
      refine WL_cons rfl (WX_q rfl rfl (q_field_rpt G rfl rfl rfl rfl) (WL_cons rfl (?_)))
      first | refine WX_store_row G rfl rfl rfl rfl rfl (over_get (by omega)) rfl rfl rfl rfl rfl (Nat.le_of_ble_eq_true rfl) rfl ?_ | refine WX_store_row G rfl rfl rfl rfl rfl (set_get (by rw [List.length_map, over_len (by omega)]; omega)) rfl rfl rfl rfl rfl (Nat.le_of_ble_eq_true rfl) rfl ?_ | refine WX_store_row G rfl rfl rfl rfl rfl (set_get (by simp only [List.length_set, List.length_map]; rw [over_len (by omega)]; omega)) rfl rfl rfl rfl rfl (Nat.le_of_ble_eq_true rfl) rfl ?_
      refine WL_nil (hK7 _ ?_)
      clear hK7 K7
      refine W_seq (fun K8 hK8 => ?_)
      refine W_region (WL_cons rfl (WX_q rfl rfl (q_move rfl rfl) (WL_cons rfl (?_))))
      first | refine WX_q rfl rfl (q_arith rfl rfl rfl rfl (by omega) (by omega)) ?_ | refine WX_q rfl rfl (q_wrap rfl rfl rfl rfl) ?_
      refine WL_cons rfl (WX_q rfl rfl (q_assign rfl rfl) (?_))
      refine WL_nil (hK8 _ ?_)
      clear hK8 K8
      refine W_seq (fun K9 hK9 => ?_)
      refine W_region (WL_cons rfl (WX_q rfl rfl (q_move rfl rfl) (WL_cons rfl (WX_q rfl rfl (q_move rfl rfl) (WL_cons rfl (WX_q rfl rfl (q_move rfl rfl) (WL_cons rfl (?_))))))))
      first | refine WX_q rfl rfl (q_index_own G rfl rfl rfl rfl rfl (by omega) (by rw [List.length_map, over_len (by omega)]; omega)) ?_ | refine WX_q rfl rfl (q_index_own G rfl rfl rfl rfl rfl (by omega) (by rw [List.length_set, List.length_map, over_len (by omega)]; omega)) ?_ | refine WX_q rfl rfl (q_index_own G rfl rfl rfl rfl rfl (by omega) (by simp only [List.length_set, List.length_map]; rw [over_len (by omega)]; omega)) ?_
      refine WL_cons rfl (WX_q rfl rfl (q_field_rpt G rfl rfl rfl rfl) (WL_cons rfl (?_)))
      first | refine WX_store_row G rfl rfl rfl rfl rfl (over_get (by omega)) rfl rfl rfl rfl rfl (Nat.le_of_ble_eq_true rfl) rfl ?_ | refine WX_store_row G rfl rfl rfl rfl rfl (set_get (by rw [List.length_map, over_len (by omega)]; omega)) rfl rfl rfl rfl rfl (Nat.le_of_ble_eq_true rfl) rfl ?_ | refine WX_store_row G rfl rfl rfl rfl rfl (set_get (by simp only [List.length_set, List.length_map]; rw [over_len (by omega)]; omega)) rfl rfl rfl rfl rfl (Nat.le_of_ble_eq_true rfl) rfl ?_
      refine WL_nil (hK9 _ ?_)
      clear hK9 K9
      refine W_region (WL_cons rfl (WX_q rfl rfl (q_move rfl rfl) (WL_cons rfl (?_))))
      first | refine WX_q rfl rfl (q_arith rfl rfl rfl rfl (by omega) (by omega)) ?_ | refine WX_q rfl rfl (q_wrap rfl rfl rfl rfl) ?_
      refine WL_cons rfl (WX_q rfl rfl (q_assign rfl rfl) (?_))
      refine WL_nil (hK6 _ ?_)
      clear hK6 K6
      refine W_region (WL_cons rfl (WX_q rfl rfl (q_move rfl rfl) (WL_cons rfl (?_))))
      first | refine WX_q rfl rfl (q_arith rfl rfl rfl rfl (by omega) (by omega)) ?_ | refine WX_q rfl rfl (q_wrap rfl rfl rfl rfl) ?_
      refine WL_cons rfl (WX_q rfl rfl (q_assign rfl rfl) (?_))
      refine WL_nil ⟨(i + 1), ?_, ?_, ⟨⟨_, rfl, by (first | rfl | (congr 2; omega))⟩, rfl, ⟨⟨_, rfl, by (first | rfl | (congr 2; omega))⟩, rfl, trivial⟩⟩, ⟨⟨_, rfl, by exact congrArg (Row.row _ _) (by (try simp only [List.set_set]); exact over_set (g := mkRo 1) (f := encRo) (by omega))⟩, rfl, rfl, trivial⟩, rfl, rfl, rfl⟩
      · omega
      · omega
    · try rw [h1]
      try simp only [decide_eq_true_eq, decide_eq_false_iff_not, beq_iff_eq, bne_iff_ne, ne_eq, Bool.not_eq_true', Bool.not_eq_false', beq_eq_false_iff_ne, bne_eq_false_iff_eq, Bool.not_eq_true, Bool.not_eq_false, Int.not_lt, Int.not_le, gt_iff_lt, ge_iff_le, Bool.and_eq_true, Bool.and_eq_false_iff, Bool.or_eq_true, Bool.or_eq_false_iff] at h1
      refine W_exit (hK2 _ ?_)
      clear hK4 K4 hK2 K2
      refine W_seq (fun K10 hK10 => ?_)
      refine W_region (WL_cons rfl (WX_q rfl rfl (q_move rfl rfl) (WL_cons rfl (WX_q rfl rfl (q_assign rfl rfl) (?_)))))
      refine WL_nil (hK10 _ ?_)
      clear hK10 K10
      refine W_ret (finm_one rfl (rc_v ?_) rfl (AftOK.stays rfl ?_ rfl AftOK.nil))
      all_goals (
        have e : i = xs.length := (by omega)
        subst e
        first | rfl | (congr 1; omega)
      )

theorem c_laws_markIntSS (xss : List (List Int)) (k : Int) (hn : xss.length ≤ 1048576) (hz : ∀ i, i < xss.length → (xss.getD i default).length ≤ 1048576) (hs : lenN xss xss.length ≤ 1048576) (hk : 0 ≤ k ∧ k ≤ 100000000) : CtrM Try.prog 55 [.own 0, .v (.int .i64 k)] [.nest 24 1 (xss.map encSt) []] (.one (.v (.int .i64 (k + lenN xss xss.length)))) [some (.nest 24 1 ((mkSS k xss xss.length).map encSt) [])] := by
  refine CtrM.of (n := 19) (k := 1) G Try.func55 rfl (by kernel_rfl) rfl rfl rfl rfl rfl rfl rfl (fun w0 _ hpin => ?_)
  refine W_seq (fun K1 hK1 => ?_)
  refine W_region (WL_cons rfl (WX_q rfl rfl (q_assign rfl rfl) (?_)))
  refine WL_nil (hK1 _ ?_)
  clear hK1 K1
  refine W_seq (fun K2 hK2 => ?_)
  refine W_seq (fun K3 hK3 => ?_)
  refine W_region (WL_cons rfl (WX_q rfl rfl (q_assign rfl rfl) (?_)))
  refine WL_nil (hK3 _ ?_)
  clear hK3 K3
  refine W_block ?_
  refine W_loopK [0] [] (fun (i : Nat) => [(1, .v (.int .i64 (k + lenN xss i))), (5, .v (.int .i64 (i : Int)))]) (fun (i : Nat) => [(0, some (.nest 24 1 ((mkSS k xss i).map encSt) []))]) (fun (i : Nat) => i ≤ xss.length) (fun (i : Nat) => xss.length - i) 0 rfl rfl ?_ ?_ ?_ ?_
  · exact Nat.zero_le _
  · exact ⟨⟨_, rfl, by (first | rfl | (simp only [lenN]; congr 2; omega))⟩, rfl, ⟨⟨_, rfl, by (first | rfl | (simp only [lenN]; congr 2; omega))⟩, rfl, trivial⟩⟩
  · exact ⟨⟨_, rfl, by rfl⟩, rfl, rfl, trivial⟩
  · intro i hinv
    have hl1 := @mkSS_len k xss i
    have hi : i ≤ xss.length := hinv
    have hl2 := @lenN_nn xss i
    have hl3 := lenN_mono (xss := xss) hi
    have hl4 := @lenN_nn xss xss.length
    simp only [List.cons_append, List.nil_append]
    refine W_seq (fun K4 hK4 => ?_)
    refine W_seq (fun K5 hK5 => ?_)
    refine W_region (WL_cons rfl (WX_q rfl rfl (q_move rfl rfl) (WL_cons rfl (WX_q rfl rfl (q_move rfl rfl) (WL_cons rfl (?_))))))
    first | refine WX_q rfl rfl (q_len' G rfl rfl rfl rfl (by rw [List.length_map, mkSS_len])) ?_ | refine WX_q rfl rfl (q_len G rfl rfl rfl rfl) ?_
    refine WL_cons rfl (WX_q rfl rfl (q_cmp rfl rfl rfl rfl) (?_))
    refine WL_nil (hK5 _ ?_)
    clear hK5 K5
    refine W_cond rfl (fun h1 => ?_) (fun h1 => ?_)
    · try rw [h1]
      try simp only [decide_eq_true_eq, decide_eq_false_iff_not, beq_iff_eq, bne_iff_ne, ne_eq, Bool.not_eq_true', Bool.not_eq_false', beq_eq_false_iff_ne, bne_eq_false_iff_eq, Bool.not_eq_true, Bool.not_eq_false, Int.not_lt, Int.not_le, gt_iff_lt, ge_iff_le, Bool.and_eq_true, Bool.and_eq_false_iff, Bool.or_eq_true, Bool.or_eq_false_iff] at h1
      refine W_skip (hK4 _ ?_)
      clear hK4 K4
      refine W_seq (fun K6 hK6 => ?_)
      refine W_block ?_
      refine W_gh (Gh.open (id := 0) (i := i) (k := 0) 2 rfl rfl (mkSS_open (by omega)) rfl rfl) ?_
      refine W_region (WL_cons rfl (WX_q rfl rfl (q_move rfl rfl) (WL_cons rfl (WX_q rfl rfl (q_move rfl rfl) (WL_cons rfl (?_))))))
      first | refine WX_q rfl rfl (q_index_nest G rfl rfl rfl rfl rfl (by omega) (by rw [List.length_set, List.length_map, mkSS_len]; omega)) ?_ | refine WX_q rfl rfl (q_index_nest G rfl rfl rfl rfl rfl (by omega) (by rw [List.length_map, mkSS_len]; omega)) ?_
      refine WL_cons rfl (?_)
      refine WX_q rfl rfl (q_load_nest G rfl rfl rfl rfl rfl (nget_some.2 ⟨_, (setX (mkSS_maplen (by omega)) rfl), rfl⟩) (.own (by first | exact List.Mem.head _ | simp) .nil)) ?_
      refine WL_cons rfl (WX_q rfl rfl (q_move rfl rfl) (WL_cons rfl (?_)))
      refine WX_callm 2 [1] rfl rfl rfl (c_laws_markIntS (xss.getD i default) (k + lenN xss i) (hz i (by omega)) (by omega)) rfl (RowsIn.cons rfl RowsIn.nil) rfl rfl rfl ?_
      refine WL_cons rfl (WX_q rfl rfl (q_assign rfl rfl) (?_))
      refine WL_nil (hK6 _ ?_)
      clear hK6 K6
      refine W_gh (Gh.close (id := 0) (id' := 1) (i := i) (k := 0) rfl rfl (setX (mkSS_maplen (by omega)) rfl) (fun q h => by cases h) rfl) ?_
      refine W_region (WL_cons rfl (WX_q rfl rfl (q_move rfl rfl) (WL_cons rfl (?_))))
      first | refine WX_q rfl rfl (q_arith rfl rfl rfl rfl (by omega) (by omega)) ?_ | refine WX_q rfl rfl (q_wrap rfl rfl rfl rfl) ?_
      refine WL_cons rfl (WX_q rfl rfl (q_assign rfl rfl) (?_))
      refine WL_nil ⟨(i + 1), ?_, ?_, ⟨⟨_, rfl, by (first | rfl | (rw [lenN_succ]; congr 2; omega))⟩, rfl, ⟨⟨_, rfl, by (first | rfl | (rw [lenN_succ]; congr 2; omega))⟩, rfl, trivial⟩⟩, ⟨⟨_, rfl, by (rw [mkSS_succ]; exact congrArg (fun z => Row.nest _ _ z []) (stSet rfl rfl))⟩, rfl, rfl, trivial⟩, rfl, rfl, rfl⟩
      · omega
      · omega
    · try rw [h1]
      try simp only [decide_eq_true_eq, decide_eq_false_iff_not, beq_iff_eq, bne_iff_ne, ne_eq, Bool.not_eq_true', Bool.not_eq_false', beq_eq_false_iff_ne, bne_eq_false_iff_eq, Bool.not_eq_true, Bool.not_eq_false, Int.not_lt, Int.not_le, gt_iff_lt, ge_iff_le, Bool.and_eq_true, Bool.and_eq_false_iff, Bool.or_eq_true, Bool.or_eq_false_iff] at h1
      refine W_exit (hK2 _ ?_)
      clear hK4 K4 hK2 K2
      refine W_seq (fun K7 hK7 => ?_)
      refine W_region (WL_cons rfl (WX_q rfl rfl (q_move rfl rfl) (WL_cons rfl (WX_q rfl rfl (q_assign rfl rfl) (?_)))))
      refine WL_nil (hK7 _ ?_)
      clear hK7 K7
      refine W_ret (finm_one rfl (rc_v ?_) rfl (AftOK.stays rfl ?_ rfl AftOK.nil))
      all_goals (
        have e : i = xss.length := (by omega)
        subst e
        first | rfl | (congr 1; omega)
      )

theorem c_laws_heldIntSS (xss : List (List Int)) (k : Int) (hn : xss.length ≤ 1048576) (hz : ∀ i, i < xss.length → (xss.getD i default).length ≤ 1048576) (hs : lenN xss xss.length ≤ 1048576) (hk : 0 ≤ k ∧ k ≤ 100000000) : Ctr Try.prog 57 [.nst none 1 ((mkSS k xss xss.length).map encSt), .v (.int .i64 k)] (.one (.v (.int .i64 (k + lenN xss xss.length)))) := by
  refine Ctr.of (n := 21) G Try.func57 rfl (by kernel_rfl) rfl rfl rfl (fun w0 => ?_)
  refine W_seq (fun K1 hK1 => ?_)
  refine W_region (WL_cons rfl (WX_q rfl rfl (q_assign rfl rfl) (?_)))
  refine WL_nil (hK1 _ ?_)
  clear hK1 K1
  refine W_seq (fun K2 hK2 => ?_)
  refine W_seq (fun K3 hK3 => ?_)
  refine W_region (WL_cons rfl (WX_q rfl rfl (q_assign rfl rfl) (?_)))
  refine WL_nil (hK3 _ ?_)
  clear hK3 K3
  refine W_block ?_
  refine W_loopK [0] [] (fun (i : Nat) => [(1, .v (.int .i64 (k + lenN xss i))), (5, .v (.int .i64 (i : Int)))]) (fun (i : Nat) => []) (fun (i : Nat) => i ≤ xss.length) (fun (i : Nat) => xss.length - i) 0 rfl rfl ?_ ?_ ?_ ?_
  · exact Nat.zero_le _
  · exact ⟨⟨_, rfl, by (first | rfl | (simp only [lenN]; congr 2; omega))⟩, rfl, ⟨⟨_, rfl, by (first | rfl | (simp only [lenN]; congr 2; omega))⟩, rfl, trivial⟩⟩
  · exact trivial
  · intro i hinv
    have hl1 := @mkSS_len k xss i
    have hi : i ≤ xss.length := hinv
    have hl2 := @lenN_nn xss i
    have hl3 := lenN_mono (xss := xss) hi
    have hl4 := @lenN_nn xss xss.length
    simp only [List.cons_append, List.nil_append]
    refine W_seq (fun K4 hK4 => ?_)
    refine W_seq (fun K5 hK5 => ?_)
    refine W_region (WL_cons rfl (WX_q rfl rfl (q_move rfl rfl) (WL_cons rfl (WX_q rfl rfl (q_move rfl rfl) (WL_cons rfl (?_))))))
    first | refine WX_q rfl rfl (q_len' G rfl rfl rfl rfl (by rw [List.length_map, mkSS_len])) ?_ | refine WX_q rfl rfl (q_len G rfl rfl rfl rfl) ?_
    refine WL_cons rfl (WX_q rfl rfl (q_cmp rfl rfl rfl rfl) (?_))
    refine WL_nil (hK5 _ ?_)
    clear hK5 K5
    refine W_cond rfl (fun h1 => ?_) (fun h1 => ?_)
    · try rw [h1]
      try simp only [decide_eq_true_eq, decide_eq_false_iff_not, beq_iff_eq, bne_iff_ne, ne_eq, Bool.not_eq_true', Bool.not_eq_false', beq_eq_false_iff_ne, bne_eq_false_iff_eq, Bool.not_eq_true, Bool.not_eq_false, Int.not_lt, Int.not_le, gt_iff_lt, ge_iff_le, Bool.and_eq_true, Bool.and_eq_false_iff, Bool.or_eq_true, Bool.or_eq_false_iff] at h1
      refine W_skip (hK4 _ ?_)
      clear hK4 K4
      refine W_seq (fun K6 hK6 => ?_)
      refine W_block ?_
      refine W_seq (fun K7 hK7 => ?_)
      refine W_region (WL_cons rfl (WX_q rfl rfl (q_move rfl rfl) (WL_cons rfl (WX_q rfl rfl (q_move rfl rfl) (WL_cons rfl (?_))))))
      refine WX_q rfl rfl (q_index_nst G rfl rfl rfl rfl (by omega) (mkSS_full (by omega)) rfl) ?_
      refine WL_cons rfl (WX_q rfl rfl (q_load_eptN G rfl rfl rfl rfl) (WL_cons rfl (WX_q rfl rfl (q_move rfl rfl) (WL_cons rfl (?_)))))
      refine WX_q rfl rfl (q_call rfl (ArgsOK.of rfl) (c_laws_heldIntS (xss.getD i default) (k + lenN xss i) (hz i (by omega)) (by omega)) rfl) ?_
      refine WL_cons rfl (WX_q rfl rfl (q_assign rfl rfl) (?_))
      refine WL_nil (hK7 _ ?_)
      clear hK7 K7
      refine W_seq (fun K8 hK8 => ?_)
      refine W_region (WL_cons rfl (WX_q rfl rfl (q_move rfl rfl) (WL_cons rfl (WX_q rfl rfl (q_cmp rfl rfl rfl rfl) (?_)))))
      refine WL_nil (hK8 _ ?_)
      clear hK8 K8
      refine W_cond rfl (fun h2 => ?_) (fun h2 => ?_)
      · try rw [h2]
        try simp only [decide_eq_true_eq, decide_eq_false_iff_not, beq_iff_eq, bne_iff_ne, ne_eq, Bool.not_eq_true', Bool.not_eq_false', beq_eq_false_iff_ne, bne_eq_false_iff_eq, Bool.not_eq_true, Bool.not_eq_false, Int.not_lt, Int.not_le, gt_iff_lt, ge_iff_le, Bool.and_eq_true, Bool.and_eq_false_iff, Bool.or_eq_true, Bool.or_eq_false_iff] at h2
        refine W_seq (fun K9 hK9 => ?_)
        refine W_region (WL_cons rfl (WX_q rfl rfl (q_assign rfl rfl) (?_)))
        refine WL_nil (hK9 _ ?_)
        clear hK9 K9
        refine W_ret (fin_one rfl (rc_v ?_))
        all_goals clear hK6 K6 hK2 K2
        all_goals (first | (have e : i = xss.length := (by omega); subst e; first | rfl | (congr 1; omega)) | (exfalso; omega))
      · try rw [h2]
        try simp only [decide_eq_true_eq, decide_eq_false_iff_not, beq_iff_eq, bne_iff_ne, ne_eq, Bool.not_eq_true', Bool.not_eq_false', beq_eq_false_iff_ne, bne_eq_false_iff_eq, Bool.not_eq_true, Bool.not_eq_false, Int.not_lt, Int.not_le, gt_iff_lt, ge_iff_le, Bool.and_eq_true, Bool.and_eq_false_iff, Bool.or_eq_true, Bool.or_eq_false_iff] at h2
        refine W_skip (hK6 _ ?_)
        clear hK6 K6
        refine W_region (WL_cons rfl (WX_q rfl rfl (q_move rfl rfl) (WL_cons rfl (?_))))
        first | refine WX_q rfl rfl (q_arith rfl rfl rfl rfl (by omega) (by omega)) ?_ | refine WX_q rfl rfl (q_wrap rfl rfl rfl rfl) ?_
        refine WL_cons rfl (WX_q rfl rfl (q_assign rfl rfl) (?_))
        refine WL_nil ⟨(i + 1), ?_, ?_, ⟨⟨_, rfl, by (first | rfl | (rw [lenN_succ]; congr 2; omega))⟩, rfl, ⟨⟨_, rfl, by (first | rfl | (rw [lenN_succ]; congr 2; omega))⟩, rfl, trivial⟩⟩, trivial, rfl, rfl, rfl⟩
        · omega
        · omega
    · try rw [h1]
      try simp only [decide_eq_true_eq, decide_eq_false_iff_not, beq_iff_eq, bne_iff_ne, ne_eq, Bool.not_eq_true', Bool.not_eq_false', beq_eq_false_iff_ne, bne_eq_false_iff_eq, Bool.not_eq_true, Bool.not_eq_false, Int.not_lt, Int.not_le, gt_iff_lt, ge_iff_le, Bool.and_eq_true, Bool.and_eq_false_iff, Bool.or_eq_true, Bool.or_eq_false_iff] at h1
      refine W_exit (hK2 _ ?_)
      clear hK4 K4 hK2 K2
      refine W_seq (fun K10 hK10 => ?_)
      refine W_region (WL_cons rfl (WX_q rfl rfl (q_move rfl rfl) (WL_cons rfl (WX_q rfl rfl (q_assign rfl rfl) (?_)))))
      refine WL_nil (hK10 _ ?_)
      clear hK10 K10
      refine W_ret (fin_one rfl (rc_v ?_))
      all_goals (first | (have e : i = xss.length := (by omega); subst e; first | rfl | (congr 1; omega)) | (exfalso; omega))

theorem c_laws_markAbstract (a : Abs) (k : Int) (hs : SmallA a) (hk : 0 ≤ k ∧ k ≤ 10000000) : CtrM Try.prog 21 [.agg [.own 0, .own 1, .own 2, .own 3, .own 4], .v (.int .i64 k)] [.row 4 1 (a.en.map encO), .row 4 1 (a.ra.map encO), .row 4 1 (a.po.map encO), .row 3 1 (a.ma.map encI), .nest 24 1 (a.st.map encSt) []] (.one (.v (.int .i64 (mkN k a)))) [some (.row 4 1 ((mkA k a).en.map encO)), some (.row 4 1 ((mkA k a).ra.map encO)), some (.row 4 1 ((mkA k a).po.map encO)), some (.row 3 1 ((mkA k a).ma.map encI)), some (.nest 24 1 ((mkA k a).st.map encSt) [])] := by
  have hz0 := hs.en
  have hz1 := hs.ra
  have hz2 := hs.po
  have hz3 := hs.ma
  have hz4 := hs.st
  have hz5 := hs.sum
  have hz6 := @lenN_nn a.st a.st.length
  refine CtrM.of (n := 26) (k := 5) G Try.func21 rfl (by kernel_rfl) rfl rfl rfl rfl rfl rfl rfl (fun w0 _ hpin => ?_)
  refine W_seq (fun K1 hK1 => ?_)
  refine W_region (WL_cons rfl (WX_box 6 rfl rfl rfl rfl rfl rfl rfl (WL_cons rfl (WX_q rfl rfl (q_assign rfl rfl) (?_)))))
  refine WL_nil (hK1 _ ?_)
  clear hK1 K1
  refine W_seq (fun K2 hK2 => ?_)
  refine W_region (WL_cons rfl (WX_q rfl rfl (q_field_ptr G rfl rfl rfl rfl) (WL_cons rfl (WX_q rfl rfl (q_load_box G rfl rfl rfl rfl rfl rfl rfl) (WL_cons rfl (WX_q rfl rfl (q_move rfl rfl) (WL_cons rfl (?_))))))))
  refine WX_callm 6 [0] rfl rfl rfl (c_laws_markBoolS a.en k (by omega) (by omega)) rfl (RowsIn.cons rfl RowsIn.nil) rfl rfl rfl ?_
  refine WL_cons rfl (WX_q rfl rfl (q_assign rfl rfl) (?_))
  refine WL_nil (hK2 _ ?_)
  clear hK2 K2
  refine W_seq (fun K3 hK3 => ?_)
  refine W_region (WL_cons rfl (WX_q rfl rfl (q_field_ptr G rfl rfl rfl rfl) (WL_cons rfl (WX_q rfl rfl (q_load_box G rfl rfl rfl rfl rfl rfl rfl) (WL_cons rfl (WX_q rfl rfl (q_move rfl rfl) (WL_cons rfl (?_))))))))
  refine WX_callm 6 [1] rfl rfl rfl (c_laws_markBoolS a.ra (k + a.en.length) (by omega) (by omega)) rfl (RowsIn.cons rfl RowsIn.nil) rfl rfl rfl ?_
  refine WL_cons rfl (WX_q rfl rfl (q_assign rfl rfl) (?_))
  refine WL_nil (hK3 _ ?_)
  clear hK3 K3
  refine W_seq (fun K4 hK4 => ?_)
  refine W_region (WL_cons rfl (WX_q rfl rfl (q_field_ptr G rfl rfl rfl rfl) (WL_cons rfl (WX_q rfl rfl (q_load_box G rfl rfl rfl rfl rfl rfl rfl) (WL_cons rfl (WX_q rfl rfl (q_move rfl rfl) (WL_cons rfl (?_))))))))
  refine WX_callm 6 [2] rfl rfl rfl (c_laws_markBoolS a.po (k + a.en.length + a.ra.length) (by omega) (by omega)) rfl (RowsIn.cons rfl RowsIn.nil) rfl rfl rfl ?_
  refine WL_cons rfl (WX_q rfl rfl (q_assign rfl rfl) (?_))
  refine WL_nil (hK4 _ ?_)
  clear hK4 K4
  refine W_seq (fun K5 hK5 => ?_)
  refine W_region (WL_cons rfl (WX_q rfl rfl (q_field_ptr G rfl rfl rfl rfl) (WL_cons rfl (WX_q rfl rfl (q_load_box G rfl rfl rfl rfl rfl rfl rfl) (WL_cons rfl (WX_q rfl rfl (q_move rfl rfl) (WL_cons rfl (?_))))))))
  refine WX_callm 6 [3] rfl rfl rfl (c_laws_markIntS a.ma (k + a.en.length + a.ra.length + a.po.length) (by omega) (by omega)) rfl (RowsIn.cons rfl RowsIn.nil) rfl rfl rfl ?_
  refine WL_cons rfl (WX_q rfl rfl (q_assign rfl rfl) (?_))
  refine WL_nil (hK5 _ ?_)
  clear hK5 K5
  refine W_seq (fun K6 hK6 => ?_)
  refine W_region (WL_cons rfl (WX_q rfl rfl (q_field_ptr G rfl rfl rfl rfl) (WL_cons rfl (WX_q rfl rfl (q_load_box G rfl rfl rfl rfl rfl rfl rfl) (WL_cons rfl (WX_q rfl rfl (q_move rfl rfl) (WL_cons rfl (?_))))))))
  refine WX_callm 6 [4] rfl rfl rfl (c_laws_markIntSS a.st (k + a.en.length + a.ra.length + a.po.length + a.ma.length) (by omega) hs.all (by omega) (by omega)) rfl (RowsIn.cons rfl RowsIn.nil) rfl rfl rfl ?_
  refine WL_cons rfl (WX_q rfl rfl (q_assign rfl rfl) (?_))
  refine WL_nil (hK6 _ ?_)
  clear hK6 K6
  refine W_seq (fun K7 hK7 => ?_)
  refine W_region (WL_cons rfl (WX_q rfl rfl (q_move rfl rfl) (WL_cons rfl (WX_q rfl rfl (q_assign rfl rfl) (?_)))))
  refine WL_nil (hK7 _ ?_)
  clear hK7 K7
  refine W_ret (finm_one rfl (rc_v ?_) rfl (AftOK.stays rfl ?_ rfl (AftOK.stays rfl ?_ rfl (AftOK.stays rfl ?_ rfl (AftOK.stays rfl ?_ rfl (AftOK.stays rfl ?_ rfl AftOK.nil))))))
  all_goals (rfl)

theorem c_laws_heldAbstract (a : Abs) (k : Int) (hs : SmallA a) (hk : 0 ≤ k ∧ k ≤ 10000000) : Ctr Try.prog 22 [.agg [.lst 1 ((mkA k a).en.map encO), .lst 1 ((mkA k a).ra.map encO), .lst 1 ((mkA k a).po.map encO), .lst 1 ((mkA k a).ma.map encI), .nst none 1 ((mkA k a).st.map encSt)], .v (.int .i64 k)] (.one (.v (.int .i64 (mkN k a)))) := by
  have hz0 := hs.en
  have hz1 := hs.ra
  have hz2 := hs.po
  have hz3 := hs.ma
  have hz4 := hs.st
  have hz5 := hs.sum
  have hz6 := @lenN_nn a.st a.st.length
  refine Ctr.of (n := 36) G Try.func22 rfl (by kernel_rfl) rfl rfl rfl (fun w0 => ?_)
  refine W_pinS 0 rfl (fun _ => rfl) (fun u0 => ?_)
  refine W_seq (fun K1 hK1 => ?_)
  refine W_region (WL_cons rfl (WX_box 1 rfl rfl rfl rfl rfl rfl rfl (WL_cons rfl (WX_q rfl rfl (q_assign rfl rfl) (?_)))))
  refine WL_nil (hK1 _ ?_)
  clear hK1 K1
  refine W_seq (fun K2 hK2 => ?_)
  refine W_region (WL_cons rfl (WX_q rfl rfl (q_field_ptr G rfl rfl rfl rfl) (WL_cons rfl (WX_q rfl rfl (q_lst (q_load_box G rfl rfl rfl rfl rfl rfl rfl)) (WL_cons rfl (WX_q rfl rfl (q_move rfl rfl) (WL_cons rfl (?_))))))))
  refine WX_q rfl rfl (q_call rfl (ArgsOK.of rfl) (c_laws_heldBoolS a.en k (by omega) (by omega)) rfl) ?_
  refine WL_cons rfl (WX_q rfl rfl (q_assign rfl rfl) (?_))
  refine WL_nil (hK2 _ ?_)
  clear hK2 K2
  refine W_seq (fun K3 hK3 => ?_)
  refine W_seq (fun K4 hK4 => ?_)
  refine W_region (WL_cons rfl (WX_q rfl rfl (q_move rfl rfl) (WL_cons rfl (WX_q rfl rfl (q_cmp rfl rfl rfl rfl) (?_)))))
  refine WL_nil (hK4 _ ?_)
  clear hK4 K4
  refine W_cond rfl (fun h1 => ?_) (fun h1 => ?_)
  · try rw [h1]
    try simp only [decide_eq_true_eq, decide_eq_false_iff_not, beq_iff_eq, bne_iff_ne, ne_eq, Bool.not_eq_true', Bool.not_eq_false', beq_eq_false_iff_ne, bne_eq_false_iff_eq, Bool.not_eq_true, Bool.not_eq_false, Int.not_lt, Int.not_le, gt_iff_lt, ge_iff_le, Bool.and_eq_true, Bool.and_eq_false_iff, Bool.or_eq_true, Bool.or_eq_false_iff] at h1
    refine W_seq (fun K5 hK5 => ?_)
    refine W_region (WL_cons rfl (WX_q rfl rfl (q_assign rfl rfl) (?_)))
    refine WL_nil (hK5 _ ?_)
    clear hK5 K5
    refine W_ret (fin_one rfl (rc_v ?_))
    all_goals clear hK3 K3
    all_goals (first | rfl | (exfalso; omega))
  · try rw [h1]
    try simp only [decide_eq_true_eq, decide_eq_false_iff_not, beq_iff_eq, bne_iff_ne, ne_eq, Bool.not_eq_true', Bool.not_eq_false', beq_eq_false_iff_ne, bne_eq_false_iff_eq, Bool.not_eq_true, Bool.not_eq_false, Int.not_lt, Int.not_le, gt_iff_lt, ge_iff_le, Bool.and_eq_true, Bool.and_eq_false_iff, Bool.or_eq_true, Bool.or_eq_false_iff] at h1
    refine W_skip (hK3 _ ?_)
    clear hK3 K3
    refine W_seq (fun K6 hK6 => ?_)
    refine W_region (WL_cons rfl (WX_q rfl rfl (q_field_ptr G rfl rfl rfl rfl) (WL_cons rfl (WX_q rfl rfl (q_lst (q_load_box G rfl rfl rfl rfl rfl rfl rfl)) (WL_cons rfl (WX_q rfl rfl (q_move rfl rfl) (WL_cons rfl (?_))))))))
    refine WX_q rfl rfl (q_call rfl (ArgsOK.of rfl) (c_laws_heldBoolS a.ra (k + a.en.length) (by omega) (by omega)) rfl) ?_
    refine WL_cons rfl (WX_q rfl rfl (q_assign rfl rfl) (?_))
    refine WL_nil (hK6 _ ?_)
    clear hK6 K6
    refine W_seq (fun K7 hK7 => ?_)
    refine W_seq (fun K8 hK8 => ?_)
    refine W_region (WL_cons rfl (WX_q rfl rfl (q_move rfl rfl) (WL_cons rfl (WX_q rfl rfl (q_cmp rfl rfl rfl rfl) (?_)))))
    refine WL_nil (hK8 _ ?_)
    clear hK8 K8
    refine W_cond rfl (fun h2 => ?_) (fun h2 => ?_)
    · try rw [h2]
      try simp only [decide_eq_true_eq, decide_eq_false_iff_not, beq_iff_eq, bne_iff_ne, ne_eq, Bool.not_eq_true', Bool.not_eq_false', beq_eq_false_iff_ne, bne_eq_false_iff_eq, Bool.not_eq_true, Bool.not_eq_false, Int.not_lt, Int.not_le, gt_iff_lt, ge_iff_le, Bool.and_eq_true, Bool.and_eq_false_iff, Bool.or_eq_true, Bool.or_eq_false_iff] at h2
      refine W_seq (fun K9 hK9 => ?_)
      refine W_region (WL_cons rfl (WX_q rfl rfl (q_assign rfl rfl) (?_)))
      refine WL_nil (hK9 _ ?_)
      clear hK9 K9
      refine W_ret (fin_one rfl (rc_v ?_))
      all_goals clear hK7 K7
      all_goals (first | rfl | (exfalso; omega))
    · try rw [h2]
      try simp only [decide_eq_true_eq, decide_eq_false_iff_not, beq_iff_eq, bne_iff_ne, ne_eq, Bool.not_eq_true', Bool.not_eq_false', beq_eq_false_iff_ne, bne_eq_false_iff_eq, Bool.not_eq_true, Bool.not_eq_false, Int.not_lt, Int.not_le, gt_iff_lt, ge_iff_le, Bool.and_eq_true, Bool.and_eq_false_iff, Bool.or_eq_true, Bool.or_eq_false_iff] at h2
      refine W_skip (hK7 _ ?_)
      clear hK7 K7
      refine W_seq (fun K10 hK10 => ?_)
      refine W_region (WL_cons rfl (WX_q rfl rfl (q_field_ptr G rfl rfl rfl rfl) (WL_cons rfl (WX_q rfl rfl (q_lst (q_load_box G rfl rfl rfl rfl rfl rfl rfl)) (WL_cons rfl (WX_q rfl rfl (q_move rfl rfl) (WL_cons rfl (?_))))))))
      refine WX_q rfl rfl (q_call rfl (ArgsOK.of rfl) (c_laws_heldBoolS a.po (k + a.en.length + a.ra.length) (by omega) (by omega)) rfl) ?_
      refine WL_cons rfl (WX_q rfl rfl (q_assign rfl rfl) (?_))
      refine WL_nil (hK10 _ ?_)
      clear hK10 K10
      refine W_seq (fun K11 hK11 => ?_)
      refine W_seq (fun K12 hK12 => ?_)
      refine W_region (WL_cons rfl (WX_q rfl rfl (q_move rfl rfl) (WL_cons rfl (WX_q rfl rfl (q_cmp rfl rfl rfl rfl) (?_)))))
      refine WL_nil (hK12 _ ?_)
      clear hK12 K12
      refine W_cond rfl (fun h3 => ?_) (fun h3 => ?_)
      · try rw [h3]
        try simp only [decide_eq_true_eq, decide_eq_false_iff_not, beq_iff_eq, bne_iff_ne, ne_eq, Bool.not_eq_true', Bool.not_eq_false', beq_eq_false_iff_ne, bne_eq_false_iff_eq, Bool.not_eq_true, Bool.not_eq_false, Int.not_lt, Int.not_le, gt_iff_lt, ge_iff_le, Bool.and_eq_true, Bool.and_eq_false_iff, Bool.or_eq_true, Bool.or_eq_false_iff] at h3
        refine W_seq (fun K13 hK13 => ?_)
        refine W_region (WL_cons rfl (WX_q rfl rfl (q_assign rfl rfl) (?_)))
        refine WL_nil (hK13 _ ?_)
        clear hK13 K13
        refine W_ret (fin_one rfl (rc_v ?_))
        all_goals clear hK11 K11
        all_goals (first | rfl | (exfalso; omega))
      · try rw [h3]
        try simp only [decide_eq_true_eq, decide_eq_false_iff_not, beq_iff_eq, bne_iff_ne, ne_eq, Bool.not_eq_true', Bool.not_eq_false', beq_eq_false_iff_ne, bne_eq_false_iff_eq, Bool.not_eq_true, Bool.not_eq_false, Int.not_lt, Int.not_le, gt_iff_lt, ge_iff_le, Bool.and_eq_true, Bool.and_eq_false_iff, Bool.or_eq_true, Bool.or_eq_false_iff] at h3
        refine W_skip (hK11 _ ?_)
        clear hK11 K11
        refine W_seq (fun K14 hK14 => ?_)
        refine W_region (WL_cons rfl (WX_q rfl rfl (q_field_ptr G rfl rfl rfl rfl) (WL_cons rfl (WX_q rfl rfl (q_lst (q_load_box G rfl rfl rfl rfl rfl rfl rfl)) (WL_cons rfl (WX_q rfl rfl (q_move rfl rfl) (WL_cons rfl (?_))))))))
        refine WX_q rfl rfl (q_call rfl (ArgsOK.of rfl) (c_laws_heldIntS a.ma (k + a.en.length + a.ra.length + a.po.length) (by omega) (by omega)) rfl) ?_
        refine WL_cons rfl (WX_q rfl rfl (q_assign rfl rfl) (?_))
        refine WL_nil (hK14 _ ?_)
        clear hK14 K14
        refine W_seq (fun K15 hK15 => ?_)
        refine W_seq (fun K16 hK16 => ?_)
        refine W_region (WL_cons rfl (WX_q rfl rfl (q_move rfl rfl) (WL_cons rfl (WX_q rfl rfl (q_cmp rfl rfl rfl rfl) (?_)))))
        refine WL_nil (hK16 _ ?_)
        clear hK16 K16
        refine W_cond rfl (fun h4 => ?_) (fun h4 => ?_)
        · try rw [h4]
          try simp only [decide_eq_true_eq, decide_eq_false_iff_not, beq_iff_eq, bne_iff_ne, ne_eq, Bool.not_eq_true', Bool.not_eq_false', beq_eq_false_iff_ne, bne_eq_false_iff_eq, Bool.not_eq_true, Bool.not_eq_false, Int.not_lt, Int.not_le, gt_iff_lt, ge_iff_le, Bool.and_eq_true, Bool.and_eq_false_iff, Bool.or_eq_true, Bool.or_eq_false_iff] at h4
          refine W_seq (fun K17 hK17 => ?_)
          refine W_region (WL_cons rfl (WX_q rfl rfl (q_assign rfl rfl) (?_)))
          refine WL_nil (hK17 _ ?_)
          clear hK17 K17
          refine W_ret (fin_one rfl (rc_v ?_))
          all_goals clear hK15 K15
          all_goals (first | rfl | (exfalso; omega))
        · try rw [h4]
          try simp only [decide_eq_true_eq, decide_eq_false_iff_not, beq_iff_eq, bne_iff_ne, ne_eq, Bool.not_eq_true', Bool.not_eq_false', beq_eq_false_iff_ne, bne_eq_false_iff_eq, Bool.not_eq_true, Bool.not_eq_false, Int.not_lt, Int.not_le, gt_iff_lt, ge_iff_le, Bool.and_eq_true, Bool.and_eq_false_iff, Bool.or_eq_true, Bool.or_eq_false_iff] at h4
          refine W_skip (hK15 _ ?_)
          clear hK15 K15
          refine W_seq (fun K18 hK18 => ?_)
          refine W_region (WL_cons rfl (WX_q rfl rfl (q_field_ptr G rfl rfl rfl rfl) (WL_cons rfl (WX_q rfl rfl (q_nst (q_load_box G rfl rfl rfl rfl rfl rfl rfl)) (WL_cons rfl (WX_q rfl rfl (q_move rfl rfl) (WL_cons rfl (?_))))))))
          refine WX_q rfl rfl (q_call rfl (ArgsOK.of rfl) (c_laws_heldIntSS a.st (k + a.en.length + a.ra.length + a.po.length + a.ma.length) (by omega) hs.all (by omega) (by omega)) rfl) ?_
          refine WL_cons rfl (WX_q rfl rfl (q_assign rfl rfl) (?_))
          refine WL_nil (hK18 _ ?_)
          clear hK18 K18
          refine W_seq (fun K19 hK19 => ?_)
          refine W_seq (fun K20 hK20 => ?_)
          refine W_region (WL_cons rfl (WX_q rfl rfl (q_move rfl rfl) (WL_cons rfl (WX_q rfl rfl (q_cmp rfl rfl rfl rfl) (?_)))))
          refine WL_nil (hK20 _ ?_)
          clear hK20 K20
          refine W_cond rfl (fun h5 => ?_) (fun h5 => ?_)
          · try rw [h5]
            try simp only [decide_eq_true_eq, decide_eq_false_iff_not, beq_iff_eq, bne_iff_ne, ne_eq, Bool.not_eq_true', Bool.not_eq_false', beq_eq_false_iff_ne, bne_eq_false_iff_eq, Bool.not_eq_true, Bool.not_eq_false, Int.not_lt, Int.not_le, gt_iff_lt, ge_iff_le, Bool.and_eq_true, Bool.and_eq_false_iff, Bool.or_eq_true, Bool.or_eq_false_iff] at h5
            refine W_seq (fun K21 hK21 => ?_)
            refine W_region (WL_cons rfl (WX_q rfl rfl (q_assign rfl rfl) (?_)))
            refine WL_nil (hK21 _ ?_)
            clear hK21 K21
            refine W_ret (fin_one rfl (rc_v ?_))
            all_goals clear hK19 K19
            all_goals (first | rfl | (exfalso; omega))
          · try rw [h5]
            try simp only [decide_eq_true_eq, decide_eq_false_iff_not, beq_iff_eq, bne_iff_ne, ne_eq, Bool.not_eq_true', Bool.not_eq_false', beq_eq_false_iff_ne, bne_eq_false_iff_eq, Bool.not_eq_true, Bool.not_eq_false, Int.not_lt, Int.not_le, gt_iff_lt, ge_iff_le, Bool.and_eq_true, Bool.and_eq_false_iff, Bool.or_eq_true, Bool.or_eq_false_iff] at h5
            refine W_skip (hK19 _ ?_)
            clear hK19 K19
            refine W_seq (fun K22 hK22 => ?_)
            refine W_region (WL_cons rfl (WX_q rfl rfl (q_move rfl rfl) (WL_cons rfl (WX_q rfl rfl (q_assign rfl rfl) (?_)))))
            refine WL_nil (hK22 _ ?_)
            clear hK22 K22
            refine W_ret (fin_one rfl (rc_v ?_))
            all_goals (first | rfl | (exfalso; omega))

end Go.Proofs.Ytcnodpipinlpcaa

/- Walks through functions of the program, one contract each (written by gen.py). -/
set_option maxRecDepth 20000
set_option linter.unusedVariables false
set_option linter.unusedSimpArgs false
namespace Go.Proofs.Ytcnodpipinlpcaa
open Go Go.Rf

theorem c_slices_IndexFunc_impl_MachStep_impl_MachStep (xs : List MStep) (f : Nat) (a : Abs) (p : MStep → Bool) (hl : xs.length ≤ 1048576) (hf : ∀ i, i < xs.length → Ctr Try.prog f [.v (encMs (xs.getD i default)), .eptN [.lst 1 (a.en.map encO), .lst 1 (a.ra.map encO), .lst 1 (a.po.map encO), .lst 1 (a.ma.map encI), .nst none 1 (a.st.map encSt)]] (.one (.v (.bool (p (xs.getD i default)))))) : Ctr Try.prog 74 [.lst 4 (xs.map encMc), .fnc f [.eptN [.lst 1 (a.en.map encO), .lst 1 (a.ra.map encO), .lst 1 (a.po.map encO), .lst 1 (a.ma.map encI), .nst none 1 (a.st.map encSt)]]] (.one (.v (.int .i64 (idxN (fun i => p (xs.getD i default)) xs.length)))) := by
  refine Ctr.of (n := 19) G Try.func74 rfl (by kernel_rfl) rfl rfl rfl (fun w0 => ?_)
  refine W_seq (fun K1 hK1 => ?_)
  refine W_region (WL_cons rfl (WX_q rfl rfl (q_assign rfl rfl) (?_)))
  refine WL_nil (hK1 _ ?_)
  clear hK1 K1
  refine W_seq (fun K2 hK2 => ?_)
  refine W_seq (fun K3 hK3 => ?_)
  refine W_region (WL_cons rfl (WX_q rfl rfl (q_move rfl rfl) (WL_cons rfl (?_))))
  first | refine WX_q rfl rfl (q_len' G rfl rfl rfl rfl (List.length_map _)) ?_ | refine WX_q rfl rfl (q_len G rfl rfl rfl rfl) ?_
  refine WL_cons rfl (WX_q rfl rfl (q_move rfl rfl) (?_))
  refine WL_nil (hK3 _ ?_)
  clear hK3 K3
  refine W_block ?_
  refine W_loopK [0, 1, 7] [] (fun (i : Nat) => [(8, .v (.int .i64 (i : Int)))]) (fun (i : Nat) => []) (fun (i : Nat) => i ≤ xs.length ∧ ∀ j, j < i → p (xs.getD j default) = false) (fun (i : Nat) => xs.length - i) 0 rfl rfl ?_ ?_ ?_ ?_
  · exact ⟨Nat.zero_le _, fun j hj => by omega⟩
  · exact ⟨⟨_, rfl, by (first | rfl | (simp; done) | (simp; omega))⟩, rfl, trivial⟩
  · exact trivial
  · intro i hinv
    simp only [List.cons_append, List.nil_append]
    refine W_seq (fun K4 hK4 => ?_)
    refine W_region (WL_cons rfl (WX_q rfl rfl (q_cmp rfl rfl rfl rfl) (?_)))
    refine WL_nil (hK4 _ ?_)
    clear hK4 K4
    refine W_seq (fun K5 hK5 => ?_)
    refine W_cond rfl (fun h1 => ?_) (fun h1 => ?_)
    · try rw [h1]
      try simp only [decide_eq_true_eq, decide_eq_false_iff_not, beq_iff_eq, bne_iff_ne, ne_eq, Bool.not_eq_true', Bool.not_eq_false', beq_eq_false_iff_ne, bne_eq_false_iff_eq, Bool.not_eq_true, Bool.not_eq_false, Int.not_lt, Int.not_le, gt_iff_lt, ge_iff_le, Bool.and_eq_true, Bool.and_eq_false_iff, Bool.or_eq_true, Bool.or_eq_false_iff] at h1
      refine W_skip (hK5 _ ?_)
      clear hK5 K5
      refine W_seq (fun K6 hK6 => ?_)
      refine W_block ?_
      refine W_seq (fun K7 hK7 => ?_)
      refine W_region (WL_cons rfl (WX_q rfl rfl (q_move rfl rfl) (WL_cons rfl (WX_q rfl rfl (q_assign rfl rfl) (?_)))))
      refine WL_nil (hK7 _ ?_)
      clear hK7 K7
      refine W_seq (fun K8 hK8 => ?_)
      refine W_region (WL_cons rfl (WX_q rfl rfl (q_move rfl rfl) (WL_cons rfl (WX_q rfl rfl (q_move rfl rfl) (WL_cons rfl (WX_q rfl rfl (q_move rfl rfl) (WL_cons rfl (?_))))))))
      refine WX_q rfl rfl (q_index_lst G rfl rfl rfl rfl (by omega) (getN (by omega))) ?_
      refine WL_cons rfl (WX_q rfl rfl (q_load_ept_struct G rfl rfl rfl rfl) (WL_cons rfl (?_)))
      refine WX_q rfl rfl (q_callc rfl rfl (ArgsOK.of rfl) rfl (hf _ (by omega)) rfl) ?_
      refine WL_nil (hK8 _ ?_)
      clear hK8 K8
      refine W_cond rfl (fun h2 => ?_) (fun h2 => ?_)
      · try rw [h2]
        try simp only [decide_eq_true_eq, decide_eq_false_iff_not, beq_iff_eq, bne_iff_ne, ne_eq, Bool.not_eq_true', Bool.not_eq_false', beq_eq_false_iff_ne, bne_eq_false_iff_eq, Bool.not_eq_true, Bool.not_eq_false, Int.not_lt, Int.not_le, gt_iff_lt, ge_iff_le, Bool.and_eq_true, Bool.and_eq_false_iff, Bool.or_eq_true, Bool.or_eq_false_iff] at h2
        refine W_seq (fun K9 hK9 => ?_)
        refine W_region (WL_cons rfl (WX_q rfl rfl (q_move rfl rfl) (WL_cons rfl (WX_q rfl rfl (q_assign rfl rfl) (?_)))))
        refine WL_nil (hK9 _ ?_)
        clear hK9 K9
        refine W_ret (fin_one rfl (rc_v ?_))
        all_goals clear hK6 K6 hK2 K2
        all_goals (first | (rw [idx_some (i := i) hinv.2 (by omega) (by assumption)]; done) | (rw [idx_none hinv.2 (by omega)]; done))
      · try rw [h2]
        try simp only [decide_eq_true_eq, decide_eq_false_iff_not, beq_iff_eq, bne_iff_ne, ne_eq, Bool.not_eq_true', Bool.not_eq_false', beq_eq_false_iff_ne, bne_eq_false_iff_eq, Bool.not_eq_true, Bool.not_eq_false, Int.not_lt, Int.not_le, gt_iff_lt, ge_iff_le, Bool.and_eq_true, Bool.and_eq_false_iff, Bool.or_eq_true, Bool.or_eq_false_iff] at h2
        refine W_skip (hK6 _ ?_)
        clear hK6 K6
        refine W_region (WL_cons rfl (?_))
        first | refine WX_q rfl rfl (q_arith rfl rfl rfl rfl (by omega) (by omega)) ?_ | refine WX_q rfl rfl (q_wrap rfl rfl rfl rfl) ?_
        refine WL_cons rfl (WX_q rfl rfl (q_move rfl rfl) (?_))
        refine WL_nil ⟨(i + 1), ?_, ?_, ⟨⟨_, rfl, by rfl⟩, rfl, trivial⟩, trivial, rfl, rfl, rfl⟩
        · exact ⟨by omega, upto_succ hinv.2 (by assumption)⟩
        · omega
    · try rw [h1]
      try simp only [decide_eq_true_eq, decide_eq_false_iff_not, beq_iff_eq, bne_iff_ne, ne_eq, Bool.not_eq_true', Bool.not_eq_false', beq_eq_false_iff_ne, bne_eq_false_iff_eq, Bool.not_eq_true, Bool.not_eq_false, Int.not_lt, Int.not_le, gt_iff_lt, ge_iff_le, Bool.and_eq_true, Bool.and_eq_false_iff, Bool.or_eq_true, Bool.or_eq_false_iff] at h1
      refine W_exit (hK2 _ ?_)
      clear hK5 K5 hK2 K2
      refine W_seq (fun K10 hK10 => ?_)
      refine W_region (WL_cons rfl (WX_q rfl rfl (q_assign rfl rfl) (?_)))
      refine WL_nil (hK10 _ ?_)
      clear hK10 K10
      refine W_ret (fin_one rfl (rc_v ?_))
      all_goals (first | (rw [idx_some (i := i) hinv.2 (by omega) (by assumption)]; done) | (rw [idx_none hinv.2 (by omega)]; done))

theorem c_slices_ContainsFunc_impl_MachStep_impl_MachStep (xs : List MStep) (f : Nat) (a : Abs) (p : MStep → Bool) (hl : xs.length ≤ 1048576) (hf : ∀ i, i < xs.length → Ctr Try.prog f [.v (encMs (xs.getD i default)), .eptN [.lst 1 (a.en.map encO), .lst 1 (a.ra.map encO), .lst 1 (a.po.map encO), .lst 1 (a.ma.map encI), .nst none 1 (a.st.map encSt)]] (.one (.v (.bool (p (xs.getD i default)))))) : Ctr Try.prog 60 [.lst 4 (xs.map encMc), .fnc f [.eptN [.lst 1 (a.en.map encO), .lst 1 (a.ra.map encO), .lst 1 (a.po.map encO), .lst 1 (a.ma.map encI), .nst none 1 (a.st.map encSt)]]] (.one (.v (.bool (anyN xs.length (fun i => p (xs.getD i default)))))) := by
  refine Ctr.of (n := 9) G Try.func60 rfl (by kernel_rfl) rfl rfl rfl (fun w0 => ?_)
  refine W_seq (fun K1 hK1 => ?_)
  refine W_region (WL_cons rfl (WX_q rfl rfl (q_assign rfl rfl) (?_)))
  refine WL_nil (hK1 _ ?_)
  clear hK1 K1
  refine W_seq (fun K2 hK2 => ?_)
  refine W_region (WL_cons rfl (WX_q rfl rfl (q_move rfl rfl) (WL_cons rfl (WX_q rfl rfl (q_move rfl rfl) (WL_cons rfl (?_))))))
  refine WX_q rfl rfl (q_call rfl (ArgsOK.of rfl) (c_slices_IndexFunc_impl_MachStep_impl_MachStep xs f a p hl hf) rfl) ?_
  refine WL_cons rfl (WX_q rfl rfl (q_cmp rfl rfl rfl rfl) (WL_cons rfl (WX_q rfl rfl (q_assign rfl rfl) (?_))))
  refine WL_nil (hK2 _ ?_)
  clear hK2 K2
  refine W_ret (fin_one rfl (rc_v ?_))
  all_goals (rw [idx_any])

theorem c_impl_RunAbstract_1 (x : MStep) (a : Abs) (hs : SmallA a) : Ctr Try.prog 61 [.v (encMs x), .eptN [.lst 1 (a.en.map encO), .lst 1 (a.ra.map encO), .lst 1 (a.po.map encO), .lst 1 (a.ma.map encI), .nst none 1 (a.st.map encSt)]] (.one (.v (.bool (!stepV a.ma.length x)))) := by
  refine Ctr.of (n := 8) G Try.func61 rfl (by kernel_rfl) rfl rfl rfl (fun w0 => ?_)
  refine W_seq (fun K1 hK1 => ?_)
  refine W_region (WL_cons rfl (WX_box 1 rfl rfl rfl rfl rfl rfl rfl (WL_cons rfl (WX_q rfl rfl (q_assign rfl rfl) (?_)))))
  refine WL_nil (hK1 _ ?_)
  clear hK1 K1
  refine W_seq (fun K2 hK2 => ?_)
  refine W_region (WL_cons rfl (WX_q rfl rfl (q_load_eptN_struct G rfl rfl rfl rfl) (WL_cons rfl (WX_q rfl rfl (q_load_box_struct G rfl rfl rfl rfl rfl rfl) (WL_cons rfl (?_))))))
  refine WX_q rfl rfl (q_call rfl (ArgsOK.of rfl) (c_impl_isAbstractStep _ _ (by assumption)) rfl) ?_
  refine WL_cons rfl (WX_q rfl rfl (q_not rfl rfl) (WL_cons rfl (WX_q rfl rfl (q_assign rfl rfl) (?_))))
  refine WL_nil (hK2 _ ?_)
  clear hK2 K2
  refine W_ret (fin_one rfl (rc_v ?_))
  all_goals (first | rfl | (simp_all; done))

theorem c_spec_l25Steps (n : Nat) (ss : List MStep) (hn : n ≤ 1048576) (hl : ss.length ≤ 9223372036854775807) : Ctr Try.prog 58 [.v (.int .i64 (n : Int)), .lst 4 (ss.map encMc)] (.one (.v (.bool (stepsV n ss)))) := by
  refine Ctr.of (n := 22) G Try.func58 rfl (by kernel_rfl) rfl rfl rfl (fun w0 => ?_)
  refine W_seq (fun K1 hK1 => ?_)
  refine W_region (WL_cons rfl (WX_q rfl rfl (q_assign rfl rfl) (?_)))
  refine WL_nil (hK1 _ ?_)
  clear hK1 K1
  refine W_seq (fun K2 hK2 => ?_)
  refine W_seq (fun K3 hK3 => ?_)
  refine W_region (WL_cons rfl (WX_q rfl rfl (q_assign rfl rfl) (?_)))
  refine WL_nil (hK3 _ ?_)
  clear hK3 K3
  refine W_block ?_
  refine W_loopK [0, 1] [] (fun (i : Nat) => [(5, .v (.int .i64 (i : Int)))]) (fun (i : Nat) => []) (fun (i : Nat) => i ≤ ss.length ∧ ∀ j, j < i → stepV n (ss.getD j default) = true) (fun (i : Nat) => ss.length - i) 0 rfl rfl ?_ ?_ ?_ ?_
  · exact ⟨Nat.zero_le _, fun j hj => by omega⟩
  · exact ⟨⟨_, rfl, by (first | rfl | (simp; done) | (simp; omega))⟩, rfl, trivial⟩
  · exact trivial
  · intro i hinv
    simp only [List.cons_append, List.nil_append]
    refine W_seq (fun K4 hK4 => ?_)
    refine W_seq (fun K5 hK5 => ?_)
    refine W_region (WL_cons rfl (WX_q rfl rfl (q_move rfl rfl) (WL_cons rfl (WX_q rfl rfl (q_move rfl rfl) (WL_cons rfl (?_))))))
    first | refine WX_q rfl rfl (q_len' G rfl rfl rfl rfl (List.length_map _)) ?_ | refine WX_q rfl rfl (q_len G rfl rfl rfl rfl) ?_
    refine WL_cons rfl (WX_q rfl rfl (q_cmp rfl rfl rfl rfl) (?_))
    refine WL_nil (hK5 _ ?_)
    clear hK5 K5
    refine W_cond rfl (fun h1 => ?_) (fun h1 => ?_)
    · try rw [h1]
      try simp only [decide_eq_true_eq, decide_eq_false_iff_not, beq_iff_eq, bne_iff_ne, ne_eq, Bool.not_eq_true', Bool.not_eq_false', beq_eq_false_iff_ne, bne_eq_false_iff_eq, Bool.not_eq_true, Bool.not_eq_false, Int.not_lt, Int.not_le, gt_iff_lt, ge_iff_le, Bool.and_eq_true, Bool.and_eq_false_iff, Bool.or_eq_true, Bool.or_eq_false_iff] at h1
      refine W_skip (hK4 _ ?_)
      clear hK4 K4
      refine W_seq (fun K6 hK6 => ?_)
      refine W_block ?_
      refine W_seq (fun K7 hK7 => ?_)
      refine W_region (WL_cons rfl (WX_q rfl rfl (q_move rfl rfl) (WL_cons rfl (WX_q rfl rfl (q_move rfl rfl) (WL_cons rfl (WX_q rfl rfl (q_move rfl rfl) (WL_cons rfl (?_))))))))
      refine WX_q rfl rfl (q_index_lst G rfl rfl rfl rfl (by omega) (getN (by omega))) ?_
      refine WL_cons rfl (WX_q rfl rfl (q_load_ept_struct G rfl rfl rfl rfl) (WL_cons rfl (?_)))
      refine WX_q rfl rfl (q_call rfl (ArgsOK.of rfl) (c_spec_l25Step _ _ (by first | assumption | omega)) rfl) ?_
      refine WL_cons rfl (WX_q rfl rfl (q_not rfl rfl) (?_))
      refine WL_nil (hK7 _ ?_)
      clear hK7 K7
      refine W_cond rfl (fun h2 => ?_) (fun h2 => ?_)
      · try rw [h2]
        try simp only [decide_eq_true_eq, decide_eq_false_iff_not, beq_iff_eq, bne_iff_ne, ne_eq, Bool.not_eq_true', Bool.not_eq_false', beq_eq_false_iff_ne, bne_eq_false_iff_eq, Bool.not_eq_true, Bool.not_eq_false, Int.not_lt, Int.not_le, gt_iff_lt, ge_iff_le, Bool.and_eq_true, Bool.and_eq_false_iff, Bool.or_eq_true, Bool.or_eq_false_iff] at h2
        refine W_seq (fun K8 hK8 => ?_)
        refine W_region (WL_cons rfl (WX_q rfl rfl (q_assign rfl rfl) (?_)))
        refine WL_nil (hK8 _ ?_)
        clear hK8 K8
        refine W_ret (fin_one rfl (rc_v ?_))
        all_goals clear hK6 K6 hK2 K2
        all_goals (first | (rw [stepsV_f (.inr ⟨i, by omega, by assumption⟩)]; done) | (have e : allN ss.length (fun i => stepV n (ss.getD i default)) = true := allN_t hinv.2 (by omega); simp only [stepsV, e, Bool.and_true]; congr 2; simp; omega) | (have e : allN ss.length (fun i => stepV n (ss.getD i default)) = true := allN_t hinv.2 (by omega); simp only [stepsV, e, Bool.and_true]; simp))
      · try rw [h2]
        try simp only [decide_eq_true_eq, decide_eq_false_iff_not, beq_iff_eq, bne_iff_ne, ne_eq, Bool.not_eq_true', Bool.not_eq_false', beq_eq_false_iff_ne, bne_eq_false_iff_eq, Bool.not_eq_true, Bool.not_eq_false, Int.not_lt, Int.not_le, gt_iff_lt, ge_iff_le, Bool.and_eq_true, Bool.and_eq_false_iff, Bool.or_eq_true, Bool.or_eq_false_iff] at h2
        refine W_skip (hK6 _ ?_)
        clear hK6 K6
        refine W_region (WL_cons rfl (WX_q rfl rfl (q_move rfl rfl) (WL_cons rfl (?_))))
        first | refine WX_q rfl rfl (q_arith rfl rfl rfl rfl (by omega) (by omega)) ?_ | refine WX_q rfl rfl (q_wrap rfl rfl rfl rfl) ?_
        refine WL_cons rfl (WX_q rfl rfl (q_assign rfl rfl) (?_))
        refine WL_nil ⟨(i + 1), ?_, ?_, ⟨⟨_, rfl, by rfl⟩, rfl, trivial⟩, trivial, rfl, rfl, rfl⟩
        · exact ⟨by omega, upto_succ hinv.2 (by assumption)⟩
        · omega
    · try rw [h1]
      try simp only [decide_eq_true_eq, decide_eq_false_iff_not, beq_iff_eq, bne_iff_ne, ne_eq, Bool.not_eq_true', Bool.not_eq_false', beq_eq_false_iff_ne, bne_eq_false_iff_eq, Bool.not_eq_true, Bool.not_eq_false, Int.not_lt, Int.not_le, gt_iff_lt, ge_iff_le, Bool.and_eq_true, Bool.and_eq_false_iff, Bool.or_eq_true, Bool.or_eq_false_iff] at h1
      refine W_exit (hK2 _ ?_)
      clear hK4 K4 hK2 K2
      refine W_seq (fun K9 hK9 => ?_)
      refine W_region (WL_cons rfl (WX_q rfl rfl (q_move rfl rfl) (WL_cons rfl (?_))))
      first | refine WX_q rfl rfl (q_len' G rfl rfl rfl rfl (List.length_map _)) ?_ | refine WX_q rfl rfl (q_len G rfl rfl rfl rfl) ?_
      refine WL_cons rfl (WX_q rfl rfl (q_cmp rfl rfl rfl rfl) (WL_cons rfl (WX_q rfl rfl (q_assign rfl rfl) (?_))))
      refine WL_nil (hK9 _ ?_)
      clear hK9 K9
      refine W_ret (fin_one rfl (rc_v ?_))
      all_goals (first | (rw [stepsV_f (.inr ⟨i, by omega, by assumption⟩)]; done) | (have e : allN ss.length (fun i => stepV n (ss.getD i default)) = true := allN_t hinv.2 (by omega); simp only [stepsV, e, Bool.and_true]; congr 2; simp; omega) | (have e : allN ss.length (fun i => stepV n (ss.getD i default)) = true := allN_t hinv.2 (by omega); simp only [stepsV, e, Bool.and_true]; simp))

set_option maxHeartbeats 1000000 in
theorem c_spec_RunAbstract (rs : List Route) (a : Abs) (ss : List MStep) (hs : SmallA a) (hn : rs.length ≤ 1048576) (hl : ss.length ≤ 1048576) : Ctr Try.prog 24 [.lst 2 (rs.map encRo), .agg [.lst 1 (a.en.map encO), .lst 1 (a.ra.map encO), .lst 1 (a.po.map encO), .lst 1 (a.ma.map encI), .nst none 1 (a.st.map encSt)], .lst 4 (ss.map encMc)] (.shp false [some 5, none, none] [.fr 4 1 ((rnT rs a ss).1.en.map encO), .fr 4 1 ((rnT rs a ss).1.ra.map encO), .fr 4 1 ((rnT rs a ss).1.po.map encO), .fr 3 1 ((rnT rs a ss).1.ma.map encI), .ne 24 1 ((rnT rs a ss).1.st.map encSt), .fr 3 1 ((rnT rs a ss).2.1.map encI), .v (.bool (rnT rs a ss).2.2)]) := by
  refine Ctr.of (n := 64) G Try.func24 rfl (by kernel_rfl) rfl rfl rfl (fun w0 => ?_)
  refine W_pinS 1 rfl (fun _ => rfl) (fun u1 => ?_)
  refine W_seq (fun K1 hK1 => ?_)
  refine W_region (WL_cons rfl (WX_box 1 rfl rfl rfl rfl rfl rfl rfl (WL_cons rfl (WX_alloc_s G 2 rfl rfl rfl rfl rfl (WL_cons rfl (WX_q rfl rfl (q_assign rfl rfl) (WL_cons rfl (WX_q rfl rfl (q_assign rfl rfl) (?_)))))))))
  refine WL_nil (hK1 _ ?_)
  clear hK1 K1
  refine W_seq (fun K2 hK2 => ?_)
  refine W_region (WL_cons rfl (WX_lit G 3 rfl rfl rfl rfl rfl rfl rfl rfl (WL_cons rfl (WX_q rfl rfl (q_assign rfl rfl) (?_)))))
  refine WL_nil (hK2 _ ?_)
  clear hK2 K2
  refine W_seq (fun K3 hK3 => ?_)
  refine W_seq (fun K4 hK4 => ?_)
  refine W_region (WL_cons rfl (WX_q rfl rfl (q_move rfl rfl) (WL_cons rfl (WX_q rfl rfl (q_load_box_struct G rfl rfl rfl rfl rfl rfl) (WL_cons rfl (?_))))))
  refine WX_q rfl rfl (q_call rfl (ArgsOK.of rfl) (c_spec_l25Good _ _ (by assumption) (by first | assumption | omega)) rfl) ?_
  refine WL_cons rfl (WX_q rfl rfl (q_not rfl rfl) (WL_cons rfl (WX_q rfl rfl (q_move rfl rfl) (WL_part rfl rfl rfl (fun h1 => ?_) (fun h1 => ?_)))))
  · try rw [h1]
    try simp only [decide_eq_true_eq, decide_eq_false_iff_not, beq_iff_eq, bne_iff_ne, ne_eq, Bool.not_eq_true', Bool.not_eq_false', beq_eq_false_iff_ne, bne_eq_false_iff_eq, Bool.not_eq_true, Bool.not_eq_false, Int.not_lt, Int.not_le, gt_iff_lt, ge_iff_le, Bool.and_eq_true, Bool.and_eq_false_iff, Bool.or_eq_true, Bool.or_eq_false_iff] at h1
    have hR := rnT_f1 (ss := ss) h1
    refine WL_skip rfl rfl rfl rfl rfl rfl (WL_skip rfl rfl rfl rfl rfl rfl (WL_skip rfl rfl rfl rfl rfl rfl (WL_skip rfl rfl rfl rfl rfl rfl (WL_skip rfl rfl rfl rfl rfl rfl (WL_skip rfl rfl rfl rfl rfl rfl (WL_cons rfl (WX_q rfl rfl (q_pick_t rfl rfl rfl) (?_))))))))
    refine WL_nil (hK4 _ ?_)
    clear hK4 K4
    refine W_true rfl ?_
    refine W_seq (fun K5 hK5 => ?_)
    refine W_region (WL_cons rfl (WX_q rfl rfl (q_build G rfl rfl rfl rfl) (WL_cons rfl (WX_q rfl rfl (q_move rfl rfl) (WL_cons rfl (WX_store G rfl rfl rfl rfl rfl rfl rfl rfl rfl rfl rfl (WL_cons rfl (WX_q rfl rfl (q_assign rfl rfl) (WL_cons rfl (WX_q rfl rfl (q_assign rfl rfl) (?_)))))))))))
    refine WL_nil (hK5 _ ?_)
    clear hK5 K5
    refine W_ret (fin_shp rfl rfl rfl rfl (rcs_cons (rc_nil ?_) (rcs_cons (rc_nil ?_) (rcs_cons (rc_nil ?_) (rcs_cons (rc_nil ?_) (rcs_cons (rc_niln ?_) (rcs_cons (rc_own rfl ?_) (rcs_cons (rc_v ?_) rcs_nil))))))))
    all_goals clear hK3 K3
    all_goals (first | (rw [hR]; done) | (rw [hR]; rfl) | (have hR := rnT_t h1 hsv; have e : i = ss.length := (by omega); subst e; rw [hR]; done))
  · try rw [h1]
    try simp only [decide_eq_true_eq, decide_eq_false_iff_not, beq_iff_eq, bne_iff_ne, ne_eq, Bool.not_eq_true', Bool.not_eq_false', beq_eq_false_iff_ne, bne_eq_false_iff_eq, Bool.not_eq_true, Bool.not_eq_false, Int.not_lt, Int.not_le, gt_iff_lt, ge_iff_le, Bool.and_eq_true, Bool.and_eq_false_iff, Bool.or_eq_true, Bool.or_eq_false_iff] at h1
    have hF := absF h1
    refine WL_run rfl rfl rfl (WX_q rfl rfl (q_field_ptr G rfl rfl rfl rfl) (WL_run rfl rfl rfl (WX_q rfl rfl (q_lst (q_load_box G rfl rfl rfl rfl rfl rfl rfl)) (WL_run rfl rfl rfl (?_)))))
    first | refine WX_q rfl rfl (q_len' G rfl rfl rfl rfl (List.length_map _)) ?_ | refine WX_q rfl rfl (q_len G rfl rfl rfl rfl) ?_
    refine WL_run rfl rfl rfl (WX_q rfl rfl (q_move rfl rfl) (WL_run rfl rfl rfl (?_)))
    refine WX_q rfl rfl (q_call rfl (ArgsOK.of rfl) (c_spec_l25Steps a.ma.length ss hs.ma (by omega)) rfl) ?_
    refine WL_run rfl rfl rfl (WX_q rfl rfl (q_not rfl rfl) (WL_cons rfl (WX_q rfl rfl (q_pick_f rfl rfl rfl) (?_))))
    refine WL_nil (hK4 _ ?_)
    clear hK4 K4
    refine W_cond rfl (fun h2 => ?_) (fun h2 => ?_)
    · try rw [h2]
      try simp only [decide_eq_true_eq, decide_eq_false_iff_not, beq_iff_eq, bne_iff_ne, ne_eq, Bool.not_eq_true', Bool.not_eq_false', beq_eq_false_iff_ne, bne_eq_false_iff_eq, Bool.not_eq_true, Bool.not_eq_false, Int.not_lt, Int.not_le, gt_iff_lt, ge_iff_le, Bool.and_eq_true, Bool.and_eq_false_iff, Bool.or_eq_true, Bool.or_eq_false_iff] at h2
      have hR := rnT_f2 (rs := rs) (a := a) (ss := ss) h2
      refine W_seq (fun K6 hK6 => ?_)
      refine W_region (WL_cons rfl (WX_q rfl rfl (q_build G rfl rfl rfl rfl) (WL_cons rfl (WX_q rfl rfl (q_move rfl rfl) (WL_cons rfl (WX_store G rfl rfl rfl rfl rfl rfl rfl rfl rfl rfl rfl (WL_cons rfl (WX_q rfl rfl (q_assign rfl rfl) (WL_cons rfl (WX_q rfl rfl (q_assign rfl rfl) (?_)))))))))))
      refine WL_nil (hK6 _ ?_)
      clear hK6 K6
      refine W_ret (fin_shp rfl rfl rfl rfl (rcs_cons (rc_nil ?_) (rcs_cons (rc_nil ?_) (rcs_cons (rc_nil ?_) (rcs_cons (rc_nil ?_) (rcs_cons (rc_niln ?_) (rcs_cons (rc_own rfl ?_) (rcs_cons (rc_v ?_) rcs_nil))))))))
      all_goals clear hK3 K3
      all_goals (first | (rw [hR]; done) | (rw [hR]; rfl) | (have hR := rnT_t h1 hsv; have e : i = ss.length := (by omega); subst e; rw [hR]; done))
    · try rw [h2]
      try simp only [decide_eq_true_eq, decide_eq_false_iff_not, beq_iff_eq, bne_iff_ne, ne_eq, Bool.not_eq_true', Bool.not_eq_false', beq_eq_false_iff_ne, bne_eq_false_iff_eq, Bool.not_eq_true, Bool.not_eq_false, Int.not_lt, Int.not_le, gt_iff_lt, ge_iff_le, Bool.and_eq_true, Bool.and_eq_false_iff, Bool.or_eq_true, Bool.or_eq_false_iff] at h2
      have hsv := h2
      have hv := (stepsV_iff.mp hsv).2
      have hl30 := (stepsV_iff.mp hsv).1
      refine W_skip (hK3 _ ?_)
      clear hK3 K3
      refine W_seq (fun K7 hK7 => ?_)
      refine W_region (WL_cons rfl (WX_q rfl rfl (q_load_box_struct G rfl rfl rfl rfl rfl rfl) (WL_cons rfl (?_))))
      refine WX_call 8 rfl rfl rfl (ArgsOK.of rfl) (c_spec_l25Own a hs) rfl rfl ?_
      refine WL_cons rfl (WX_alloc_s G 9 rfl rfl rfl rfl rfl (WL_cons rfl (WX_store G rfl rfl rfl rfl rfl rfl rfl rfl rfl rfl rfl (?_))))
      refine WL_nil (hK7 _ ?_)
      clear hK7 K7
      refine W_seq (fun K8 hK8 => ?_)
      refine W_seq (fun K9 hK9 => ?_)
      refine W_region (WL_cons rfl (WX_q rfl rfl (q_assign rfl rfl) (?_)))
      refine WL_nil (hK9 _ ?_)
      clear hK9 K9
      refine W_block ?_
      refine W_loopK [0, 2, 6, 10] [1, 8] (fun (i : Nat) => [(9, .own 2), (11, .v (.int .i64 (i : Int)))]) (fun (i : Nat) => [(2, some (.row 3 1 ((rnN rs a ss i).2.map encI))), (3, some (.row 4 1 ((rnN rs a ss i).1.en.map encO))), (4, some (.row 4 1 ((rnN rs a ss i).1.ra.map encO))), (5, some (.row 4 1 ((rnN rs a ss i).1.po.map encO))), (6, some (.row 3 1 ((rnN rs a ss i).1.ma.map encI))), (7, some (.nest 24 1 ((rnN rs a ss i).1.st.map encSt) []))]) (fun (i : Nat) => i ≤ ss.length) (fun (i : Nat) => ss.length - i) 0 rfl rfl ?_ ?_ ?_ ?_
      · exact Nat.zero_le _
      · exact ⟨⟨_, rfl, by rfl⟩, rfl, ⟨⟨_, rfl, by rfl⟩, rfl, trivial⟩⟩
      · exact ⟨⟨_, rfl, by rfl⟩, rfl, rfl, ⟨⟨_, rfl, by rfl⟩, rfl, rfl, ⟨⟨_, rfl, by rfl⟩, rfl, rfl, ⟨⟨_, rfl, by rfl⟩, rfl, rfl, ⟨⟨_, rfl, by rfl⟩, rfl, rfl, ⟨⟨_, rfl, by rfl⟩, rfl, rfl, trivial⟩⟩⟩⟩⟩⟩
      · intro i hinv
        have hFi := rnN_F hF hv i (by omega)
        have hvi : i < ss.length → stepV (rnN rs a ss i).1.ma.length (ss.getD i default) = true := fun h => (by rw [hFi.2]; exact hv i h)
        have hli := @rnN_len rs a ss i
        simp only [List.cons_append, List.nil_append]
        refine W_seq (fun K10 hK10 => ?_)
        refine W_seq (fun K11 hK11 => ?_)
        refine W_region (WL_cons rfl (WX_q rfl rfl (q_move rfl rfl) (WL_cons rfl (WX_q rfl rfl (q_move rfl rfl) (WL_cons rfl (?_))))))
        first | refine WX_q rfl rfl (q_len' G rfl rfl rfl rfl (List.length_map _)) ?_ | refine WX_q rfl rfl (q_len G rfl rfl rfl rfl) ?_
        refine WL_cons rfl (WX_q rfl rfl (q_cmp rfl rfl rfl rfl) (?_))
        refine WL_nil (hK11 _ ?_)
        clear hK11 K11
        refine W_cond rfl (fun h3 => ?_) (fun h3 => ?_)
        · try rw [h3]
          try simp only [decide_eq_true_eq, decide_eq_false_iff_not, beq_iff_eq, bne_iff_ne, ne_eq, Bool.not_eq_true', Bool.not_eq_false', beq_eq_false_iff_ne, bne_eq_false_iff_eq, Bool.not_eq_true, Bool.not_eq_false, Int.not_lt, Int.not_le, gt_iff_lt, ge_iff_le, Bool.and_eq_true, Bool.and_eq_false_iff, Bool.or_eq_true, Bool.or_eq_false_iff] at h3
          refine W_skip (hK10 _ ?_)
          clear hK10 K10
          refine W_seq (fun K12 hK12 => ?_)
          refine W_block ?_
          refine W_seq (fun K13 hK13 => ?_)
          refine W_drawsH 15 [1, 2, 3, 4, 5, 6, 7, 8] mixed (by kernel_rfl) rfl rfl (fun r0 => ?_) (fun _ h => h)
          refine WA_take 0 rfl (by kernel_rfl) (by kernel_rfl) rfl rfl rfl rfl (q_move rfl rfl) (WA_take 1 rfl (by kernel_rfl) (by kernel_rfl) rfl rfl rfl rfl (q_load_box_struct G rfl rfl rfl rfl rfl rfl) (WA_take 2 rfl (by kernel_rfl) (by kernel_rfl) rfl rfl rfl rfl (q_move rfl rfl) (WA_take 3 rfl (by kernel_rfl) (by kernel_rfl) rfl rfl rfl rfl (q_move rfl rfl) (?_))))
          refine WA_take 4 rfl (by kernel_rfl) (by kernel_rfl) rfl rfl rfl rfl (q_index_lst G rfl rfl rfl rfl (by omega) (getN (by omega))) ?_
          refine WA_take 5 rfl (by kernel_rfl) (by kernel_rfl) rfl rfl rfl rfl (q_load_ept_struct G rfl rfl rfl rfl) (?_)
          refine WA_more (N := 10) rfl (WAV_startH (fuel := 8) [⟨11, 12, 9, true, .box (avR [.slice none 0 0, .slice none 0 0, .slice none 0 0, .slice none 0 0, .slice none 0 0] [])⟩] (AllVOK.cons (VOK.boxS G rfl rfl rfl rfl rfl) (AllVOK.nil)) (fun hok => ?_))
          refine WAV_go [(6, [])] (by kernel_rfl) (by kernel_rfl) (fun e he => hok e he) (by kernel_rfl) (AllVS.cons ?_ AllVS.nil)
          refine VStep.mk0 [1, 2, 3, 4, 5, 6, 7, 8] rfl rfl (fun b1 _ hbn => WX_call 15 rfl rfl rfl (ArgsOK.of rfl) (c_spec_l25Make rs _ _ _ _ _ hFi.1 (hvi (by omega))) rfl rfl (WL_nil rfl)) (by kernel_rfl) (by kernel_rfl) (by kernel_rfl) (by kernel_rfl) ?_
          refine WAV_take 7 rfl (by kernel_rfl) rfl rfl rfl rfl (q_move rfl rfl) (by kernel_rfl) (by kernel_rfl) (by kernel_rfl) ?_
          refine WAV_take 8 rfl (by kernel_rfl) rfl rfl rfl rfl (q_extract rfl rfl rfl) (by kernel_rfl) (by kernel_rfl) (by kernel_rfl) ?_
          refine WAV_take 9 rfl (by kernel_rfl) rfl rfl rfl rfl (q_extract rfl rfl rfl) (by kernel_rfl) (by kernel_rfl) (by kernel_rfl) ?_
          refine WAV_take 10 rfl (by kernel_rfl) rfl rfl rfl rfl (q_extract rfl rfl rfl) (by kernel_rfl) (by kernel_rfl) (by kernel_rfl) ?_
          refine WAV_go [(12, [11])] (by kernel_rfl) (by kernel_rfl) (fun e he => hok e (by first | exact he | cases he | exact List.mem_cons_of_mem _ he | (simp only [List.mem_cons, List.not_mem_nil, or_false] at he ⊢; first | exact he | exact .inl he | exact .inr he | (rcases he with he | he <;> simp [he])))) (by kernel_rfl) (AllVS.cons ?_ AllVS.nil)
          refine VStep.mk1 [1, 2, 3, 4, 5, 6, 7, 8] 12 (.ptr 9 0) 9 (.box (avR [.slice none 0 0, .slice none 0 0, .slice none 0 0, .slice none 0 0, .slice none 0 0] [])) [] rfl rfl rfl rfl rfl (fun b1 _ hbn => WX_store G rfl rfl rfl rfl rfl rfl rfl rfl rfl rfl rfl (WL_nil rfl)) (by kernel_rfl) (by kernel_rfl) (by kernel_rfl) (by kernel_rfl) ?_
          refine WAV_nil ?_
          clear hok
          refine WA_take 13 rfl (by kernel_rfl) (by kernel_rfl) rfl rfl rfl rfl (q_assign rfl rfl) (WA_take 14 rfl (by kernel_rfl) (by kernel_rfl) rfl rfl rfl rfl (q_assign rfl rfl) (?_))
          refine WA_end (by kernel_rfl) (hK13 _ ?_)
          clear hK13 K13
          refine W_seq (fun K14 hK14 => ?_)
          refine W_seq (fun K15 hK15 => ?_)
          refine W_region (WL_cons rfl (WX_q rfl rfl (q_move rfl rfl) (WL_cons rfl (WX_q rfl rfl (q_not rfl rfl) (?_)))))
          refine WL_nil (hK15 _ ?_)
          clear hK15 K15
          refine W_cond rfl (fun h4 => ?_) (fun h4 => ?_)
          · try rw [h4]
            try simp only [decide_eq_true_eq, decide_eq_false_iff_not, beq_iff_eq, bne_iff_ne, ne_eq, Bool.not_eq_true', Bool.not_eq_false', beq_eq_false_iff_ne, bne_eq_false_iff_eq, Bool.not_eq_true, Bool.not_eq_false, Int.not_lt, Int.not_le, gt_iff_lt, ge_iff_le, Bool.and_eq_true, Bool.and_eq_false_iff, Bool.or_eq_true, Bool.or_eq_false_iff] at h4
            refine W_exit (hK12 _ ?_)
            clear hK14 K14 hK12 K12
            refine W_region (WL_cons rfl (WX_q rfl rfl (q_move rfl rfl) (WL_cons rfl (?_))))
            first | refine WX_q rfl rfl (q_arith rfl rfl rfl rfl (by omega) (by omega)) ?_ | refine WX_q rfl rfl (q_wrap rfl rfl rfl rfl) ?_
            refine WL_cons rfl (WX_q rfl rfl (q_assign rfl rfl) (?_))
            refine WL_nil ⟨(i + 1), ?_, ?_, ⟨⟨_, rfl, by rfl⟩, rfl, ⟨⟨_, rfl, by rfl⟩, rfl, trivial⟩⟩, ⟨⟨_, rfl, by (first | rfl | (rw [rnN_f (by assumption)]; done) | (rw [rnN_1 (by assumption)]; done) | (rw [rnN_3 (by assumption) (by assumption), List.map_append]; rfl) | (rw [rnN_n3 (by assumption) (by assumption)]; done) | (rw [rnN_f (by rw [makeA_no hno])]; done))⟩, rfl, rfl, ⟨⟨_, rfl, by (first | rfl | (rw [rnN_f (by assumption)]; done) | (rw [rnN_1 (by assumption)]; done) | (rw [rnN_3 (by assumption) (by assumption), List.map_append]; rfl) | (rw [rnN_n3 (by assumption) (by assumption)]; done) | (rw [rnN_f (by rw [makeA_no hno])]; done))⟩, rfl, rfl, ⟨⟨_, rfl, by (first | rfl | (rw [rnN_f (by assumption)]; done) | (rw [rnN_1 (by assumption)]; done) | (rw [rnN_3 (by assumption) (by assumption), List.map_append]; rfl) | (rw [rnN_n3 (by assumption) (by assumption)]; done) | (rw [rnN_f (by rw [makeA_no hno])]; done))⟩, rfl, rfl, ⟨⟨_, rfl, by (first | rfl | (rw [rnN_f (by assumption)]; done) | (rw [rnN_1 (by assumption)]; done) | (rw [rnN_3 (by assumption) (by assumption), List.map_append]; rfl) | (rw [rnN_n3 (by assumption) (by assumption)]; done) | (rw [rnN_f (by rw [makeA_no hno])]; done))⟩, rfl, rfl, ⟨⟨_, rfl, by (first | rfl | (rw [rnN_f (by assumption)]; done) | (rw [rnN_1 (by assumption)]; done) | (rw [rnN_3 (by assumption) (by assumption), List.map_append]; rfl) | (rw [rnN_n3 (by assumption) (by assumption)]; done) | (rw [rnN_f (by rw [makeA_no hno])]; done))⟩, rfl, rfl, ⟨⟨_, rfl, by (first | rfl | (rw [rnN_f (by assumption)]; done) | (rw [rnN_1 (by assumption)]; done) | (rw [rnN_3 (by assumption) (by assumption), List.map_append]; rfl) | (rw [rnN_n3 (by assumption) (by assumption)]; done) | (rw [rnN_f (by rw [makeA_no hno])]; done))⟩, rfl, rfl, trivial⟩⟩⟩⟩⟩⟩, rfl, rfl, rfl⟩
            · omega
            · omega
          · try rw [h4]
            try simp only [decide_eq_true_eq, decide_eq_false_iff_not, beq_iff_eq, bne_iff_ne, ne_eq, Bool.not_eq_true', Bool.not_eq_false', beq_eq_false_iff_ne, bne_eq_false_iff_eq, Bool.not_eq_true, Bool.not_eq_false, Int.not_lt, Int.not_le, gt_iff_lt, ge_iff_le, Bool.and_eq_true, Bool.and_eq_false_iff, Bool.or_eq_true, Bool.or_eq_false_iff] at h4
            refine W_skip (hK14 _ ?_)
            clear hK14 K14
            refine W_seq (fun K16 hK16 => ?_)
            refine W_region (WL_cons rfl (WX_q rfl rfl (q_load_box_struct G rfl rfl rfl rfl rfl rfl) (WL_cons rfl (WX_store G rfl rfl rfl rfl rfl rfl rfl rfl rfl rfl rfl (?_)))))
            refine WL_nil (hK16 _ ?_)
            clear hK16 K16
            refine W_seq (fun K17 hK17 => ?_)
            refine W_region (WL_cons rfl (WX_q rfl rfl (q_move rfl rfl) (WL_cons rfl (WX_q rfl rfl (q_move rfl rfl) (WL_cons rfl (?_))))))
            refine WX_q rfl rfl (q_index_lst G rfl rfl rfl rfl (by omega) (getN (by omega))) ?_
            refine WL_cons rfl (WX_q rfl rfl (q_field_ept G rfl rfl rfl rfl) (WL_cons rfl (WX_q rfl rfl (q_load_ept G rfl rfl rfl rfl rfl) (WL_cons rfl (WX_q rfl rfl (q_cmp rfl rfl rfl rfl) (?_))))))
            refine WL_nil (hK17 _ ?_)
            clear hK17 K17
            refine W_cond rfl (fun h5 => ?_) (fun h5 => ?_)
            · try rw [h5]
              try simp only [decide_eq_true_eq, decide_eq_false_iff_not, beq_iff_eq, bne_iff_ne, ne_eq, Bool.not_eq_true', Bool.not_eq_false', beq_eq_false_iff_ne, bne_eq_false_iff_eq, Bool.not_eq_true, Bool.not_eq_false, Int.not_lt, Int.not_le, gt_iff_lt, ge_iff_le, Bool.and_eq_true, Bool.and_eq_false_iff, Bool.or_eq_true, Bool.or_eq_false_iff] at h5
              refine W_region (WL_cons rfl (WX_q rfl rfl (q_move rfl rfl) (WL_cons rfl (WX_q rfl rfl (q_move rfl rfl) (WL_cons rfl (WX_lit G 16 rfl rfl rfl rfl rfl rfl rfl rfl (WL_cons rfl (?_))))))))
              refine WX_append G np rfl rfl rfl rfl rfl rfl rfl rfl rfl (by first | (simp only [List.length_map, List.length_cons, List.length_nil]; omega) | (simp; omega)) rfl rfl ?_
              refine WL_cons rfl (WX_q rfl rfl (q_assign rfl rfl) (?_))
              refine WL_nil (hK12 _ ?_)
              clear hK12 K12
              refine W_region (WL_cons rfl (WX_q rfl rfl (q_move rfl rfl) (WL_cons rfl (?_))))
              first | refine WX_q rfl rfl (q_arith rfl rfl rfl rfl (by omega) (by omega)) ?_ | refine WX_q rfl rfl (q_wrap rfl rfl rfl rfl) ?_
              refine WL_cons rfl (WX_q rfl rfl (q_assign rfl rfl) (?_))
              refine WL_gh (Gh.sub 10 3 np rfl rfl rfl) ?_
              refine WL_gh (Gh.sub 11 4 np rfl rfl rfl) ?_
              refine WL_gh (Gh.sub 12 5 np rfl rfl rfl) ?_
              refine WL_gh (Gh.sub 13 6 np rfl rfl rfl) ?_
              refine WL_gh (Gh.sub 14 7 np rfl rfl rfl) ?_
              refine WL_nil ⟨(i + 1), ?_, ?_, ⟨⟨_, rfl, by rfl⟩, rfl, ⟨⟨_, rfl, by rfl⟩, rfl, trivial⟩⟩, ⟨⟨_, rfl, by (first | rfl | (rw [rnN_f (by assumption)]; done) | (rw [rnN_1 (by assumption)]; done) | (rw [rnN_3 (by assumption) (by assumption), List.map_append]; rfl) | (rw [rnN_n3 (by assumption) (by assumption)]; done) | (rw [rnN_f (by rw [makeA_no hno])]; done))⟩, rfl, rfl, ⟨⟨_, rfl, by (first | rfl | (rw [rnN_f (by assumption)]; done) | (rw [rnN_1 (by assumption)]; done) | (rw [rnN_3 (by assumption) (by assumption), List.map_append]; rfl) | (rw [rnN_n3 (by assumption) (by assumption)]; done) | (rw [rnN_f (by rw [makeA_no hno])]; done))⟩, rfl, rfl, ⟨⟨_, rfl, by (first | rfl | (rw [rnN_f (by assumption)]; done) | (rw [rnN_1 (by assumption)]; done) | (rw [rnN_3 (by assumption) (by assumption), List.map_append]; rfl) | (rw [rnN_n3 (by assumption) (by assumption)]; done) | (rw [rnN_f (by rw [makeA_no hno])]; done))⟩, rfl, rfl, ⟨⟨_, rfl, by (first | rfl | (rw [rnN_f (by assumption)]; done) | (rw [rnN_1 (by assumption)]; done) | (rw [rnN_3 (by assumption) (by assumption), List.map_append]; rfl) | (rw [rnN_n3 (by assumption) (by assumption)]; done) | (rw [rnN_f (by rw [makeA_no hno])]; done))⟩, rfl, rfl, ⟨⟨_, rfl, by (first | rfl | (rw [rnN_f (by assumption)]; done) | (rw [rnN_1 (by assumption)]; done) | (rw [rnN_3 (by assumption) (by assumption), List.map_append]; rfl) | (rw [rnN_n3 (by assumption) (by assumption)]; done) | (rw [rnN_f (by rw [makeA_no hno])]; done))⟩, rfl, rfl, ⟨⟨_, rfl, by (first | rfl | (rw [rnN_f (by assumption)]; done) | (rw [rnN_1 (by assumption)]; done) | (rw [rnN_3 (by assumption) (by assumption), List.map_append]; rfl) | (rw [rnN_n3 (by assumption) (by assumption)]; done) | (rw [rnN_f (by rw [makeA_no hno])]; done))⟩, rfl, rfl, trivial⟩⟩⟩⟩⟩⟩, rfl, rfl, rfl⟩
              · omega
              · omega
            · try rw [h5]
              try simp only [decide_eq_true_eq, decide_eq_false_iff_not, beq_iff_eq, bne_iff_ne, ne_eq, Bool.not_eq_true', Bool.not_eq_false', beq_eq_false_iff_ne, bne_eq_false_iff_eq, Bool.not_eq_true, Bool.not_eq_false, Int.not_lt, Int.not_le, gt_iff_lt, ge_iff_le, Bool.and_eq_true, Bool.and_eq_false_iff, Bool.or_eq_true, Bool.or_eq_false_iff] at h5
              refine W_skip (hK12 _ ?_)
              clear hK12 K12
              refine W_region (WL_cons rfl (WX_q rfl rfl (q_move rfl rfl) (WL_cons rfl (?_))))
              first | refine WX_q rfl rfl (q_arith rfl rfl rfl rfl (by omega) (by omega)) ?_ | refine WX_q rfl rfl (q_wrap rfl rfl rfl rfl) ?_
              refine WL_cons rfl (WX_q rfl rfl (q_assign rfl rfl) (?_))
              refine WL_gh (Gh.sub 10 3 np rfl rfl rfl) ?_
              refine WL_gh (Gh.sub 11 4 np rfl rfl rfl) ?_
              refine WL_gh (Gh.sub 12 5 np rfl rfl rfl) ?_
              refine WL_gh (Gh.sub 13 6 np rfl rfl rfl) ?_
              refine WL_gh (Gh.sub 14 7 np rfl rfl rfl) ?_
              refine WL_nil ⟨(i + 1), ?_, ?_, ⟨⟨_, rfl, by rfl⟩, rfl, ⟨⟨_, rfl, by rfl⟩, rfl, trivial⟩⟩, ⟨⟨_, rfl, by (first | rfl | (rw [rnN_f (by assumption)]; done) | (rw [rnN_1 (by assumption)]; done) | (rw [rnN_3 (by assumption) (by assumption), List.map_append]; rfl) | (rw [rnN_n3 (by assumption) (by assumption)]; done) | (rw [rnN_f (by rw [makeA_no hno])]; done))⟩, rfl, rfl, ⟨⟨_, rfl, by (first | rfl | (rw [rnN_f (by assumption)]; done) | (rw [rnN_1 (by assumption)]; done) | (rw [rnN_3 (by assumption) (by assumption), List.map_append]; rfl) | (rw [rnN_n3 (by assumption) (by assumption)]; done) | (rw [rnN_f (by rw [makeA_no hno])]; done))⟩, rfl, rfl, ⟨⟨_, rfl, by (first | rfl | (rw [rnN_f (by assumption)]; done) | (rw [rnN_1 (by assumption)]; done) | (rw [rnN_3 (by assumption) (by assumption), List.map_append]; rfl) | (rw [rnN_n3 (by assumption) (by assumption)]; done) | (rw [rnN_f (by rw [makeA_no hno])]; done))⟩, rfl, rfl, ⟨⟨_, rfl, by (first | rfl | (rw [rnN_f (by assumption)]; done) | (rw [rnN_1 (by assumption)]; done) | (rw [rnN_3 (by assumption) (by assumption), List.map_append]; rfl) | (rw [rnN_n3 (by assumption) (by assumption)]; done) | (rw [rnN_f (by rw [makeA_no hno])]; done))⟩, rfl, rfl, ⟨⟨_, rfl, by (first | rfl | (rw [rnN_f (by assumption)]; done) | (rw [rnN_1 (by assumption)]; done) | (rw [rnN_3 (by assumption) (by assumption), List.map_append]; rfl) | (rw [rnN_n3 (by assumption) (by assumption)]; done) | (rw [rnN_f (by rw [makeA_no hno])]; done))⟩, rfl, rfl, ⟨⟨_, rfl, by (first | rfl | (rw [rnN_f (by assumption)]; done) | (rw [rnN_1 (by assumption)]; done) | (rw [rnN_3 (by assumption) (by assumption), List.map_append]; rfl) | (rw [rnN_n3 (by assumption) (by assumption)]; done) | (rw [rnN_f (by rw [makeA_no hno])]; done))⟩, rfl, rfl, trivial⟩⟩⟩⟩⟩⟩, rfl, rfl, rfl⟩
              · omega
              · omega
        · try rw [h3]
          try simp only [decide_eq_true_eq, decide_eq_false_iff_not, beq_iff_eq, bne_iff_ne, ne_eq, Bool.not_eq_true', Bool.not_eq_false', beq_eq_false_iff_ne, bne_eq_false_iff_eq, Bool.not_eq_true, Bool.not_eq_false, Int.not_lt, Int.not_le, gt_iff_lt, ge_iff_le, Bool.and_eq_true, Bool.and_eq_false_iff, Bool.or_eq_true, Bool.or_eq_false_iff] at h3
          refine W_exit (hK8 _ ?_)
          clear hK10 K10 hK8 K8
          refine W_seq (fun K18 hK18 => ?_)
          refine W_region (WL_cons rfl (WX_q rfl rfl (q_load_box_struct G rfl rfl rfl rfl rfl rfl) (WL_cons rfl (WX_q rfl rfl (q_move rfl rfl) (WL_cons rfl (WX_store G rfl rfl rfl rfl rfl rfl rfl rfl rfl rfl rfl (WL_cons rfl (WX_q rfl rfl (q_assign rfl rfl) (WL_cons rfl (WX_q rfl rfl (q_assign rfl rfl) (?_)))))))))))
          refine WL_nil (hK18 _ ?_)
          clear hK18 K18
          refine W_ret (fin_shp rfl rfl rfl rfl (rcs_cons (rc_own rfl ?_) (rcs_cons (rc_own rfl ?_) (rcs_cons (rc_own rfl ?_) (rcs_cons (rc_own rfl ?_) (rcs_cons (rc_ne rfl ?_) (rcs_cons (rc_own rfl ?_) (rcs_cons (rc_v ?_) rcs_nil))))))))
          all_goals (first | (rw [hR]; done) | (rw [hR]; rfl) | (have hR := rnT_t h1 hsv; have e : i = ss.length := (by omega); subst e; rw [hR]; done))

set_option maxHeartbeats 1000000 in
theorem c_impl_RunAbstract (rs : List Route) (a : Abs) (ss : List MStep) (hs : SmallA a) (hn : rs.length ≤ 1048576) (hl : ss.length ≤ 1048576) : Ctr Try.prog 26 [.lst 2 (rs.map encRo), .agg [.lst 1 (a.en.map encO), .lst 1 (a.ra.map encO), .lst 1 (a.po.map encO), .lst 1 (a.ma.map encI), .nst none 1 (a.st.map encSt)], .lst 4 (ss.map encMc)] (.shp false [some 5, none, none] [.fr 4 1 ((rnT rs a ss).1.en.map encO), .fr 4 1 ((rnT rs a ss).1.ra.map encO), .fr 4 1 ((rnT rs a ss).1.po.map encO), .fr 3 1 ((rnT rs a ss).1.ma.map encI), .ne 24 1 ((rnT rs a ss).1.st.map encSt), .fr 3 1 ((rnT rs a ss).2.1.map encI), .v (.bool (rnT rs a ss).2.2)]) := by
  refine Ctr.of (n := 61) G Try.func26 rfl (by kernel_rfl) rfl rfl rfl (fun w0 => ?_)
  refine W_pinS 1 rfl (fun _ => rfl) (fun u1 => ?_)
  refine W_seq (fun K1 hK1 => ?_)
  refine W_region (WL_cons rfl (WX_box 1 rfl rfl rfl rfl rfl rfl rfl (WL_cons rfl (WX_alloc_s G 2 rfl rfl rfl rfl rfl (WL_cons rfl (WX_q rfl rfl (q_assign rfl rfl) (WL_cons rfl (WX_q rfl rfl (q_assign rfl rfl) (?_)))))))))
  refine WL_nil (hK1 _ ?_)
  clear hK1 K1
  refine W_seq (fun K2 hK2 => ?_)
  refine W_seq (fun K3 hK3 => ?_)
  refine W_region (WL_cons rfl (WX_q rfl rfl (q_move rfl rfl) (WL_cons rfl (WX_q rfl rfl (q_load_box_struct G rfl rfl rfl rfl rfl rfl) (WL_cons rfl (?_))))))
  refine WX_q rfl rfl (q_call rfl (ArgsOK.of rfl) (c_impl_IsAbstract _ _ (by assumption) (by first | assumption | omega)) rfl) ?_
  refine WL_cons rfl (WX_q rfl rfl (q_not rfl rfl) (WL_cons rfl (WX_q rfl rfl (q_move rfl rfl) (WL_part rfl rfl rfl (fun h1 => ?_) (fun h1 => ?_)))))
  · try rw [h1]
    try simp only [decide_eq_true_eq, decide_eq_false_iff_not, beq_iff_eq, bne_iff_ne, ne_eq, Bool.not_eq_true', Bool.not_eq_false', beq_eq_false_iff_ne, bne_eq_false_iff_eq, Bool.not_eq_true, Bool.not_eq_false, Int.not_lt, Int.not_le, gt_iff_lt, ge_iff_le, Bool.and_eq_true, Bool.and_eq_false_iff, Bool.or_eq_true, Bool.or_eq_false_iff] at h1
    have hR := rnT_f1 (ss := ss) h1
    refine WL_skip rfl rfl rfl rfl rfl rfl (WL_skip rfl rfl rfl rfl rfl rfl (WL_skip rfl rfl rfl rfl rfl rfl (WL_cons rfl (WX_q rfl rfl (q_pick_t rfl rfl rfl) (WL_cons rfl (WX_q rfl rfl (q_move rfl rfl) (WL_skip rfl rfl rfl rfl rfl rfl (WL_skip rfl rfl rfl rfl rfl rfl (WL_skip rfl rfl rfl rfl rfl rfl (WL_cons rfl (WX_q rfl rfl (q_pick_t rfl rfl rfl) (?_))))))))))))
    refine WL_nil (hK3 _ ?_)
    clear hK3 K3
    refine W_true rfl ?_
    refine W_seq (fun K4 hK4 => ?_)
    refine W_region (WL_cons rfl (WX_q rfl rfl (q_build G rfl rfl rfl rfl) (WL_cons rfl (WX_store G rfl rfl rfl rfl rfl rfl rfl rfl rfl rfl rfl (WL_cons rfl (WX_q rfl rfl (q_assign rfl rfl) (WL_cons rfl (WX_q rfl rfl (q_assign rfl rfl) (?_)))))))))
    refine WL_nil (hK4 _ ?_)
    clear hK4 K4
    refine W_ret (fin_shp rfl rfl rfl rfl (rcs_cons (rc_nil ?_) (rcs_cons (rc_nil ?_) (rcs_cons (rc_nil ?_) (rcs_cons (rc_nil ?_) (rcs_cons (rc_niln ?_) (rcs_cons (rc_nil ?_) (rcs_cons (rc_v ?_) rcs_nil))))))))
    all_goals clear hK2 K2
    all_goals (first | (rw [hR]; done) | (rw [hR]; rfl) | (have hR := rnT_t h1 hsv; have e : i = ss.length := (by omega); subst e; rw [hR]; done))
  · try rw [h1]
    try simp only [decide_eq_true_eq, decide_eq_false_iff_not, beq_iff_eq, bne_iff_ne, ne_eq, Bool.not_eq_true', Bool.not_eq_false', beq_eq_false_iff_ne, bne_eq_false_iff_eq, Bool.not_eq_true, Bool.not_eq_false, Int.not_lt, Int.not_le, gt_iff_lt, ge_iff_le, Bool.and_eq_true, Bool.and_eq_false_iff, Bool.or_eq_true, Bool.or_eq_false_iff] at h1
    have hF := absF h1
    refine WL_run rfl rfl rfl (WX_q rfl rfl (q_move rfl rfl) (WL_run rfl rfl rfl (?_)))
    first | refine WX_q rfl rfl (q_len' G rfl rfl rfl rfl (List.length_map _)) ?_ | refine WX_q rfl rfl (q_len G rfl rfl rfl rfl) ?_
    refine WL_run rfl rfl rfl (WX_q rfl rfl (q_cmp rfl rfl rfl rfl) (WL_cons rfl (WX_q rfl rfl (q_pick_f rfl rfl rfl) (WL_cons rfl (WX_q rfl rfl (q_move rfl rfl) (WL_part rfl rfl rfl (fun h2 => ?_) (fun h2 => ?_)))))))
    · try rw [h2]
      try simp only [decide_eq_true_eq, decide_eq_false_iff_not, beq_iff_eq, bne_iff_ne, ne_eq, Bool.not_eq_true', Bool.not_eq_false', beq_eq_false_iff_ne, bne_eq_false_iff_eq, Bool.not_eq_true, Bool.not_eq_false, Int.not_lt, Int.not_le, gt_iff_lt, ge_iff_le, Bool.and_eq_true, Bool.and_eq_false_iff, Bool.or_eq_true, Bool.or_eq_false_iff] at h2
      have hR := rnT_f2 (rs := rs) (a := a) (ss := ss) (stepsV_f (.inl (by omega)))
      refine WL_skip rfl rfl rfl rfl rfl rfl (WL_skip rfl rfl rfl rfl rfl rfl (WL_skip rfl rfl rfl rfl rfl rfl (WL_cons rfl (WX_q rfl rfl (q_pick_t rfl rfl rfl) (?_)))))
      refine WL_nil (hK3 _ ?_)
      clear hK3 K3
      refine W_true rfl ?_
      refine W_seq (fun K5 hK5 => ?_)
      refine W_region (WL_cons rfl (WX_q rfl rfl (q_build G rfl rfl rfl rfl) (WL_cons rfl (WX_store G rfl rfl rfl rfl rfl rfl rfl rfl rfl rfl rfl (WL_cons rfl (WX_q rfl rfl (q_assign rfl rfl) (WL_cons rfl (WX_q rfl rfl (q_assign rfl rfl) (?_)))))))))
      refine WL_nil (hK5 _ ?_)
      clear hK5 K5
      refine W_ret (fin_shp rfl rfl rfl rfl (rcs_cons (rc_nil ?_) (rcs_cons (rc_nil ?_) (rcs_cons (rc_nil ?_) (rcs_cons (rc_nil ?_) (rcs_cons (rc_niln ?_) (rcs_cons (rc_nil ?_) (rcs_cons (rc_v ?_) rcs_nil))))))))
      all_goals clear hK2 K2
      all_goals (first | (rw [hR]; done) | (rw [hR]; rfl) | (have hR := rnT_t h1 hsv; have e : i = ss.length := (by omega); subst e; rw [hR]; done))
    · try rw [h2]
      try simp only [decide_eq_true_eq, decide_eq_false_iff_not, beq_iff_eq, bne_iff_ne, ne_eq, Bool.not_eq_true', Bool.not_eq_false', beq_eq_false_iff_ne, bne_eq_false_iff_eq, Bool.not_eq_true, Bool.not_eq_false, Int.not_lt, Int.not_le, gt_iff_lt, ge_iff_le, Bool.and_eq_true, Bool.and_eq_false_iff, Bool.or_eq_true, Bool.or_eq_false_iff] at h2
      refine WL_run rfl rfl rfl (WX_q rfl rfl (q_move rfl rfl) (WL_run rfl rfl rfl (WX_q rfl rfl (q_func rfl rfl) (WL_run rfl rfl rfl (?_)))))
      refine WX_q rfl rfl (q_call rfl (ArgsOK.of rfl) (c_slices_ContainsFunc_impl_MachStep_impl_MachStep ss 61 a (fun x => !stepV a.ma.length x) hl (fun k hk => c_impl_RunAbstract_1 _ _ hs)) rfl) ?_
      refine WL_cons rfl (WX_q rfl rfl (q_pick_f rfl rfl rfl) (?_))
      refine WL_nil (hK3 _ ?_)
      clear hK3 K3
      refine W_cond rfl (fun h3 => ?_) (fun h3 => ?_)
      · try rw [h3]
        try simp only [decide_eq_true_eq, decide_eq_false_iff_not, beq_iff_eq, bne_iff_ne, ne_eq, Bool.not_eq_true', Bool.not_eq_false', beq_eq_false_iff_ne, bne_eq_false_iff_eq, Bool.not_eq_true, Bool.not_eq_false, Int.not_lt, Int.not_le, gt_iff_lt, ge_iff_le, Bool.and_eq_true, Bool.and_eq_false_iff, Bool.or_eq_true, Bool.or_eq_false_iff] at h3
        obtain ⟨j, hj, hj2⟩ := anyN_iff.mp h3
        have hR := rnT_f2 (rs := rs) (a := a) (ss := ss) (stepsV_f (.inr ⟨j, hj, by simpa using hj2⟩))
        refine W_seq (fun K6 hK6 => ?_)
        refine W_region (WL_cons rfl (WX_q rfl rfl (q_build G rfl rfl rfl rfl) (WL_cons rfl (WX_store G rfl rfl rfl rfl rfl rfl rfl rfl rfl rfl rfl (WL_cons rfl (WX_q rfl rfl (q_assign rfl rfl) (WL_cons rfl (WX_q rfl rfl (q_assign rfl rfl) (?_)))))))))
        refine WL_nil (hK6 _ ?_)
        clear hK6 K6
        refine W_ret (fin_shp rfl rfl rfl rfl (rcs_cons (rc_nil ?_) (rcs_cons (rc_nil ?_) (rcs_cons (rc_nil ?_) (rcs_cons (rc_nil ?_) (rcs_cons (rc_niln ?_) (rcs_cons (rc_nil ?_) (rcs_cons (rc_v ?_) rcs_nil))))))))
        all_goals clear hK2 K2
        all_goals (first | (rw [hR]; done) | (rw [hR]; rfl) | (have hR := rnT_t h1 hsv; have e : i = ss.length := (by omega); subst e; rw [hR]; done))
      · try rw [h3]
        try simp only [decide_eq_true_eq, decide_eq_false_iff_not, beq_iff_eq, bne_iff_ne, ne_eq, Bool.not_eq_true', Bool.not_eq_false', beq_eq_false_iff_ne, bne_eq_false_iff_eq, Bool.not_eq_true, Bool.not_eq_false, Int.not_lt, Int.not_le, gt_iff_lt, ge_iff_le, Bool.and_eq_true, Bool.and_eq_false_iff, Bool.or_eq_true, Bool.or_eq_false_iff] at h3
        have hv : ∀ i, i < ss.length → stepV a.ma.length (ss.getD i default) = true := fun i hi => by simpa using anyN_nf.mp h3 i hi
        have hsv := stepsV_iff.mpr ⟨show ss.length ≤ 30 by omega, hv⟩
        refine W_skip (hK2 _ ?_)
        clear hK2 K2
        refine W_seq (fun K7 hK7 => ?_)
        refine W_region (WL_cons rfl (WX_q rfl rfl (q_load_box_struct G rfl rfl rfl rfl rfl rfl) (WL_cons rfl (?_))))
        refine WX_call 7 rfl rfl rfl (ArgsOK.of rfl) (c_impl_newAbstract a hs) rfl rfl ?_
        refine WL_cons rfl (WX_lit G 8 rfl rfl rfl rfl rfl rfl rfl rfl (WL_cons rfl (WX_alloc_s G 9 rfl rfl rfl rfl rfl (WL_cons rfl (WX_store G rfl rfl rfl rfl rfl rfl rfl rfl rfl rfl rfl (WL_cons rfl (WX_q rfl rfl (q_assign rfl rfl) (?_))))))))
        refine WL_nil (hK7 _ ?_)
        clear hK7 K7
        refine W_seq (fun K8 hK8 => ?_)
        refine W_seq (fun K9 hK9 => ?_)
        refine W_region (WL_cons rfl (WX_q rfl rfl (q_move rfl rfl) (WL_cons rfl (?_))))
        first | refine WX_q rfl rfl (q_len' G rfl rfl rfl rfl (List.length_map _)) ?_ | refine WX_q rfl rfl (q_len G rfl rfl rfl rfl) ?_
        refine WL_cons rfl (WX_q rfl rfl (q_move rfl rfl) (?_))
        refine WL_nil (hK9 _ ?_)
        clear hK9 K9
        refine W_block ?_
        refine W_loopK [0, 6, 9, 34, 35] [1, 8] (fun (i : Nat) => [(10, .own 7), (36, .v (.int .i64 (i : Int)))]) (fun (i : Nat) => [(2, some (.row 4 1 ((rnN rs a ss i).1.en.map encO))), (3, some (.row 4 1 ((rnN rs a ss i).1.ra.map encO))), (4, some (.row 4 1 ((rnN rs a ss i).1.po.map encO))), (5, some (.row 3 1 ((rnN rs a ss i).1.ma.map encI))), (6, some (.nest 24 1 ((rnN rs a ss i).1.st.map encSt) [])), (7, some (.row 3 1 ((rnN rs a ss i).2.map encI)))]) (fun (i : Nat) => i ≤ ss.length) (fun (i : Nat) => ss.length - i) 0 rfl rfl ?_ ?_ ?_ ?_
        · exact Nat.zero_le _
        · exact ⟨⟨_, rfl, by rfl⟩, rfl, ⟨⟨_, rfl, by rfl⟩, rfl, trivial⟩⟩
        · exact ⟨⟨_, rfl, by rfl⟩, rfl, rfl, ⟨⟨_, rfl, by rfl⟩, rfl, rfl, ⟨⟨_, rfl, by rfl⟩, rfl, rfl, ⟨⟨_, rfl, by rfl⟩, rfl, rfl, ⟨⟨_, rfl, by rfl⟩, rfl, rfl, ⟨⟨_, rfl, by rfl⟩, rfl, rfl, trivial⟩⟩⟩⟩⟩⟩
        · intro i hinv
          have hFi := rnN_F hF hv i (by omega)
          have hvi : i < ss.length → stepV (rnN rs a ss i).1.ma.length (ss.getD i default) = true := fun h => (by rw [hFi.2]; exact hv i h)
          have hli := @rnN_len rs a ss i
          simp only [List.cons_append, List.nil_append]
          refine W_seq (fun K10 hK10 => ?_)
          refine W_region (WL_cons rfl (WX_q rfl rfl (q_cmp rfl rfl rfl rfl) (?_)))
          refine WL_nil (hK10 _ ?_)
          clear hK10 K10
          refine W_seq (fun K11 hK11 => ?_)
          refine W_cond rfl (fun h4 => ?_) (fun h4 => ?_)
          · try rw [h4]
            try simp only [decide_eq_true_eq, decide_eq_false_iff_not, beq_iff_eq, bne_iff_ne, ne_eq, Bool.not_eq_true', Bool.not_eq_false', beq_eq_false_iff_ne, bne_eq_false_iff_eq, Bool.not_eq_true, Bool.not_eq_false, Int.not_lt, Int.not_le, gt_iff_lt, ge_iff_le, Bool.and_eq_true, Bool.and_eq_false_iff, Bool.or_eq_true, Bool.or_eq_false_iff] at h4
            refine W_skip (hK11 _ ?_)
            clear hK11 K11
            refine W_seq (fun K12 hK12 => ?_)
            refine W_block ?_
            refine W_seq (fun K13 hK13 => ?_)
            refine W_region (WL_cons rfl (?_))
            refine WX_q rfl rfl (q_index_lst G rfl rfl rfl rfl (by omega) (getN (by omega))) ?_
            refine WL_cons rfl (WX_q rfl rfl (q_load_ept_struct G rfl rfl rfl rfl) (WL_cons rfl (WX_alloc_s G 10 rfl rfl rfl rfl rfl (WL_cons rfl (WX_store G rfl rfl rfl rfl rfl rfl rfl rfl rfl rfl rfl (?_))))))
            refine WL_nil (hK13 _ ?_)
            clear hK13 K13
            refine W_seq (fun K14 hK14 => ?_)
            by_cases hno : noS rs (rnN rs a ss i).1 (ss.getD i default)
            · refine W_region (WL_cons rfl (WX_q rfl rfl (q_move rfl rfl) (WL_cons rfl (WX_q rfl rfl (q_load_box_struct G rfl rfl rfl rfl rfl rfl) (WL_cons rfl (WX_q rfl rfl (q_load_box_struct G rfl rfl rfl rfl rfl rfl) (WL_cons rfl (?_))))))))
              refine WX_calle 10 rfl rfl rfl (ArgsOK.of rfl) (c_impl_stepAbstract_no rs _ _ _ _ _ hFi.1 (hvi (by omega)) hno) (fun _ => rfl) rfl (fun y1 => ?_)
              refine WL_cons rfl (WX_q rfl rfl (q_move rfl rfl) (WL_cons rfl (WX_q rfl rfl (q_extract rfl rfl rfl) (WL_cons rfl (WX_q rfl rfl (q_extract rfl rfl rfl) (WL_cons rfl (WX_q rfl rfl (q_extract rfl rfl rfl) (WL_cons rfl (WX_alloc_s G 11 rfl rfl rfl rfl rfl (WL_cons rfl (WX_store G rfl rfl rfl rfl rfl rfl rfl rfl rfl rfl rfl (WL_cons rfl (WX_q rfl rfl (q_assign rfl rfl) (WL_cons rfl (WX_q rfl rfl (q_assign rfl rfl) (?_))))))))))))))))
              refine WL_nil (hK14 _ ?_)
              clear hK14 K14
              refine W_seq (fun K15 hK15 => ?_)
              refine W_seq (fun K16 hK16 => ?_)
              refine W_region (WL_cons rfl (WX_q rfl rfl (q_move rfl rfl) (WL_cons rfl (WX_q rfl rfl (q_not_f rfl rfl) (?_)))))
              refine WL_nil (hK16 _ ?_)
              clear hK16 K16
              refine W_true rfl ?_
              refine W_exit (hK12 _ ?_)
              clear hK15 K15 hK12 K12
              refine W_region (WL_cons rfl (?_))
              first | refine WX_q rfl rfl (q_arith rfl rfl rfl rfl (by omega) (by omega)) ?_ | refine WX_q rfl rfl (q_wrap rfl rfl rfl rfl) ?_
              refine WL_cons rfl (WX_q rfl rfl (q_move rfl rfl) (?_))
              refine WL_nil ⟨(i + 1), ?_, ?_, ⟨⟨_, rfl, by rfl⟩, rfl, ⟨⟨_, rfl, by rfl⟩, rfl, trivial⟩⟩, ⟨⟨_, rfl, by (first | rfl | (rw [rnN_f (by assumption)]; done) | (rw [rnN_1 (by assumption)]; done) | (rw [rnN_3 (by assumption) (by assumption), List.map_append]; rfl) | (rw [rnN_n3 (by assumption) (by assumption)]; done) | (rw [rnN_f (by rw [makeA_no hno])]; done))⟩, rfl, rfl, ⟨⟨_, rfl, by (first | rfl | (rw [rnN_f (by assumption)]; done) | (rw [rnN_1 (by assumption)]; done) | (rw [rnN_3 (by assumption) (by assumption), List.map_append]; rfl) | (rw [rnN_n3 (by assumption) (by assumption)]; done) | (rw [rnN_f (by rw [makeA_no hno])]; done))⟩, rfl, rfl, ⟨⟨_, rfl, by (first | rfl | (rw [rnN_f (by assumption)]; done) | (rw [rnN_1 (by assumption)]; done) | (rw [rnN_3 (by assumption) (by assumption), List.map_append]; rfl) | (rw [rnN_n3 (by assumption) (by assumption)]; done) | (rw [rnN_f (by rw [makeA_no hno])]; done))⟩, rfl, rfl, ⟨⟨_, rfl, by (first | rfl | (rw [rnN_f (by assumption)]; done) | (rw [rnN_1 (by assumption)]; done) | (rw [rnN_3 (by assumption) (by assumption), List.map_append]; rfl) | (rw [rnN_n3 (by assumption) (by assumption)]; done) | (rw [rnN_f (by rw [makeA_no hno])]; done))⟩, rfl, rfl, ⟨⟨_, rfl, by (first | rfl | (rw [rnN_f (by assumption)]; done) | (rw [rnN_1 (by assumption)]; done) | (rw [rnN_3 (by assumption) (by assumption), List.map_append]; rfl) | (rw [rnN_n3 (by assumption) (by assumption)]; done) | (rw [rnN_f (by rw [makeA_no hno])]; done))⟩, rfl, rfl, ⟨⟨_, rfl, by (first | rfl | (rw [rnN_f (by assumption)]; done) | (rw [rnN_1 (by assumption)]; done) | (rw [rnN_3 (by assumption) (by assumption), List.map_append]; rfl) | (rw [rnN_n3 (by assumption) (by assumption)]; done) | (rw [rnN_f (by rw [makeA_no hno])]; done))⟩, rfl, rfl, trivial⟩⟩⟩⟩⟩⟩, rfl, rfl, rfl⟩
              · omega
              · omega
            · refine W_region (WL_cons rfl (WX_q rfl rfl (q_move rfl rfl) (WL_cons rfl (WX_q rfl rfl (q_load_box_struct G rfl rfl rfl rfl rfl rfl) (WL_cons rfl (WX_q rfl rfl (q_load_box_struct G rfl rfl rfl rfl rfl rfl) (WL_cons rfl (?_))))))))
              refine WX_call 15 rfl rfl rfl (ArgsOK.of rfl) (c_impl_stepAbstract rs _ _ _ _ _ hFi.1 (hvi (by omega)) hno) rfl rfl ?_
              refine WL_cons rfl (WX_q rfl rfl (q_move rfl rfl) (WL_cons rfl (WX_q rfl rfl (q_extract rfl rfl rfl) (WL_cons rfl (WX_q rfl rfl (q_extract rfl rfl rfl) (WL_cons rfl (WX_q rfl rfl (q_extract rfl rfl rfl) (WL_cons rfl (WX_alloc_s G 16 rfl rfl rfl rfl rfl (WL_cons rfl (WX_store G rfl rfl rfl rfl rfl rfl rfl rfl rfl rfl rfl (WL_cons rfl (WX_q rfl rfl (q_assign rfl rfl) (WL_cons rfl (WX_q rfl rfl (q_assign rfl rfl) (?_))))))))))))))))
              refine WL_nil (hK14 _ ?_)
              clear hK14 K14
              refine W_seq (fun K17 hK17 => ?_)
              refine W_seq (fun K18 hK18 => ?_)
              refine W_region (WL_cons rfl (WX_q rfl rfl (q_move rfl rfl) (WL_cons rfl (WX_q rfl rfl (q_not rfl rfl) (?_)))))
              refine WL_nil (hK18 _ ?_)
              clear hK18 K18
              refine W_cond rfl (fun h5 => ?_) (fun h5 => ?_)
              · try rw [h5]
                try simp only [decide_eq_true_eq, decide_eq_false_iff_not, beq_iff_eq, bne_iff_ne, ne_eq, Bool.not_eq_true', Bool.not_eq_false', beq_eq_false_iff_ne, bne_eq_false_iff_eq, Bool.not_eq_true, Bool.not_eq_false, Int.not_lt, Int.not_le, gt_iff_lt, ge_iff_le, Bool.and_eq_true, Bool.and_eq_false_iff, Bool.or_eq_true, Bool.or_eq_false_iff] at h5
                refine W_exit (hK12 _ ?_)
                clear hK17 K17 hK12 K12
                refine W_region (WL_cons rfl (?_))
                first | refine WX_q rfl rfl (q_arith rfl rfl rfl rfl (by omega) (by omega)) ?_ | refine WX_q rfl rfl (q_wrap rfl rfl rfl rfl) ?_
                refine WL_cons rfl (WX_q rfl rfl (q_move rfl rfl) (?_))
                refine WL_nil ⟨(i + 1), ?_, ?_, ⟨⟨_, rfl, by rfl⟩, rfl, ⟨⟨_, rfl, by rfl⟩, rfl, trivial⟩⟩, ⟨⟨_, rfl, by (first | rfl | (rw [rnN_f (by assumption)]; done) | (rw [rnN_1 (by assumption)]; done) | (rw [rnN_3 (by assumption) (by assumption), List.map_append]; rfl) | (rw [rnN_n3 (by assumption) (by assumption)]; done) | (rw [rnN_f (by rw [makeA_no hno])]; done))⟩, rfl, rfl, ⟨⟨_, rfl, by (first | rfl | (rw [rnN_f (by assumption)]; done) | (rw [rnN_1 (by assumption)]; done) | (rw [rnN_3 (by assumption) (by assumption), List.map_append]; rfl) | (rw [rnN_n3 (by assumption) (by assumption)]; done) | (rw [rnN_f (by rw [makeA_no hno])]; done))⟩, rfl, rfl, ⟨⟨_, rfl, by (first | rfl | (rw [rnN_f (by assumption)]; done) | (rw [rnN_1 (by assumption)]; done) | (rw [rnN_3 (by assumption) (by assumption), List.map_append]; rfl) | (rw [rnN_n3 (by assumption) (by assumption)]; done) | (rw [rnN_f (by rw [makeA_no hno])]; done))⟩, rfl, rfl, ⟨⟨_, rfl, by (first | rfl | (rw [rnN_f (by assumption)]; done) | (rw [rnN_1 (by assumption)]; done) | (rw [rnN_3 (by assumption) (by assumption), List.map_append]; rfl) | (rw [rnN_n3 (by assumption) (by assumption)]; done) | (rw [rnN_f (by rw [makeA_no hno])]; done))⟩, rfl, rfl, ⟨⟨_, rfl, by (first | rfl | (rw [rnN_f (by assumption)]; done) | (rw [rnN_1 (by assumption)]; done) | (rw [rnN_3 (by assumption) (by assumption), List.map_append]; rfl) | (rw [rnN_n3 (by assumption) (by assumption)]; done) | (rw [rnN_f (by rw [makeA_no hno])]; done))⟩, rfl, rfl, ⟨⟨_, rfl, by (first | rfl | (rw [rnN_f (by assumption)]; done) | (rw [rnN_1 (by assumption)]; done) | (rw [rnN_3 (by assumption) (by assumption), List.map_append]; rfl) | (rw [rnN_n3 (by assumption) (by assumption)]; done) | (rw [rnN_f (by rw [makeA_no hno])]; done))⟩, rfl, rfl, trivial⟩⟩⟩⟩⟩⟩, rfl, rfl, rfl⟩
                · omega
                · omega
              · try rw [h5]
                try simp only [decide_eq_true_eq, decide_eq_false_iff_not, beq_iff_eq, bne_iff_ne, ne_eq, Bool.not_eq_true', Bool.not_eq_false', beq_eq_false_iff_ne, bne_eq_false_iff_eq, Bool.not_eq_true, Bool.not_eq_false, Int.not_lt, Int.not_le, gt_iff_lt, ge_iff_le, Bool.and_eq_true, Bool.and_eq_false_iff, Bool.or_eq_true, Bool.or_eq_false_iff] at h5
                refine W_skip (hK17 _ ?_)
                clear hK17 K17
                refine W_seq (fun K19 hK19 => ?_)
                refine W_region (WL_cons rfl (WX_q rfl rfl (q_load_box_struct G rfl rfl rfl rfl rfl rfl) (WL_cons rfl (WX_store G rfl rfl rfl rfl rfl rfl rfl rfl rfl rfl rfl (?_)))))
                refine WL_nil (hK19 _ ?_)
                clear hK19 K19
                refine W_seq (fun K20 hK20 => ?_)
                refine W_region (WL_cons rfl (WX_q rfl rfl (q_field_ptr G rfl rfl rfl rfl) (WL_cons rfl (WX_q rfl rfl (q_load_box G rfl rfl rfl rfl rfl rfl rfl) (WL_cons rfl (WX_q rfl rfl (q_cmp rfl rfl rfl rfl) (?_)))))))
                refine WL_nil (hK20 _ ?_)
                clear hK20 K20
                refine W_cond rfl (fun h6 => ?_) (fun h6 => ?_)
                · try rw [h6]
                  try simp only [decide_eq_true_eq, decide_eq_false_iff_not, beq_iff_eq, bne_iff_ne, ne_eq, Bool.not_eq_true', Bool.not_eq_false', beq_eq_false_iff_ne, bne_eq_false_iff_eq, Bool.not_eq_true, Bool.not_eq_false, Int.not_lt, Int.not_le, gt_iff_lt, ge_iff_le, Bool.and_eq_true, Bool.and_eq_false_iff, Bool.or_eq_true, Bool.or_eq_false_iff] at h6
                  refine W_region (WL_cons rfl (WX_q rfl rfl (q_move rfl rfl) (WL_cons rfl (WX_q rfl rfl (q_move rfl rfl) (WL_cons rfl (WX_lit G 17 rfl rfl rfl rfl rfl rfl rfl rfl (WL_cons rfl (?_))))))))
                  refine WX_append G np rfl rfl rfl rfl rfl rfl rfl rfl rfl (by first | (simp only [List.length_map, List.length_cons, List.length_nil]; omega) | (simp; omega)) rfl rfl ?_
                  refine WL_cons rfl (WX_q rfl rfl (q_assign rfl rfl) (?_))
                  refine WL_nil (hK12 _ ?_)
                  clear hK12 K12
                  refine W_region (WL_cons rfl (?_))
                  first | refine WX_q rfl rfl (q_arith rfl rfl rfl rfl (by omega) (by omega)) ?_ | refine WX_q rfl rfl (q_wrap rfl rfl rfl rfl) ?_
                  refine WL_cons rfl (WX_q rfl rfl (q_move rfl rfl) (?_))
                  refine WL_gh (Gh.sub 10 2 np rfl rfl rfl) ?_
                  refine WL_gh (Gh.sub 11 3 np rfl rfl rfl) ?_
                  refine WL_gh (Gh.sub 12 4 np rfl rfl rfl) ?_
                  refine WL_gh (Gh.sub 13 5 np rfl rfl rfl) ?_
                  refine WL_gh (Gh.sub 14 6 np rfl rfl rfl) ?_
                  refine WL_nil ⟨(i + 1), ?_, ?_, ⟨⟨_, rfl, by rfl⟩, rfl, ⟨⟨_, rfl, by rfl⟩, rfl, trivial⟩⟩, ⟨⟨_, rfl, by (first | rfl | (rw [rnN_f (by assumption)]; done) | (rw [rnN_1 (by assumption)]; done) | (rw [rnN_3 (by assumption) (by assumption), List.map_append]; rfl) | (rw [rnN_n3 (by assumption) (by assumption)]; done) | (rw [rnN_f (by rw [makeA_no hno])]; done))⟩, rfl, rfl, ⟨⟨_, rfl, by (first | rfl | (rw [rnN_f (by assumption)]; done) | (rw [rnN_1 (by assumption)]; done) | (rw [rnN_3 (by assumption) (by assumption), List.map_append]; rfl) | (rw [rnN_n3 (by assumption) (by assumption)]; done) | (rw [rnN_f (by rw [makeA_no hno])]; done))⟩, rfl, rfl, ⟨⟨_, rfl, by (first | rfl | (rw [rnN_f (by assumption)]; done) | (rw [rnN_1 (by assumption)]; done) | (rw [rnN_3 (by assumption) (by assumption), List.map_append]; rfl) | (rw [rnN_n3 (by assumption) (by assumption)]; done) | (rw [rnN_f (by rw [makeA_no hno])]; done))⟩, rfl, rfl, ⟨⟨_, rfl, by (first | rfl | (rw [rnN_f (by assumption)]; done) | (rw [rnN_1 (by assumption)]; done) | (rw [rnN_3 (by assumption) (by assumption), List.map_append]; rfl) | (rw [rnN_n3 (by assumption) (by assumption)]; done) | (rw [rnN_f (by rw [makeA_no hno])]; done))⟩, rfl, rfl, ⟨⟨_, rfl, by (first | rfl | (rw [rnN_f (by assumption)]; done) | (rw [rnN_1 (by assumption)]; done) | (rw [rnN_3 (by assumption) (by assumption), List.map_append]; rfl) | (rw [rnN_n3 (by assumption) (by assumption)]; done) | (rw [rnN_f (by rw [makeA_no hno])]; done))⟩, rfl, rfl, ⟨⟨_, rfl, by (first | rfl | (rw [rnN_f (by assumption)]; done) | (rw [rnN_1 (by assumption)]; done) | (rw [rnN_3 (by assumption) (by assumption), List.map_append]; rfl) | (rw [rnN_n3 (by assumption) (by assumption)]; done) | (rw [rnN_f (by rw [makeA_no hno])]; done))⟩, rfl, rfl, trivial⟩⟩⟩⟩⟩⟩, rfl, rfl, rfl⟩
                  · omega
                  · omega
                · try rw [h6]
                  try simp only [decide_eq_true_eq, decide_eq_false_iff_not, beq_iff_eq, bne_iff_ne, ne_eq, Bool.not_eq_true', Bool.not_eq_false', beq_eq_false_iff_ne, bne_eq_false_iff_eq, Bool.not_eq_true, Bool.not_eq_false, Int.not_lt, Int.not_le, gt_iff_lt, ge_iff_le, Bool.and_eq_true, Bool.and_eq_false_iff, Bool.or_eq_true, Bool.or_eq_false_iff] at h6
                  refine W_skip (hK12 _ ?_)
                  clear hK12 K12
                  refine W_region (WL_cons rfl (?_))
                  first | refine WX_q rfl rfl (q_arith rfl rfl rfl rfl (by omega) (by omega)) ?_ | refine WX_q rfl rfl (q_wrap rfl rfl rfl rfl) ?_
                  refine WL_cons rfl (WX_q rfl rfl (q_move rfl rfl) (?_))
                  refine WL_gh (Gh.sub 10 2 np rfl rfl rfl) ?_
                  refine WL_gh (Gh.sub 11 3 np rfl rfl rfl) ?_
                  refine WL_gh (Gh.sub 12 4 np rfl rfl rfl) ?_
                  refine WL_gh (Gh.sub 13 5 np rfl rfl rfl) ?_
                  refine WL_gh (Gh.sub 14 6 np rfl rfl rfl) ?_
                  refine WL_nil ⟨(i + 1), ?_, ?_, ⟨⟨_, rfl, by rfl⟩, rfl, ⟨⟨_, rfl, by rfl⟩, rfl, trivial⟩⟩, ⟨⟨_, rfl, by (first | rfl | (rw [rnN_f (by assumption)]; done) | (rw [rnN_1 (by assumption)]; done) | (rw [rnN_3 (by assumption) (by assumption), List.map_append]; rfl) | (rw [rnN_n3 (by assumption) (by assumption)]; done) | (rw [rnN_f (by rw [makeA_no hno])]; done))⟩, rfl, rfl, ⟨⟨_, rfl, by (first | rfl | (rw [rnN_f (by assumption)]; done) | (rw [rnN_1 (by assumption)]; done) | (rw [rnN_3 (by assumption) (by assumption), List.map_append]; rfl) | (rw [rnN_n3 (by assumption) (by assumption)]; done) | (rw [rnN_f (by rw [makeA_no hno])]; done))⟩, rfl, rfl, ⟨⟨_, rfl, by (first | rfl | (rw [rnN_f (by assumption)]; done) | (rw [rnN_1 (by assumption)]; done) | (rw [rnN_3 (by assumption) (by assumption), List.map_append]; rfl) | (rw [rnN_n3 (by assumption) (by assumption)]; done) | (rw [rnN_f (by rw [makeA_no hno])]; done))⟩, rfl, rfl, ⟨⟨_, rfl, by (first | rfl | (rw [rnN_f (by assumption)]; done) | (rw [rnN_1 (by assumption)]; done) | (rw [rnN_3 (by assumption) (by assumption), List.map_append]; rfl) | (rw [rnN_n3 (by assumption) (by assumption)]; done) | (rw [rnN_f (by rw [makeA_no hno])]; done))⟩, rfl, rfl, ⟨⟨_, rfl, by (first | rfl | (rw [rnN_f (by assumption)]; done) | (rw [rnN_1 (by assumption)]; done) | (rw [rnN_3 (by assumption) (by assumption), List.map_append]; rfl) | (rw [rnN_n3 (by assumption) (by assumption)]; done) | (rw [rnN_f (by rw [makeA_no hno])]; done))⟩, rfl, rfl, ⟨⟨_, rfl, by (first | rfl | (rw [rnN_f (by assumption)]; done) | (rw [rnN_1 (by assumption)]; done) | (rw [rnN_3 (by assumption) (by assumption), List.map_append]; rfl) | (rw [rnN_n3 (by assumption) (by assumption)]; done) | (rw [rnN_f (by rw [makeA_no hno])]; done))⟩, rfl, rfl, trivial⟩⟩⟩⟩⟩⟩, rfl, rfl, rfl⟩
                  · omega
                  · omega
          · try rw [h4]
            try simp only [decide_eq_true_eq, decide_eq_false_iff_not, beq_iff_eq, bne_iff_ne, ne_eq, Bool.not_eq_true', Bool.not_eq_false', beq_eq_false_iff_ne, bne_eq_false_iff_eq, Bool.not_eq_true, Bool.not_eq_false, Int.not_lt, Int.not_le, gt_iff_lt, ge_iff_le, Bool.and_eq_true, Bool.and_eq_false_iff, Bool.or_eq_true, Bool.or_eq_false_iff] at h4
            refine W_exit (hK8 _ ?_)
            clear hK11 K11 hK8 K8
            refine W_seq (fun K21 hK21 => ?_)
            refine W_region (WL_cons rfl (WX_q rfl rfl (q_load_box_struct G rfl rfl rfl rfl rfl rfl) (WL_cons rfl (WX_q rfl rfl (q_move rfl rfl) (WL_cons rfl (WX_store G rfl rfl rfl rfl rfl rfl rfl rfl rfl rfl rfl (WL_cons rfl (WX_q rfl rfl (q_assign rfl rfl) (WL_cons rfl (WX_q rfl rfl (q_assign rfl rfl) (?_)))))))))))
            refine WL_nil (hK21 _ ?_)
            clear hK21 K21
            refine W_ret (fin_shp rfl rfl rfl rfl (rcs_cons (rc_own rfl ?_) (rcs_cons (rc_own rfl ?_) (rcs_cons (rc_own rfl ?_) (rcs_cons (rc_own rfl ?_) (rcs_cons (rc_ne rfl ?_) (rcs_cons (rc_own rfl ?_) (rcs_cons (rc_v ?_) rcs_nil))))))))
            all_goals (first | (rw [hR]; done) | (rw [hR]; rfl) | (have hR := rnT_t h1 hsv; have e : i = ss.length := (by omega); subst e; rw [hR]; done))

end Go.Proofs.Ytcnodpipinlpcaa

/- Walks through functions of the program, one contract each (written by gen.py). -/
set_option maxRecDepth 20000
set_option linter.unusedVariables false
set_option linter.unusedSimpArgs false
namespace Go.Proofs.Ytcnodpipinlpcaa
open Go Go.Rf

theorem c_laws_markMachStepS (xs : List MStep) (k : Int) (hn : xs.length ≤ 1048576) (hk : 0 ≤ k ∧ k ≤ 1000000000) : CtrM Try.prog 29 [.own 0, .v (.int .i64 k)] [.row 45 4 (xs.map encMc)] (.one (.v (.int .i64 (k + 4 * (xs.length : Int))))) [some (.row 45 4 ((over (mkMs k) xs xs.length).map encMc))] := by
  refine CtrM.of (n := 41) (k := 1) G Try.func29 rfl (by kernel_rfl) rfl rfl rfl rfl rfl rfl rfl (fun w0 _ hpin => ?_)
  refine W_seq (fun K1 hK1 => ?_)
  refine W_region (WL_cons rfl (WX_q rfl rfl (q_assign rfl rfl) (?_)))
  refine WL_nil (hK1 _ ?_)
  clear hK1 K1
  refine W_seq (fun K2 hK2 => ?_)
  refine W_seq (fun K3 hK3 => ?_)
  refine W_region (WL_cons rfl (WX_q rfl rfl (q_assign rfl rfl) (?_)))
  refine WL_nil (hK3 _ ?_)
  clear hK3 K3
  refine W_block ?_
  refine W_loopK [0] [] (fun (i : Nat) => [(1, .v (.int .i64 (k + 4 * (i : Int)))), (5, .v (.int .i64 (i : Int)))]) (fun (i : Nat) => [(0, some (.row 45 4 ((over (mkMs k) xs i).map encMc)))]) (fun (i : Nat) => i ≤ xs.length) (fun (i : Nat) => xs.length - i) 0 rfl rfl ?_ ?_ ?_ ?_
  · exact Nat.zero_le _
  · exact ⟨⟨_, rfl, by (first | rfl | (congr 2; omega))⟩, rfl, ⟨⟨_, rfl, by (first | rfl | (congr 2; omega))⟩, rfl, trivial⟩⟩
  · exact ⟨⟨_, rfl, by exact congrArg (Row.row _ _) (by rw [over_zero])⟩, rfl, rfl, trivial⟩
  · intro i hinv
    have hi : i ≤ xs.length := hinv
    simp only [List.cons_append, List.nil_append]
    refine W_seq (fun K4 hK4 => ?_)
    refine W_seq (fun K5 hK5 => ?_)
    refine W_region (WL_cons rfl (WX_q rfl rfl (q_move rfl rfl) (WL_cons rfl (WX_q rfl rfl (q_move rfl rfl) (WL_cons rfl (?_))))))
    first | refine WX_q rfl rfl (q_len' G rfl rfl rfl rfl (by rw [List.length_map, over_len (by omega)])) ?_ | refine WX_q rfl rfl (q_len G rfl rfl rfl rfl) ?_
    refine WL_cons rfl (WX_q rfl rfl (q_cmp rfl rfl rfl rfl) (?_))
    refine WL_nil (hK5 _ ?_)
    clear hK5 K5
    refine W_cond rfl (fun h1 => ?_) (fun h1 => ?_)
    · try rw [h1]
      try simp only [decide_eq_true_eq, decide_eq_false_iff_not, beq_iff_eq, bne_iff_ne, ne_eq, Bool.not_eq_true', Bool.not_eq_false', beq_eq_false_iff_ne, bne_eq_false_iff_eq, Bool.not_eq_true, Bool.not_eq_false, Int.not_lt, Int.not_le, gt_iff_lt, ge_iff_le, Bool.and_eq_true, Bool.and_eq_false_iff, Bool.or_eq_true, Bool.or_eq_false_iff] at h1
      refine W_skip (hK4 _ ?_)
      clear hK4 K4
      refine W_seq (fun K6 hK6 => ?_)
      refine W_block ?_
      refine W_seq (fun K7 hK7 => ?_)
      refine W_region (WL_cons rfl (WX_q rfl rfl (q_move rfl rfl) (WL_cons rfl (WX_q rfl rfl (q_move rfl rfl) (WL_cons rfl (WX_q rfl rfl (q_move rfl rfl) (WL_cons rfl (?_))))))))
      first | refine WX_q rfl rfl (q_index_own G rfl rfl rfl rfl rfl (by omega) (by rw [List.length_map, over_len (by omega)]; omega)) ?_ | refine WX_q rfl rfl (q_index_own G rfl rfl rfl rfl rfl (by omega) (by rw [List.length_set, List.length_map, over_len (by omega)]; omega)) ?_ | refine WX_q rfl rfl (q_index_own G rfl rfl rfl rfl rfl (by omega) (by simp only [List.length_set, List.length_map]; rw [over_len (by omega)]; omega)) ?_
      refine WL_cons rfl (WX_q rfl rfl (q_field_rpt G rfl rfl rfl rfl) (WL_cons rfl (?_)))
      first | refine WX_store_row G rfl rfl rfl rfl rfl (over_get (by omega)) rfl rfl rfl rfl rfl (Nat.le_of_ble_eq_true rfl) rfl ?_ | refine WX_store_row G rfl rfl rfl rfl rfl (set_get (by rw [List.length_map, over_len (by omega)]; omega)) rfl rfl rfl rfl rfl (Nat.le_of_ble_eq_true rfl) rfl ?_ | refine WX_store_row G rfl rfl rfl rfl rfl (set_get (by simp only [List.length_set, List.length_map]; rw [over_len (by omega)]; omega)) rfl rfl rfl rfl rfl (Nat.le_of_ble_eq_true rfl) rfl ?_
      refine WL_nil (hK7 _ ?_)
      clear hK7 K7
      refine W_seq (fun K8 hK8 => ?_)
      refine W_region (WL_cons rfl (WX_q rfl rfl (q_move rfl rfl) (WL_cons rfl (?_))))
      first | refine WX_q rfl rfl (q_arith rfl rfl rfl rfl (by omega) (by omega)) ?_ | refine WX_q rfl rfl (q_wrap rfl rfl rfl rfl) ?_
      refine WL_cons rfl (WX_q rfl rfl (q_assign rfl rfl) (?_))
      refine WL_nil (hK8 _ ?_)
      clear hK8 K8
      refine W_seq (fun K9 hK9 => ?_)
      refine W_region (WL_cons rfl (WX_q rfl rfl (q_move rfl rfl) (WL_cons rfl (WX_q rfl rfl (q_move rfl rfl) (WL_cons rfl (WX_q rfl rfl (q_move rfl rfl) (WL_cons rfl (?_))))))))
      first | refine WX_q rfl rfl (q_index_own G rfl rfl rfl rfl rfl (by omega) (by rw [List.length_map, over_len (by omega)]; omega)) ?_ | refine WX_q rfl rfl (q_index_own G rfl rfl rfl rfl rfl (by omega) (by rw [List.length_set, List.length_map, over_len (by omega)]; omega)) ?_ | refine WX_q rfl rfl (q_index_own G rfl rfl rfl rfl rfl (by omega) (by simp only [List.length_set, List.length_map]; rw [over_len (by omega)]; omega)) ?_
      refine WL_cons rfl (WX_q rfl rfl (q_field_rpt G rfl rfl rfl rfl) (WL_cons rfl (?_)))
      first | refine WX_store_row G rfl rfl rfl rfl rfl (over_get (by omega)) rfl rfl rfl rfl rfl (Nat.le_of_ble_eq_true rfl) rfl ?_ | refine WX_store_row G rfl rfl rfl rfl rfl (set_get (by rw [List.length_map, over_len (by omega)]; omega)) rfl rfl rfl rfl rfl (Nat.le_of_ble_eq_true rfl) rfl ?_ | refine WX_store_row G rfl rfl rfl rfl rfl (set_get (by simp only [List.length_set, List.length_map]; rw [over_len (by omega)]; omega)) rfl rfl rfl rfl rfl (Nat.le_of_ble_eq_true rfl) rfl ?_
      refine WL_nil (hK9 _ ?_)
      clear hK9 K9
      refine W_seq (fun K10 hK10 => ?_)
      refine W_region (WL_cons rfl (WX_q rfl rfl (q_move rfl rfl) (WL_cons rfl (?_))))
      first | refine WX_q rfl rfl (q_arith rfl rfl rfl rfl (by omega) (by omega)) ?_ | refine WX_q rfl rfl (q_wrap rfl rfl rfl rfl) ?_
      refine WL_cons rfl (WX_q rfl rfl (q_assign rfl rfl) (?_))
      refine WL_nil (hK10 _ ?_)
      clear hK10 K10
      refine W_seq (fun K11 hK11 => ?_)
      refine W_region (WL_cons rfl (WX_q rfl rfl (q_move rfl rfl) (WL_cons rfl (WX_q rfl rfl (q_move rfl rfl) (WL_cons rfl (WX_q rfl rfl (q_move rfl rfl) (WL_cons rfl (?_))))))))
      first | refine WX_q rfl rfl (q_index_own G rfl rfl rfl rfl rfl (by omega) (by rw [List.length_map, over_len (by omega)]; omega)) ?_ | refine WX_q rfl rfl (q_index_own G rfl rfl rfl rfl rfl (by omega) (by rw [List.length_set, List.length_map, over_len (by omega)]; omega)) ?_ | refine WX_q rfl rfl (q_index_own G rfl rfl rfl rfl rfl (by omega) (by simp only [List.length_set, List.length_map]; rw [over_len (by omega)]; omega)) ?_
      refine WL_cons rfl (WX_q rfl rfl (q_field_rpt G rfl rfl rfl rfl) (WL_cons rfl (?_)))
      first | refine WX_store_row G rfl rfl rfl rfl rfl (over_get (by omega)) rfl rfl rfl rfl rfl (Nat.le_of_ble_eq_true rfl) rfl ?_ | refine WX_store_row G rfl rfl rfl rfl rfl (set_get (by rw [List.length_map, over_len (by omega)]; omega)) rfl rfl rfl rfl rfl (Nat.le_of_ble_eq_true rfl) rfl ?_ | refine WX_store_row G rfl rfl rfl rfl rfl (set_get (by simp only [List.length_set, List.length_map]; rw [over_len (by omega)]; omega)) rfl rfl rfl rfl rfl (Nat.le_of_ble_eq_true rfl) rfl ?_
      refine WL_nil (hK11 _ ?_)
      clear hK11 K11
      refine W_seq (fun K12 hK12 => ?_)
      refine W_region (WL_cons rfl (WX_q rfl rfl (q_move rfl rfl) (WL_cons rfl (?_))))
      first | refine WX_q rfl rfl (q_arith rfl rfl rfl rfl (by omega) (by omega)) ?_ | refine WX_q rfl rfl (q_wrap rfl rfl rfl rfl) ?_
      refine WL_cons rfl (WX_q rfl rfl (q_assign rfl rfl) (?_))
      refine WL_nil (hK12 _ ?_)
      clear hK12 K12
      refine W_seq (fun K13 hK13 => ?_)
      refine W_region (WL_cons rfl (WX_q rfl rfl (q_move rfl rfl) (WL_cons rfl (WX_q rfl rfl (q_move rfl rfl) (WL_cons rfl (WX_q rfl rfl (q_move rfl rfl) (WL_cons rfl (?_))))))))
      first | refine WX_q rfl rfl (q_index_own G rfl rfl rfl rfl rfl (by omega) (by rw [List.length_map, over_len (by omega)]; omega)) ?_ | refine WX_q rfl rfl (q_index_own G rfl rfl rfl rfl rfl (by omega) (by rw [List.length_set, List.length_map, over_len (by omega)]; omega)) ?_ | refine WX_q rfl rfl (q_index_own G rfl rfl rfl rfl rfl (by omega) (by simp only [List.length_set, List.length_map]; rw [over_len (by omega)]; omega)) ?_
      refine WL_cons rfl (WX_q rfl rfl (q_field_rpt G rfl rfl rfl rfl) (WL_cons rfl (?_)))
      first | refine WX_store_row G rfl rfl rfl rfl rfl (over_get (by omega)) rfl rfl rfl rfl rfl (Nat.le_of_ble_eq_true rfl) rfl ?_ | refine WX_store_row G rfl rfl rfl rfl rfl (set_get (by rw [List.length_map, over_len (by omega)]; omega)) rfl rfl rfl rfl rfl (Nat.le_of_ble_eq_true rfl) rfl ?_ | refine WX_store_row G rfl rfl rfl rfl rfl (set_get (by simp only [List.length_set, List.length_map]; rw [over_len (by omega)]; omega)) rfl rfl rfl rfl rfl (Nat.le_of_ble_eq_true rfl) rfl ?_
      refine WL_nil (hK13 _ ?_)
      clear hK13 K13
      refine W_region (WL_cons rfl (WX_q rfl rfl (q_move rfl rfl) (WL_cons rfl (?_))))
      first | refine WX_q rfl rfl (q_arith rfl rfl rfl rfl (by omega) (by omega)) ?_ | refine WX_q rfl rfl (q_wrap rfl rfl rfl rfl) ?_
      refine WL_cons rfl (WX_q rfl rfl (q_assign rfl rfl) (?_))
      refine WL_nil (hK6 _ ?_)
      clear hK6 K6
      refine W_region (WL_cons rfl (WX_q rfl rfl (q_move rfl rfl) (WL_cons rfl (?_))))
      first | refine WX_q rfl rfl (q_arith rfl rfl rfl rfl (by omega) (by omega)) ?_ | refine WX_q rfl rfl (q_wrap rfl rfl rfl rfl) ?_
      refine WL_cons rfl (WX_q rfl rfl (q_assign rfl rfl) (?_))
      refine WL_nil ⟨(i + 1), ?_, ?_, ⟨⟨_, rfl, by (first | rfl | (congr 2; omega))⟩, rfl, ⟨⟨_, rfl, by (first | rfl | (congr 2; omega))⟩, rfl, trivial⟩⟩, ⟨⟨_, rfl, by exact congrArg (Row.row _ _) (by (try simp only [List.set_set]); exact over_set (g := mkMs k) (f := encMc) (by omega))⟩, rfl, rfl, trivial⟩, rfl, rfl, rfl⟩
      · omega
      · omega
    · try rw [h1]
      try simp only [decide_eq_true_eq, decide_eq_false_iff_not, beq_iff_eq, bne_iff_ne, ne_eq, Bool.not_eq_true', Bool.not_eq_false', beq_eq_false_iff_ne, bne_eq_false_iff_eq, Bool.not_eq_true, Bool.not_eq_false, Int.not_lt, Int.not_le, gt_iff_lt, ge_iff_le, Bool.and_eq_true, Bool.and_eq_false_iff, Bool.or_eq_true, Bool.or_eq_false_iff] at h1
      refine W_exit (hK2 _ ?_)
      clear hK4 K4 hK2 K2
      refine W_seq (fun K14 hK14 => ?_)
      refine W_region (WL_cons rfl (WX_q rfl rfl (q_move rfl rfl) (WL_cons rfl (WX_q rfl rfl (q_assign rfl rfl) (?_)))))
      refine WL_nil (hK14 _ ?_)
      clear hK14 K14
      refine W_ret (finm_one rfl (rc_v ?_) rfl (AftOK.stays rfl ?_ rfl AftOK.nil))
      all_goals (
        have e : i = xs.length := (by omega)
        subst e
        first | rfl | (congr 1; omega)
      )

set_option maxHeartbeats 2000000 in
theorem c_laws_FnExactRunAbstract (rs : List Route) (a : Abs) (ss : List MStep) (h0 : rs.length ≤ 9223372036854775807) (h3 : ss.length ≤ 9223372036854775807) (hb : BigA a) : Ctr Try.prog 6 [.lst 2 (rs.map encRo), .agg [.lst 1 (a.en.map encO), .lst 1 (a.ra.map encO), .lst 1 (a.po.map encO), .lst 1 (a.ma.map encI), .nst none 1 (a.st.map encSt)], .lst 4 (ss.map encMc)] (.one (.v (.bool true))) := by
  refine Ctr.of (n := 179) G Try.func6 rfl (by kernel_rfl) rfl rfl rfl (fun w0 => ?_)
  refine W_pinS 1 rfl (fun _ => rfl) (fun u1 => ?_)
  refine W_seq (fun K1 hK1 => ?_)
  refine W_region (WL_cons rfl (WX_box 1 rfl rfl rfl rfl rfl rfl rfl (WL_cons rfl (WX_q rfl rfl (q_assign rfl rfl) (?_)))))
  refine WL_nil (hK1 _ ?_)
  clear hK1 K1
  refine W_seq (fun K2 hK2 => ?_)
  refine W_region (WL_cons rfl (WX_q rfl rfl (q_assign rfl rfl) (?_)))
  refine WL_nil (hK2 _ ?_)
  clear hK2 K2
  refine W_seq (fun K3 hK3 => ?_)
  refine W_region (WL_cons rfl (WX_q rfl rfl (q_move rfl rfl) (WL_cons rfl (WX_q rfl rfl (q_move rfl rfl) (WL_cons rfl (?_))))))
  refine WX_q rfl rfl (q_call rfl (ArgsOK.of rfl) (c_laws_szRouteS rs _ h0 (by omega)) rfl) ?_
  refine WL_cons rfl (WX_q rfl rfl (q_assign rfl rfl) (?_))
  refine WL_nil (hK3 _ ?_)
  clear hK3 K3
  refine W_seq (fun K4 hK4 => ?_)
  refine W_seq (fun K5 hK5 => ?_)
  refine W_region (WL_cons rfl (WX_q rfl rfl (q_move rfl rfl) (WL_cons rfl (WX_q rfl rfl (q_cmp rfl rfl rfl rfl) (?_)))))
  refine WL_nil (hK5 _ ?_)
  clear hK5 K5
  refine W_cond rfl (fun h1 => ?_) (fun h1 => ?_)
  · try rw [h1]
    try simp only [decide_eq_true_eq, decide_eq_false_iff_not, beq_iff_eq, bne_iff_ne, ne_eq, Bool.not_eq_true', Bool.not_eq_false', beq_eq_false_iff_ne, bne_eq_false_iff_eq, Bool.not_eq_true, Bool.not_eq_false, Int.not_lt, Int.not_le, gt_iff_lt, ge_iff_le, Bool.and_eq_true, Bool.and_eq_false_iff, Bool.or_eq_true, Bool.or_eq_false_iff] at h1
    refine W_seq (fun K6 hK6 => ?_)
    refine W_region (WL_cons rfl (WX_q rfl rfl (q_assign rfl rfl) (?_)))
    refine WL_nil (hK6 _ ?_)
    clear hK6 K6
    refine W_ret (fin_one rfl (rc_v ?_))
    all_goals clear hK4 K4
    all_goals (first | rfl | (exfalso; omega) | (simp_all; done))
  · try rw [h1]
    try simp only [decide_eq_true_eq, decide_eq_false_iff_not, beq_iff_eq, bne_iff_ne, ne_eq, Bool.not_eq_true', Bool.not_eq_false', beq_eq_false_iff_ne, bne_eq_false_iff_eq, Bool.not_eq_true, Bool.not_eq_false, Int.not_lt, Int.not_le, gt_iff_lt, ge_iff_le, Bool.and_eq_true, Bool.and_eq_false_iff, Bool.or_eq_true, Bool.or_eq_false_iff] at h1
    have hr0 := szL_ok (n := rs.length) (l := 1048576) (by omega)
    refine W_skip (hK4 _ ?_)
    clear hK4 K4
    refine W_seq (fun K7 hK7 => ?_)
    refine W_region (WL_cons rfl (WX_q rfl rfl (q_load_box_struct G rfl rfl rfl rfl rfl rfl) (WL_cons rfl (WX_q rfl rfl (q_move rfl rfl) (WL_cons rfl (?_))))))
    refine WX_q rfl rfl (q_call rfl (ArgsOK.of rfl) (c_laws_szAbstract a _ hb (by omega)) rfl) ?_
    refine WL_cons rfl (WX_q rfl rfl (q_assign rfl rfl) (?_))
    refine WL_nil (hK7 _ ?_)
    clear hK7 K7
    refine W_seq (fun K8 hK8 => ?_)
    refine W_seq (fun K9 hK9 => ?_)
    refine W_region (WL_cons rfl (WX_q rfl rfl (q_move rfl rfl) (WL_cons rfl (WX_q rfl rfl (q_cmp rfl rfl rfl rfl) (?_)))))
    refine WL_nil (hK9 _ ?_)
    clear hK9 K9
    refine W_cond rfl (fun h2 => ?_) (fun h2 => ?_)
    · try rw [h2]
      try simp only [decide_eq_true_eq, decide_eq_false_iff_not, beq_iff_eq, bne_iff_ne, ne_eq, Bool.not_eq_true', Bool.not_eq_false', beq_eq_false_iff_ne, bne_eq_false_iff_eq, Bool.not_eq_true, Bool.not_eq_false, Int.not_lt, Int.not_le, gt_iff_lt, ge_iff_le, Bool.and_eq_true, Bool.and_eq_false_iff, Bool.or_eq_true, Bool.or_eq_false_iff] at h2
      refine W_seq (fun K10 hK10 => ?_)
      refine W_region (WL_cons rfl (WX_q rfl rfl (q_assign rfl rfl) (?_)))
      refine WL_nil (hK10 _ ?_)
      clear hK10 K10
      refine W_ret (fin_one rfl (rc_v ?_))
      all_goals clear hK8 K8
      all_goals (first | rfl | (exfalso; omega) | (simp_all; done))
    · try rw [h2]
      try simp only [decide_eq_true_eq, decide_eq_false_iff_not, beq_iff_eq, bne_iff_ne, ne_eq, Bool.not_eq_true', Bool.not_eq_false', beq_eq_false_iff_ne, bne_eq_false_iff_eq, Bool.not_eq_true, Bool.not_eq_false, Int.not_lt, Int.not_le, gt_iff_lt, ge_iff_le, Bool.and_eq_true, Bool.and_eq_false_iff, Bool.or_eq_true, Bool.or_eq_false_iff] at h2
      have hs := szAb_small (a := a) (l := szL rs.length 1048576) (by omega) (by omega)
      have hn : rs.length ≤ 1048576 := by omega
      refine W_skip (hK8 _ ?_)
      clear hK8 K8
      refine W_seq (fun K11 hK11 => ?_)
      refine W_region (WL_cons rfl (WX_q rfl rfl (q_move rfl rfl) (WL_cons rfl (WX_q rfl rfl (q_move rfl rfl) (WL_cons rfl (?_))))))
      refine WX_q rfl rfl (q_call rfl (ArgsOK.of rfl) (c_laws_szMachStepS ss _ h3 ⟨by omega, by have := szAb_le (a := a) (l := szL rs.length 1048576) (by omega); omega⟩) rfl) ?_
      refine WL_cons rfl (WX_q rfl rfl (q_assign rfl rfl) (?_))
      refine WL_nil (hK11 _ ?_)
      clear hK11 K11
      refine W_seq (fun K12 hK12 => ?_)
      refine W_seq (fun K13 hK13 => ?_)
      refine W_region (WL_cons rfl (WX_q rfl rfl (q_move rfl rfl) (WL_cons rfl (WX_q rfl rfl (q_cmp rfl rfl rfl rfl) (?_)))))
      refine WL_nil (hK13 _ ?_)
      clear hK13 K13
      refine W_cond rfl (fun h3 => ?_) (fun h3 => ?_)
      · try rw [h3]
        try simp only [decide_eq_true_eq, decide_eq_false_iff_not, beq_iff_eq, bne_iff_ne, ne_eq, Bool.not_eq_true', Bool.not_eq_false', beq_eq_false_iff_ne, bne_eq_false_iff_eq, Bool.not_eq_true, Bool.not_eq_false, Int.not_lt, Int.not_le, gt_iff_lt, ge_iff_le, Bool.and_eq_true, Bool.and_eq_false_iff, Bool.or_eq_true, Bool.or_eq_false_iff] at h3
        refine W_seq (fun K14 hK14 => ?_)
        refine W_region (WL_cons rfl (WX_q rfl rfl (q_assign rfl rfl) (?_)))
        refine WL_nil (hK14 _ ?_)
        clear hK14 K14
        refine W_ret (fin_one rfl (rc_v ?_))
        all_goals clear hK12 K12
        all_goals (first | rfl | (exfalso; omega) | (simp_all; done))
      · try rw [h3]
        try simp only [decide_eq_true_eq, decide_eq_false_iff_not, beq_iff_eq, bne_iff_ne, ne_eq, Bool.not_eq_true', Bool.not_eq_false', beq_eq_false_iff_ne, bne_eq_false_iff_eq, Bool.not_eq_true, Bool.not_eq_false, Int.not_lt, Int.not_le, gt_iff_lt, ge_iff_le, Bool.and_eq_true, Bool.and_eq_false_iff, Bool.or_eq_true, Bool.or_eq_false_iff] at h3
        have hl : ss.length ≤ 1048576 := by have := szL_ok (n := ss.length) (l := szAb a (szL rs.length 1048576)) (by omega); have := szAb_le (a := a) (l := szL rs.length 1048576) (by omega); omega
        have hss := @rnT_small rs a ss
        have cs1 := c_spec_RunAbstract rs a ss hs hn hl
        have ci1 := c_impl_RunAbstract rs a ss hs hn hl
        generalize rnT rs a ss = r at hss cs1 ci1
        obtain ⟨x, irqs, ok⟩ := r
        dsimp only at hss cs1 ci1
        obtain ⟨hss, hil⟩ := hss
        have hbs := hss.big
        have hm1 := mkN_le (a := a) (k := 1 + 2 * (rs.length : Int)) hs
        have hm2 := mkN_le (a := x) (k := 1) hss
        refine W_skip (hK12 _ ?_)
        clear hK12 K12
        refine W_seq (fun K15 hK15 => ?_)
        refine W_drawsH 15 [0] mixed (by kernel_rfl) rfl rfl (fun r0 => ?_) (fun _ h => h)
        refine WA_take 0 rfl (by kernel_rfl) (by kernel_rfl) rfl rfl rfl rfl (q_move rfl rfl) (WA_take 2 rfl (by kernel_rfl) (by kernel_rfl) rfl rfl rfl rfl (q_load_box_struct G rfl rfl rfl rfl rfl rfl) (WA_take 4 rfl (by kernel_rfl) (by kernel_rfl) rfl rfl rfl rfl (q_move rfl rfl) (?_)))
        refine WA_more (N := 2) rfl (WAV_startH (fuel := 11) [⟨11, 8, 1, true, .box (avR [.slice none 0 0, .slice none 0 0, .slice none 0 0, .slice none 0 0, .slice none 0 0] [])⟩] (AllVOK.cons (VOK.boxS G rfl rfl rfl rfl rfl) (AllVOK.nil)) (fun hok => ?_))
        refine WAV_go [(1, [])] (by kernel_rfl) (by kernel_rfl) (fun e he => hok e he) (by kernel_rfl) (AllVS.cons ?_ AllVS.nil)
        refine VStep.mk0 [0] rfl rfl (fun b1 _ hbn => WX_call 3 rfl rfl rfl (ArgsOK.of rfl) (c_laws_toRouteS rs hn) rfl rfl (WL_nil rfl)) (by kernel_rfl) (by kernel_rfl) (by kernel_rfl) (by kernel_rfl) ?_
        refine WAV_go [(3, [])] (by kernel_rfl) (by kernel_rfl) (fun e he => hok e (by first | exact he | cases he | exact List.mem_cons_of_mem _ he | (simp only [List.mem_cons, List.not_mem_nil, or_false] at he ⊢; first | exact he | exact .inl he | exact .inr he | (rcases he with he | he <;> simp [he])))) (by kernel_rfl) (AllVS.cons ?_ AllVS.nil)
        refine VStep.mk0 [0] rfl rfl (fun b1 _ hbn => WX_call 8 rfl rfl rfl (ArgsOK.of rfl) (c_laws_toAbstract a hs) rfl rfl (WL_nil rfl)) (by kernel_rfl) (by kernel_rfl) (by kernel_rfl) (by kernel_rfl) ?_
        refine WAV_go [(5, [])] (by kernel_rfl) (by kernel_rfl) (fun e he => hok e (by first | exact he | cases he | exact List.mem_cons_of_mem _ he | (simp only [List.mem_cons, List.not_mem_nil, or_false] at he ⊢; first | exact he | exact .inl he | exact .inr he | (rcases he with he | he <;> simp [he])))) (by kernel_rfl) (AllVS.cons ?_ AllVS.nil)
        refine VStep.mk0 [0] rfl rfl (fun b1 _ hbn => WX_call 9 rfl rfl rfl (ArgsOK.of rfl) (c_laws_toMachStepS ss hl) rfl rfl (WL_nil rfl)) (by kernel_rfl) (by kernel_rfl) (by kernel_rfl) (by kernel_rfl) ?_
        refine WAV_go [(6, [])] (by kernel_rfl) (by kernel_rfl) (fun e he => hok e (by first | exact he | cases he | exact List.mem_cons_of_mem _ he | (simp only [List.mem_cons, List.not_mem_nil, or_false] at he ⊢; first | exact he | exact .inl he | exact .inr he | (rcases he with he | he <;> simp [he])))) (by kernel_rfl) (AllVS.cons ?_ AllVS.nil)
        refine VStep.mk0 [0] rfl rfl (fun b1 _ hbn => WX_call 15 rfl rfl rfl (ArgsOK.of rfl) cs1 rfl rfl (WL_nil rfl)) (by kernel_rfl) (by kernel_rfl) (by kernel_rfl) (by kernel_rfl) ?_
        refine WAV_take 7 rfl (by kernel_rfl) rfl rfl rfl rfl (q_move rfl rfl) (by kernel_rfl) (by kernel_rfl) (by kernel_rfl) ?_
        refine WAV_take 8 rfl (by kernel_rfl) rfl rfl rfl rfl (q_extract rfl rfl rfl) (by kernel_rfl) (by kernel_rfl) (by kernel_rfl) ?_
        refine WAV_take 9 rfl (by kernel_rfl) rfl rfl rfl rfl (q_extract rfl rfl rfl) (by kernel_rfl) (by kernel_rfl) (by kernel_rfl) ?_
        refine WAV_take 10 rfl (by kernel_rfl) rfl rfl rfl rfl (q_extract rfl rfl rfl) (by kernel_rfl) (by kernel_rfl) (by kernel_rfl) ?_
        refine WAV_go [(12, [11])] (by kernel_rfl) (by kernel_rfl) (fun e he => hok e (by first | exact he | cases he | exact List.mem_cons_of_mem _ he | (simp only [List.mem_cons, List.not_mem_nil, or_false] at he ⊢; first | exact he | exact .inl he | exact .inr he | (rcases he with he | he <;> simp [he])))) (by kernel_rfl) (AllVS.cons ?_ AllVS.nil)
        refine VStep.mk1 [0] 8 (.ptr 1 0) 1 (.box (avR [.slice none 0 0, .slice none 0 0, .slice none 0 0, .slice none 0 0, .slice none 0 0] [])) [] rfl rfl rfl rfl rfl (fun b1 _ hbn => WX_store G rfl rfl rfl rfl rfl rfl rfl rfl rfl rfl rfl (WL_nil rfl)) (by kernel_rfl) (by kernel_rfl) (by kernel_rfl) (by kernel_rfl) ?_
        refine WAV_nil ?_
        clear hok
        refine WA_take 13 rfl (by kernel_rfl) (by kernel_rfl) rfl rfl rfl rfl (q_assign rfl rfl) (WA_take 14 rfl (by kernel_rfl) (by kernel_rfl) rfl rfl rfl rfl (q_assign rfl rfl) (?_))
        refine WA_end (by kernel_rfl) (hK15 _ ?_)
        clear hK15 K15
        refine W_seq (fun K16 hK16 => ?_)
        refine W_region (WL_cons rfl (WX_q rfl rfl (q_move rfl rfl) (WL_cons rfl (?_))))
        refine WX_call 16 rfl rfl rfl (ArgsOK.of rfl) (c_laws_toRouteS rs hn) rfl rfl ?_
        refine WL_cons rfl (WX_q rfl rfl (q_assign rfl rfl) (?_))
        refine WL_nil (hK16 _ ?_)
        clear hK16 K16
        refine W_seq (fun K17 hK17 => ?_)
        refine W_region (WL_cons rfl (WX_q rfl rfl (q_load_box_struct G rfl rfl rfl rfl rfl rfl) (WL_cons rfl (?_))))
        refine WX_call 21 rfl rfl rfl (ArgsOK.of rfl) (c_laws_toAbstract a hs) rfl rfl ?_
        refine WL_cons rfl (WX_alloc_s G 22 rfl rfl rfl rfl rfl (WL_cons rfl (WX_store G rfl rfl rfl rfl rfl rfl rfl rfl rfl rfl rfl (?_))))
        refine WL_nil (hK17 _ ?_)
        clear hK17 K17
        refine W_seq (fun K18 hK18 => ?_)
        refine W_region (WL_cons rfl (WX_q rfl rfl (q_move rfl rfl) (WL_cons rfl (?_))))
        refine WX_call 23 rfl rfl rfl (ArgsOK.of rfl) (c_laws_toMachStepS ss hl) rfl rfl ?_
        refine WL_cons rfl (WX_q rfl rfl (q_assign rfl rfl) (?_))
        refine WL_nil (hK18 _ ?_)
        clear hK18 K18
        refine W_seq (fun K19 hK19 => ?_)
        refine W_region (WL_cons rfl (WX_q rfl rfl (q_move rfl rfl) (WL_cons rfl (WX_q rfl rfl (q_load_box_struct G rfl rfl rfl rfl rfl rfl) (WL_cons rfl (WX_q rfl rfl (q_move rfl rfl) (WL_cons rfl (?_))))))))
        refine WX_call 29 rfl rfl rfl (ArgsOK.of rfl) ci1 rfl rfl ?_
        refine WL_cons rfl (WX_q rfl rfl (q_move rfl rfl) (WL_cons rfl (WX_q rfl rfl (q_extract rfl rfl rfl) (WL_cons rfl (WX_q rfl rfl (q_extract rfl rfl rfl) (WL_cons rfl (WX_q rfl rfl (q_extract rfl rfl rfl) (WL_cons rfl (WX_alloc_s G 30 rfl rfl rfl rfl rfl (WL_cons rfl (WX_store G rfl rfl rfl rfl rfl rfl rfl rfl rfl rfl rfl (WL_cons rfl (WX_q rfl rfl (q_assign rfl rfl) (WL_cons rfl (WX_q rfl rfl (q_assign rfl rfl) (?_))))))))))))))))
        refine WL_nil (hK19 _ ?_)
        clear hK19 K19
        refine W_seq (fun K20 hK20 => ?_)
        refine W_seq (fun K21 hK21 => ?_)
        refine W_region (WL_cons rfl (WX_q rfl rfl (q_load_box_struct G rfl rfl rfl rfl rfl rfl) (WL_cons rfl (WX_q rfl rfl (q_load_box_struct G rfl rfl rfl rfl rfl rfl) (WL_cons rfl (?_))))))
        refine WX_q rfl rfl (q_call rfl (ArgsOK.of rfl) (Ctr.bool (c_laws_eqAbstract x x hbs) (eqAb_iff.mpr rfl)) rfl) ?_
        refine WL_cons rfl (WX_q rfl rfl (q_not_t rfl rfl) (WL_cons rfl (WX_q rfl rfl (q_move rfl rfl) (WL_run rfl rfl rfl (WX_q rfl rfl (q_move rfl rfl) (WL_run rfl rfl rfl (WX_q rfl rfl (q_move rfl rfl) (WL_run rfl rfl rfl (?_)))))))))
        refine WX_q rfl rfl (q_call rfl (ArgsOK.of rfl) (Ctr.bool (c_laws_eqIntS irqs irqs (by omega)) (decide_eq_true rfl)) rfl) ?_
        refine WL_run rfl rfl rfl (WX_q rfl rfl (q_not_t rfl rfl) (WL_cons rfl (WX_q rfl rfl (q_pick_f rfl rfl rfl) (WL_cons rfl (WX_q rfl rfl (q_move rfl rfl) (WL_run rfl rfl rfl (WX_q rfl rfl (q_move rfl rfl) (WL_run rfl rfl rfl (WX_q rfl rfl (q_move rfl rfl) (WL_run rfl rfl rfl (?_)))))))))))
        refine WX_q rfl rfl (q_eqv (v' := .bool false) (q_bne (G 4 _ rfl).1 rfl rfl rfl) (by first | rfl | exact congrArg Value.bool (decide_eq_false (by omega)) | (simp; done) | (simp; omega))) ?_
        refine WL_cons rfl (WX_q rfl rfl (q_pick_f rfl rfl rfl) (?_))
        refine WL_nil (hK21 _ ?_)
        clear hK21 K21
        refine W_false rfl ?_
        refine W_skip (hK20 _ ?_)
        clear hK20 K20
        refine W_seq (fun K22 hK22 => ?_)
        refine W_seq (fun K23 hK23 => ?_)
        refine W_region (WL_cons rfl (WX_q rfl rfl (q_move rfl rfl) (WL_cons rfl (WX_q rfl rfl (q_move rfl rfl) (WL_cons rfl (?_))))))
        refine WX_call 31 rfl rfl rfl (ArgsOK.of rfl) (c_laws_toRouteS rs hn) rfl rfl ?_
        refine WL_cons rfl (?_)
        refine WX_q rfl rfl (q_call rfl (ArgsOK.of rfl) (Ctr.bool (c_laws_eqRouteS rs rs h0) (decide_eq_true rfl)) rfl) ?_
        refine WL_cons rfl (WX_q rfl rfl (q_not_t rfl rfl) (?_))
        refine WL_nil (hK23 _ ?_)
        clear hK23 K23
        refine W_false rfl ?_
        refine W_skip (hK22 _ ?_)
        clear hK22 K22
        refine W_seq (fun K24 hK24 => ?_)
        refine W_seq (fun K25 hK25 => ?_)
        refine W_drawsH 5 [0, 1, 2, 3, 4, 5, 6, 7, 8, 9, 10, 11, 12, 13, 14, 15, 16, 17, 18, 19, 20, 21, 22, 23, 24, 25, 26, 27, 28, 29, 30] mixed (by kernel_rfl) rfl rfl (fun r0 => ?_) (fun _ h => h)
        refine WA_take 0 rfl (by kernel_rfl) (by kernel_rfl) rfl rfl rfl rfl (q_load_box_struct G rfl rfl rfl rfl rfl rfl) (WA_take 1 rfl (by kernel_rfl) (by kernel_rfl) rfl rfl rfl rfl (q_load_box_struct G rfl rfl rfl rfl rfl rfl) (?_))
        refine WA_branch (rs := [2]) (by kernel_rfl) rfl (AllB.cons ?_ AllB.nil)
        refine WB_run [0, 1, 2, 3, 4, 5, 6, 7, 8, 9, 10, 11, 12, 13, 14, 15, 16, 17, 18, 19, 20, 21, 22, 23, 24, 25, 26, 27, 28, 29, 30] rfl rfl (WX_call 36 rfl rfl rfl (ArgsOK.of rfl) (c_laws_toAbstract a hs) rfl rfl (WL_nil ⟨rfl, ?_⟩))
        refine WA_branch (rs := [3]) (by kernel_rfl) rfl (AllB.cons ?_ AllB.nil)
        refine WB_run [0, 1, 2, 3, 4, 5, 6, 7, 8, 9, 10, 11, 12, 13, 14, 15, 16, 17, 18, 19, 20, 21, 22, 23, 24, 25, 26, 27, 28, 29, 30] rfl rfl (WX_q rfl rfl (q_call rfl (ArgsOK.of rfl) (Ctr.bool (c_laws_eqAbstract a a hb) (eqAb_iff.mpr rfl)) rfl) (WL_nil ⟨rfl, ?_⟩))
        refine WA_take 4 rfl (by kernel_rfl) (by kernel_rfl) rfl rfl rfl rfl (q_not_t rfl rfl) (?_)
        refine WA_end (by kernel_rfl) (hK25 _ ?_)
        clear hK25 K25
        refine W_false rfl ?_
        refine W_skip (hK24 _ ?_)
        clear hK24 K24
        refine W_seq (fun K26 hK26 => ?_)
        refine W_seq (fun K27 hK27 => ?_)
        refine W_region (WL_cons rfl (WX_q rfl rfl (q_move rfl rfl) (WL_cons rfl (WX_q rfl rfl (q_move rfl rfl) (WL_cons rfl (?_))))))
        refine WX_call 37 rfl rfl rfl (ArgsOK.of rfl) (c_laws_toMachStepS ss hl) rfl rfl ?_
        refine WL_cons rfl (?_)
        refine WX_q rfl rfl (q_call rfl (ArgsOK.of rfl) (Ctr.bool (c_laws_eqMachStepS ss ss (by omega)) (decide_eq_true rfl)) rfl) ?_
        refine WL_cons rfl (WX_q rfl rfl (q_not_t rfl rfl) (?_))
        refine WL_nil (hK27 _ ?_)
        clear hK27 K27
        refine W_false rfl ?_
        refine W_skip (hK26 _ ?_)
        clear hK26 K26
        refine W_seq (fun K28 hK28 => ?_)
        refine W_region (WL_cons rfl (WX_q rfl rfl (q_assign rfl rfl) (?_)))
        refine WL_nil (hK28 _ ?_)
        clear hK28 K28
        refine W_seq (fun K29 hK29 => ?_)
        refine W_region (WL_cons rfl (WX_q rfl rfl (q_move rfl rfl) (WL_cons rfl (WX_q rfl rfl (q_move rfl rfl) (WL_cons rfl (?_))))))
        refine WX_callm 37 [15] rfl rfl rfl (c_laws_markRouteS rs hn) rfl (RowsIn.cons rfl RowsIn.nil) rfl rfl rfl ?_
        refine WL_cons rfl (WX_q rfl rfl (q_assign rfl rfl) (?_))
        refine WL_nil (hK29 _ ?_)
        clear hK29 K29
        refine W_seq (fun K30 hK30 => ?_)
        refine W_region (WL_cons rfl (WX_q rfl rfl (q_load_box_struct G rfl rfl rfl rfl rfl rfl) (WL_cons rfl (WX_q rfl rfl (q_move rfl rfl) (WL_cons rfl (?_))))))
        refine WX_callm 37 [16, 17, 18, 19, 20] rfl rfl rfl (c_laws_markAbstract a (1 + 2 * (rs.length : Int)) hs (by omega)) rfl (RowsIn.cons rfl (RowsIn.cons rfl (RowsIn.cons rfl (RowsIn.cons rfl (RowsIn.cons rfl RowsIn.nil))))) rfl rfl rfl ?_
        refine WL_cons rfl (WX_q rfl rfl (q_assign rfl rfl) (?_))
        refine WL_nil (hK30 _ ?_)
        clear hK30 K30
        refine W_seq (fun K31 hK31 => ?_)
        refine W_region (WL_cons rfl (WX_q rfl rfl (q_move rfl rfl) (WL_cons rfl (WX_q rfl rfl (q_move rfl rfl) (WL_cons rfl (?_))))))
        refine WX_callm 37 [22] rfl rfl rfl (c_laws_markMachStepS ss _ hl (by omega)) rfl (RowsIn.cons rfl RowsIn.nil) rfl rfl rfl ?_
        refine WL_cons rfl (WX_q rfl rfl (q_assign rfl rfl) (?_))
        refine WL_nil (hK31 _ ?_)
        clear hK31 K31
        refine W_seq (fun K32 hK32 => ?_)
        refine W_seq (fun K33 hK33 => ?_)
        refine W_region (WL_cons rfl (WX_q rfl rfl (q_move rfl rfl) (WL_cons rfl (?_))))
        refine WX_q rfl rfl (q_eqv (v' := .bool false) (q_cmp rfl rfl rfl rfl) (by first | rfl | exact congrArg Value.bool (decide_eq_false (by omega)) | (simp; done) | (simp; omega))) ?_
        refine WL_cons rfl (WX_q rfl rfl (q_move rfl rfl) (WL_run rfl rfl rfl (WX_q rfl rfl (q_load_box_struct G rfl rfl rfl rfl rfl rfl) (WL_run rfl rfl rfl (WX_q rfl rfl (q_load_box_struct G rfl rfl rfl rfl rfl rfl) (WL_run rfl rfl rfl (?_)))))))
        refine WX_q rfl rfl (q_call rfl (ArgsOK.of rfl) (Ctr.bool (c_laws_eqAbstract x x hbs) (eqAb_iff.mpr rfl)) rfl) ?_
        refine WL_run rfl rfl rfl (WX_q rfl rfl (q_not_t rfl rfl) (WL_cons rfl (WX_q rfl rfl (q_pick_f rfl rfl rfl) (WL_cons rfl (WX_q rfl rfl (q_move rfl rfl) (WL_run rfl rfl rfl (WX_q rfl rfl (q_move rfl rfl) (WL_run rfl rfl rfl (WX_q rfl rfl (q_move rfl rfl) (WL_run rfl rfl rfl (?_)))))))))))
        refine WX_q rfl rfl (q_call rfl (ArgsOK.of rfl) (Ctr.bool (c_laws_eqIntS irqs irqs (by omega)) (decide_eq_true rfl)) rfl) ?_
        refine WL_run rfl rfl rfl (WX_q rfl rfl (q_not_t rfl rfl) (WL_cons rfl (WX_q rfl rfl (q_pick_f rfl rfl rfl) (WL_cons rfl (WX_q rfl rfl (q_move rfl rfl) (WL_run rfl rfl rfl (WX_q rfl rfl (q_move rfl rfl) (WL_run rfl rfl rfl (WX_q rfl rfl (q_move rfl rfl) (WL_run rfl rfl rfl (?_)))))))))))
        refine WX_q rfl rfl (q_eqv (v' := .bool false) (q_bne (G 4 _ rfl).1 rfl rfl rfl) (by first | rfl | exact congrArg Value.bool (decide_eq_false (by omega)) | (simp; done) | (simp; omega))) ?_
        refine WL_cons rfl (WX_q rfl rfl (q_pick_f rfl rfl rfl) (?_))
        refine WL_nil (hK33 _ ?_)
        clear hK33 K33
        refine W_false rfl ?_
        refine W_skip (hK32 _ ?_)
        clear hK32 K32
        refine W_seq (fun K34 hK34 => ?_)
        refine W_region (WL_cons rfl (WX_q rfl rfl (q_assign rfl rfl) (?_)))
        refine WL_nil (hK34 _ ?_)
        clear hK34 K34
        refine W_seq (fun K35 hK35 => ?_)
        refine W_region (WL_cons rfl (WX_q rfl rfl (q_load_box_struct G rfl rfl rfl rfl rfl rfl) (WL_cons rfl (WX_q rfl rfl (q_move rfl rfl) (WL_cons rfl (?_))))))
        refine WX_callm 37 [23, 24, 25, 26, 27] rfl rfl rfl (c_laws_markAbstract x 1 hss (by omega)) rfl (RowsIn.cons rfl (RowsIn.cons rfl (RowsIn.cons rfl (RowsIn.cons rfl (RowsIn.cons rfl RowsIn.nil))))) rfl rfl rfl ?_
        refine WL_cons rfl (WX_q rfl rfl (q_assign rfl rfl) (?_))
        refine WL_nil (hK35 _ ?_)
        clear hK35 K35
        refine W_seq (fun K36 hK36 => ?_)
        refine W_region (WL_cons rfl (WX_q rfl rfl (q_move rfl rfl) (WL_cons rfl (WX_q rfl rfl (q_move rfl rfl) (WL_cons rfl (?_))))))
        refine WX_callm 37 [28] rfl rfl rfl (c_laws_markIntS irqs _ (by omega) (by omega)) rfl (RowsIn.cons rfl RowsIn.nil) rfl rfl rfl ?_
        refine WL_cons rfl (WX_q rfl rfl (q_assign rfl rfl) (?_))
        refine WL_nil (hK36 _ ?_)
        clear hK36 K36
        refine W_seq (fun K37 hK37 => ?_)
        refine W_region (WL_cons rfl (WX_q rfl rfl (q_assign rfl rfl) (?_)))
        refine WL_nil (hK37 _ ?_)
        clear hK37 K37
        refine W_seq (fun K38 hK38 => ?_)
        refine W_region (WL_cons rfl (WX_q rfl rfl (q_load_box_struct G rfl rfl rfl rfl rfl rfl) (WL_cons rfl (WX_q rfl rfl (q_move rfl rfl) (WL_cons rfl (?_))))))
        refine WX_q rfl rfl (q_call rfl (ArgsOK.of rfl) (c_laws_heldAbstract x 1 hss (by omega)) rfl) ?_
        refine WL_cons rfl (WX_q rfl rfl (q_assign rfl rfl) (?_))
        refine WL_nil (hK38 _ ?_)
        clear hK38 K38
        refine W_seq (fun K39 hK39 => ?_)
        refine W_seq (fun K40 hK40 => ?_)
        refine W_region (WL_cons rfl (WX_q rfl rfl (q_move rfl rfl) (WL_cons rfl (?_))))
        refine WX_q rfl rfl (q_eqv (v' := .bool false) (q_cmp rfl rfl rfl rfl) (by first | rfl | exact congrArg Value.bool (decide_eq_false (by omega)) | (simp; done) | (simp; omega))) ?_
        refine WL_nil (hK40 _ ?_)
        clear hK40 K40
        refine W_false rfl ?_
        refine W_skip (hK39 _ ?_)
        clear hK39 K39
        refine W_seq (fun K41 hK41 => ?_)
        refine W_region (WL_cons rfl (WX_q rfl rfl (q_move rfl rfl) (WL_cons rfl (WX_q rfl rfl (q_move rfl rfl) (WL_cons rfl (?_))))))
        refine WX_q rfl rfl (q_call rfl (ArgsOK.of rfl) (c_laws_heldIntS irqs _ (by omega) (by omega)) rfl) ?_
        refine WL_cons rfl (WX_q rfl rfl (q_assign rfl rfl) (?_))
        refine WL_nil (hK41 _ ?_)
        clear hK41 K41
        refine W_seq (fun K42 hK42 => ?_)
        refine W_seq (fun K43 hK43 => ?_)
        refine W_region (WL_cons rfl (WX_q rfl rfl (q_move rfl rfl) (WL_cons rfl (?_))))
        refine WX_q rfl rfl (q_eqv (v' := .bool false) (q_cmp rfl rfl rfl rfl) (by first | rfl | exact congrArg Value.bool (decide_eq_false (by omega)) | (simp; done) | (simp; omega))) ?_
        refine WL_nil (hK43 _ ?_)
        clear hK43 K43
        refine W_false rfl ?_
        refine W_skip (hK42 _ ?_)
        clear hK42 K42
        refine W_seq (fun K44 hK44 => ?_)
        refine W_seq (fun K45 hK45 => ?_)
        refine W_region (WL_cons rfl (WX_q rfl rfl (q_move rfl rfl) (WL_cons rfl (WX_q rfl rfl (q_move rfl rfl) (WL_cons rfl (?_))))))
        refine WX_q rfl rfl (q_eqv (v' := .bool false) (q_cmp rfl rfl rfl rfl) (by first | rfl | exact congrArg Value.bool (decide_eq_false (by omega)) | (simp; done) | (simp; omega))) ?_
        refine WL_nil (hK45 _ ?_)
        clear hK45 K45
        refine W_false rfl ?_
        refine W_skip (hK44 _ ?_)
        clear hK44 K44
        refine W_seq (fun K46 hK46 => ?_)
        refine W_drawsH 15 [0, 1, 2, 3, 4, 5, 6, 7, 8, 9, 10, 11, 12, 13, 14, 15, 16, 17, 18, 19, 20, 21, 22, 23, 24, 25, 26, 27, 28, 29, 30, 31, 32, 33, 34, 35, 36] mixed (by kernel_rfl) rfl rfl (fun r0 => ?_) (fun _ h => h)
        refine WA_take 0 rfl (by kernel_rfl) (by kernel_rfl) rfl rfl rfl rfl (q_move rfl rfl) (WA_take 2 rfl (by kernel_rfl) (by kernel_rfl) rfl rfl rfl rfl (q_load_box_struct G rfl rfl rfl rfl rfl rfl) (WA_take 4 rfl (by kernel_rfl) (by kernel_rfl) rfl rfl rfl rfl (q_move rfl rfl) (?_)))
        refine WA_more (N := 38) rfl (WAV_startH (fuel := 11) [⟨11, 20, 37, true, .box (avR [.slice none 0 0, .slice none 0 0, .slice none 0 0, .slice none 0 0, .slice none 0 0] [])⟩] (AllVOK.cons (VOK.boxS G rfl rfl rfl rfl rfl) (AllVOK.nil)) (fun hok => ?_))
        refine WAV_go [(1, [])] (by kernel_rfl) (by kernel_rfl) (fun e he => hok e he) (by kernel_rfl) (AllVS.cons ?_ AllVS.nil)
        refine VStep.mk0 [0, 1, 2, 3, 4, 5, 6, 7, 8, 9, 10, 11, 12, 13, 14, 15, 16, 17, 18, 19, 20, 21, 22, 23, 24, 25, 26, 27, 28, 29, 30, 31, 32, 33, 34, 35, 36] rfl rfl (fun b1 _ hbn => WX_call 39 rfl rfl rfl (ArgsOK.of rfl) (c_laws_toRouteS rs hn) rfl rfl (WL_nil rfl)) (by kernel_rfl) (by kernel_rfl) (by kernel_rfl) (by kernel_rfl) ?_
        refine WAV_go [(3, [])] (by kernel_rfl) (by kernel_rfl) (fun e he => hok e (by first | exact he | cases he | exact List.mem_cons_of_mem _ he | (simp only [List.mem_cons, List.not_mem_nil, or_false] at he ⊢; first | exact he | exact .inl he | exact .inr he | (rcases he with he | he <;> simp [he])))) (by kernel_rfl) (AllVS.cons ?_ AllVS.nil)
        refine VStep.mk0 [0, 1, 2, 3, 4, 5, 6, 7, 8, 9, 10, 11, 12, 13, 14, 15, 16, 17, 18, 19, 20, 21, 22, 23, 24, 25, 26, 27, 28, 29, 30, 31, 32, 33, 34, 35, 36] rfl rfl (fun b1 _ hbn => WX_call 44 rfl rfl rfl (ArgsOK.of rfl) (c_laws_toAbstract a hs) rfl rfl (WL_nil rfl)) (by kernel_rfl) (by kernel_rfl) (by kernel_rfl) (by kernel_rfl) ?_
        refine WAV_go [(5, [])] (by kernel_rfl) (by kernel_rfl) (fun e he => hok e (by first | exact he | cases he | exact List.mem_cons_of_mem _ he | (simp only [List.mem_cons, List.not_mem_nil, or_false] at he ⊢; first | exact he | exact .inl he | exact .inr he | (rcases he with he | he <;> simp [he])))) (by kernel_rfl) (AllVS.cons ?_ AllVS.nil)
        refine VStep.mk0 [0, 1, 2, 3, 4, 5, 6, 7, 8, 9, 10, 11, 12, 13, 14, 15, 16, 17, 18, 19, 20, 21, 22, 23, 24, 25, 26, 27, 28, 29, 30, 31, 32, 33, 34, 35, 36] rfl rfl (fun b1 _ hbn => WX_call 45 rfl rfl rfl (ArgsOK.of rfl) (c_laws_toMachStepS ss hl) rfl rfl (WL_nil rfl)) (by kernel_rfl) (by kernel_rfl) (by kernel_rfl) (by kernel_rfl) ?_
        refine WAV_go [(6, [])] (by kernel_rfl) (by kernel_rfl) (fun e he => hok e (by first | exact he | cases he | exact List.mem_cons_of_mem _ he | (simp only [List.mem_cons, List.not_mem_nil, or_false] at he ⊢; first | exact he | exact .inl he | exact .inr he | (rcases he with he | he <;> simp [he])))) (by kernel_rfl) (AllVS.cons ?_ AllVS.nil)
        refine VStep.mk0 [0, 1, 2, 3, 4, 5, 6, 7, 8, 9, 10, 11, 12, 13, 14, 15, 16, 17, 18, 19, 20, 21, 22, 23, 24, 25, 26, 27, 28, 29, 30, 31, 32, 33, 34, 35, 36] rfl rfl (fun b1 _ hbn => WX_call 51 rfl rfl rfl (ArgsOK.of rfl) ci1 rfl rfl (WL_nil rfl)) (by kernel_rfl) (by kernel_rfl) (by kernel_rfl) (by kernel_rfl) ?_
        refine WAV_take 7 rfl (by kernel_rfl) rfl rfl rfl rfl (q_move rfl rfl) (by kernel_rfl) (by kernel_rfl) (by kernel_rfl) ?_
        refine WAV_take 8 rfl (by kernel_rfl) rfl rfl rfl rfl (q_extract rfl rfl rfl) (by kernel_rfl) (by kernel_rfl) (by kernel_rfl) ?_
        refine WAV_take 9 rfl (by kernel_rfl) rfl rfl rfl rfl (q_extract rfl rfl rfl) (by kernel_rfl) (by kernel_rfl) (by kernel_rfl) ?_
        refine WAV_take 10 rfl (by kernel_rfl) rfl rfl rfl rfl (q_extract rfl rfl rfl) (by kernel_rfl) (by kernel_rfl) (by kernel_rfl) ?_
        refine WAV_go [(12, [11])] (by kernel_rfl) (by kernel_rfl) (fun e he => hok e (by first | exact he | cases he | exact List.mem_cons_of_mem _ he | (simp only [List.mem_cons, List.not_mem_nil, or_false] at he ⊢; first | exact he | exact .inl he | exact .inr he | (rcases he with he | he <;> simp [he])))) (by kernel_rfl) (AllVS.cons ?_ AllVS.nil)
        refine VStep.mk1 [0, 1, 2, 3, 4, 5, 6, 7, 8, 9, 10, 11, 12, 13, 14, 15, 16, 17, 18, 19, 20, 21, 22, 23, 24, 25, 26, 27, 28, 29, 30, 31, 32, 33, 34, 35, 36] 20 (.ptr 37 0) 37 (.box (avR [.slice none 0 0, .slice none 0 0, .slice none 0 0, .slice none 0 0, .slice none 0 0] [])) [] rfl rfl rfl rfl rfl (fun b1 _ hbn => WX_store G rfl rfl rfl rfl rfl rfl rfl rfl rfl rfl rfl (WL_nil rfl)) (by kernel_rfl) (by kernel_rfl) (by kernel_rfl) (by kernel_rfl) ?_
        refine WAV_nil ?_
        clear hok
        refine WA_take 13 rfl (by kernel_rfl) (by kernel_rfl) rfl rfl rfl rfl (q_assign rfl rfl) (WA_take 14 rfl (by kernel_rfl) (by kernel_rfl) rfl rfl rfl rfl (q_assign rfl rfl) (?_))
        refine WA_end (by kernel_rfl) (hK46 _ ?_)
        clear hK46 K46
        refine W_seq (fun K47 hK47 => ?_)
        refine W_seq (fun K48 hK48 => ?_)
        refine W_region (WL_cons rfl (WX_q rfl rfl (q_load_box_struct G rfl rfl rfl rfl rfl rfl) (WL_cons rfl (WX_q rfl rfl (q_load_box_struct G rfl rfl rfl rfl rfl rfl) (WL_cons rfl (?_))))))
        refine WX_q rfl rfl (q_call rfl (ArgsOK.of rfl) (Ctr.bool (c_laws_eqAbstract x x hbs) (eqAb_iff.mpr rfl)) rfl) ?_
        refine WL_cons rfl (WX_q rfl rfl (q_not_t rfl rfl) (WL_cons rfl (WX_q rfl rfl (q_move rfl rfl) (WL_run rfl rfl rfl (WX_q rfl rfl (q_move rfl rfl) (WL_run rfl rfl rfl (WX_q rfl rfl (q_move rfl rfl) (WL_run rfl rfl rfl (?_)))))))))
        refine WX_q rfl rfl (q_call rfl (ArgsOK.of rfl) (Ctr.bool (c_laws_eqIntS irqs irqs (by omega)) (decide_eq_true rfl)) rfl) ?_
        refine WL_run rfl rfl rfl (WX_q rfl rfl (q_not_t rfl rfl) (WL_cons rfl (WX_q rfl rfl (q_pick_f rfl rfl rfl) (WL_cons rfl (WX_q rfl rfl (q_move rfl rfl) (WL_run rfl rfl rfl (WX_q rfl rfl (q_move rfl rfl) (WL_run rfl rfl rfl (WX_q rfl rfl (q_move rfl rfl) (WL_run rfl rfl rfl (?_)))))))))))
        refine WX_q rfl rfl (q_eqv (v' := .bool false) (q_bne (G 4 _ rfl).1 rfl rfl rfl) (by first | rfl | exact congrArg Value.bool (decide_eq_false (by omega)) | (simp; done) | (simp; omega))) ?_
        refine WL_cons rfl (WX_q rfl rfl (q_pick_f rfl rfl rfl) (?_))
        refine WL_nil (hK48 _ ?_)
        clear hK48 K48
        refine W_false rfl ?_
        refine W_skip (hK47 _ ?_)
        clear hK47 K47
        refine W_seq (fun K49 hK49 => ?_)
        refine W_region (WL_cons rfl (WX_q rfl rfl (q_assign rfl rfl) (?_)))
        refine WL_nil (hK49 _ ?_)
        clear hK49 K49
        refine W_seq (fun K50 hK50 => ?_)
        refine W_region (WL_cons rfl (WX_q rfl rfl (q_load_box_struct G rfl rfl rfl rfl rfl rfl) (WL_cons rfl (WX_q rfl rfl (q_move rfl rfl) (WL_cons rfl (?_))))))
        refine WX_q rfl rfl (q_call rfl (ArgsOK.of rfl) (c_laws_heldAbstract x 1 hss (by omega)) rfl) ?_
        refine WL_cons rfl (WX_q rfl rfl (q_assign rfl rfl) (?_))
        refine WL_nil (hK50 _ ?_)
        clear hK50 K50
        refine W_seq (fun K51 hK51 => ?_)
        refine W_seq (fun K52 hK52 => ?_)
        refine W_region (WL_cons rfl (WX_q rfl rfl (q_move rfl rfl) (WL_cons rfl (?_))))
        refine WX_q rfl rfl (q_eqv (v' := .bool false) (q_cmp rfl rfl rfl rfl) (by first | rfl | exact congrArg Value.bool (decide_eq_false (by omega)) | (simp; done) | (simp; omega))) ?_
        refine WL_nil (hK52 _ ?_)
        clear hK52 K52
        refine W_false rfl ?_
        refine W_skip (hK51 _ ?_)
        clear hK51 K51
        refine W_seq (fun K53 hK53 => ?_)
        refine W_region (WL_cons rfl (WX_q rfl rfl (q_move rfl rfl) (WL_cons rfl (WX_q rfl rfl (q_move rfl rfl) (WL_cons rfl (?_))))))
        refine WX_q rfl rfl (q_call rfl (ArgsOK.of rfl) (c_laws_heldIntS irqs _ (by omega) (by omega)) rfl) ?_
        refine WL_cons rfl (WX_q rfl rfl (q_assign rfl rfl) (?_))
        refine WL_nil (hK53 _ ?_)
        clear hK53 K53
        refine W_seq (fun K54 hK54 => ?_)
        refine W_seq (fun K55 hK55 => ?_)
        refine W_region (WL_cons rfl (WX_q rfl rfl (q_move rfl rfl) (WL_cons rfl (?_))))
        refine WX_q rfl rfl (q_eqv (v' := .bool false) (q_cmp rfl rfl rfl rfl) (by first | rfl | exact congrArg Value.bool (decide_eq_false (by omega)) | (simp; done) | (simp; omega))) ?_
        refine WL_nil (hK55 _ ?_)
        clear hK55 K55
        refine W_false rfl ?_
        refine W_skip (hK54 _ ?_)
        clear hK54 K54
        refine W_seq (fun K56 hK56 => ?_)
        refine W_seq (fun K57 hK57 => ?_)
        refine W_region (WL_cons rfl (WX_q rfl rfl (q_move rfl rfl) (WL_cons rfl (WX_q rfl rfl (q_move rfl rfl) (WL_cons rfl (?_))))))
        refine WX_q rfl rfl (q_eqv (v' := .bool false) (q_cmp rfl rfl rfl rfl) (by first | rfl | exact congrArg Value.bool (decide_eq_false (by omega)) | (simp; done) | (simp; omega))) ?_
        refine WL_nil (hK57 _ ?_)
        clear hK57 K57
        refine W_false rfl ?_
        refine W_skip (hK56 _ ?_)
        clear hK56 K56
        refine W_seq (fun K58 hK58 => ?_)
        refine W_region (WL_cons rfl (WX_q rfl rfl (q_assign rfl rfl) (?_)))
        refine WL_nil (hK58 _ ?_)
        clear hK58 K58
        refine W_ret (fin_one rfl (rc_v ?_))
        all_goals (first | rfl | (exfalso; omega) | (simp_all; done))

end Go.Proofs.Ytcnodpipinlpcaa
