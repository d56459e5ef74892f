/- Texts merged into one: M7, M6, M21. -/
import Derived.Test.YtcnodpipinlpcaaGreatPFnExactAbstractOfF
/- Walks through functions of the program, one contract each (written by gen.py). -/
set_option maxRecDepth 20000
set_option linter.unusedVariables false
set_option linter.unusedSimpArgs false
namespace Go.Proofs.YtcnodpipinlpcaaGreat
open Go Go.Rf

theorem c_laws_markSlotS (xs : List Slot) (k : Int) (hn : xs.length ≤ 1048576) (hk : 0 ≤ k ∧ k ≤ 1000000000) : CtrM Tryz.prog 144 [.own 0, .v (.int .i64 k)] [.row 154 3 (xs.map encSl)] (.one (.v (.int .i64 (k + 3 * (xs.length : Int))))) [some (.row 154 3 ((over (mkSl k) xs xs.length).map encSl))] := by
  refine CtrM.of (n := 34) (k := 1) G Tryz.func144 rfl (by kernel_rfl) rfl rfl rfl rfl rfl rfl rfl (fun w0 _ hpin => ?_)
  refine W_seq (fun K1 hK1 => ?_)
  refine W_region (WL_cons rfl (WX_q rfl rfl (q_assign rfl rfl) (?_)))
  refine WL_nil (hK1 _ ?_)
  clear hK1 K1
  refine W_seq (fun K2 hK2 => ?_)
  refine W_seq (fun K3 hK3 => ?_)
  refine W_region (WL_cons rfl (WX_q rfl rfl (q_assign rfl rfl) (?_)))
  refine WL_nil (hK3 _ ?_)
  clear hK3 K3
  refine W_block ?_
  refine W_loopK [0] [] (fun (i : Nat) => [(1, .v (.int .i64 (k + 3 * (i : Int)))), (5, .v (.int .i64 (i : Int)))]) (fun (i : Nat) => [(0, some (.row 154 3 ((over (mkSl k) xs i).map encSl)))]) (fun (i : Nat) => i ≤ xs.length) (fun (i : Nat) => xs.length - i) 0 rfl rfl ?_ ?_ ?_ ?_
  · exact Nat.zero_le _
  · exact ⟨⟨_, rfl, by (first | rfl | (congr 2; omega))⟩, rfl, ⟨⟨_, rfl, by (first | rfl | (congr 2; omega))⟩, rfl, trivial⟩⟩
  · exact ⟨⟨_, rfl, by exact congrArg (Row.row _ _) (by rw [over_zero])⟩, rfl, rfl, trivial⟩
  · intro i hinv
    have hi : i ≤ xs.length := hinv
    simp only [List.cons_append, List.nil_append]
    refine W_seq (fun K4 hK4 => ?_)
    refine W_seq (fun K5 hK5 => ?_)
    refine W_region (WL_cons rfl (WX_q rfl rfl (q_move rfl rfl) (WL_cons rfl (WX_q rfl rfl (q_move rfl rfl) (WL_cons rfl (?_))))))
    first | refine WX_q rfl rfl (q_len' G rfl rfl rfl rfl (by rw [List.length_map, over_len (by omega)])) ?_ | refine WX_q rfl rfl (q_len G rfl rfl rfl rfl) ?_
    refine WL_cons rfl (WX_q rfl rfl (q_cmp rfl rfl rfl rfl) (?_))
    refine WL_nil (hK5 _ ?_)
    clear hK5 K5
    refine W_cond rfl (fun h1 => ?_) (fun h1 => ?_)
    · try rw [h1]
      try simp only [rfb] at h1
      refine W_skip (hK4 _ ?_)
      clear hK4 K4
      refine W_seq (fun K6 hK6 => ?_)
      refine W_block ?_
      refine W_seq (fun K7 hK7 => ?_)
      refine W_region (WL_cons rfl (WX_q rfl rfl (q_move rfl rfl) (WL_cons rfl (WX_q rfl rfl (q_move rfl rfl) (WL_cons rfl (WX_q rfl rfl (q_move rfl rfl) (WL_cons rfl (?_))))))))
      first | refine WX_q rfl rfl (q_index_own G rfl rfl rfl rfl rfl (by omega) (by rw [List.length_map, over_len (by omega)]; omega)) ?_ | refine WX_q rfl rfl (q_index_own G rfl rfl rfl rfl rfl (by omega) (by rw [List.length_set, List.length_map, over_len (by omega)]; omega)) ?_ | refine WX_q rfl rfl (q_index_own G rfl rfl rfl rfl rfl (by omega) (by simp only [List.length_set, List.length_map]; rw [over_len (by omega)]; omega)) ?_
      refine WL_cons rfl (WX_q rfl rfl (q_field_rpt G rfl rfl rfl rfl) (WL_cons rfl (?_)))
      first | refine WX_store_row G rfl rfl rfl rfl rfl (over_get (by omega)) rfl rfl rfl rfl rfl (Nat.le_of_ble_eq_true rfl) rfl ?_ | refine WX_store_row G rfl rfl rfl rfl rfl (set_get (by rw [List.length_map, over_len (by omega)]; omega)) rfl rfl rfl rfl rfl (Nat.le_of_ble_eq_true rfl) rfl ?_ | refine WX_store_row G rfl rfl rfl rfl rfl (set_get (by simp only [List.length_set, List.length_map]; rw [over_len (by omega)]; omega)) rfl rfl rfl rfl rfl (Nat.le_of_ble_eq_true rfl) rfl ?_
      refine WL_nil (hK7 _ ?_)
      clear hK7 K7
      refine W_seq (fun K8 hK8 => ?_)
      refine W_region (WL_cons rfl (WX_q rfl rfl (q_move rfl rfl) (WL_cons rfl (?_))))
      first | refine WX_q rfl rfl (q_arith rfl rfl rfl rfl (by omega) (by omega)) ?_ | refine WX_q rfl rfl (q_wrap rfl rfl rfl rfl) ?_
      refine WL_cons rfl (WX_q rfl rfl (q_assign rfl rfl) (?_))
      refine WL_nil (hK8 _ ?_)
      clear hK8 K8
      refine W_seq (fun K9 hK9 => ?_)
      refine W_region (WL_cons rfl (WX_q rfl rfl (q_move rfl rfl) (WL_cons rfl (WX_q rfl rfl (q_move rfl rfl) (WL_cons rfl (WX_q rfl rfl (q_move rfl rfl) (WL_cons rfl (?_))))))))
      first | refine WX_q rfl rfl (q_index_own G rfl rfl rfl rfl rfl (by omega) (by rw [List.length_map, over_len (by omega)]; omega)) ?_ | refine WX_q rfl rfl (q_index_own G rfl rfl rfl rfl rfl (by omega) (by rw [List.length_set, List.length_map, over_len (by omega)]; omega)) ?_ | refine WX_q rfl rfl (q_index_own G rfl rfl rfl rfl rfl (by omega) (by simp only [List.length_set, List.length_map]; rw [over_len (by omega)]; omega)) ?_
      refine WL_cons rfl (WX_q rfl rfl (q_field_rpt G rfl rfl rfl rfl) (WL_cons rfl (?_)))
      first | refine WX_store_row G rfl rfl rfl rfl rfl (over_get (by omega)) rfl rfl rfl rfl rfl (Nat.le_of_ble_eq_true rfl) rfl ?_ | refine WX_store_row G rfl rfl rfl rfl rfl (set_get (by rw [List.length_map, over_len (by omega)]; omega)) rfl rfl rfl rfl rfl (Nat.le_of_ble_eq_true rfl) rfl ?_ | refine WX_store_row G rfl rfl rfl rfl rfl (set_get (by simp only [List.length_set, List.length_map]; rw [over_len (by omega)]; omega)) rfl rfl rfl rfl rfl (Nat.le_of_ble_eq_true rfl) rfl ?_
      refine WL_nil (hK9 _ ?_)
      clear hK9 K9
      refine W_seq (fun K10 hK10 => ?_)
      refine W_region (WL_cons rfl (WX_q rfl rfl (q_move rfl rfl) (WL_cons rfl (?_))))
      first | refine WX_q rfl rfl (q_arith rfl rfl rfl rfl (by omega) (by omega)) ?_ | refine WX_q rfl rfl (q_wrap rfl rfl rfl rfl) ?_
      refine WL_cons rfl (WX_q rfl rfl (q_assign rfl rfl) (?_))
      refine WL_nil (hK10 _ ?_)
      clear hK10 K10
      refine W_seq (fun K11 hK11 => ?_)
      refine W_region (WL_cons rfl (WX_q rfl rfl (q_move rfl rfl) (WL_cons rfl (WX_q rfl rfl (q_move rfl rfl) (WL_cons rfl (WX_q rfl rfl (q_move rfl rfl) (WL_cons rfl (?_))))))))
      first | refine WX_q rfl rfl (q_index_own G rfl rfl rfl rfl rfl (by omega) (by rw [List.length_map, over_len (by omega)]; omega)) ?_ | refine WX_q rfl rfl (q_index_own G rfl rfl rfl rfl rfl (by omega) (by rw [List.length_set, List.length_map, over_len (by omega)]; omega)) ?_ | refine WX_q rfl rfl (q_index_own G rfl rfl rfl rfl rfl (by omega) (by simp only [List.length_set, List.length_map]; rw [over_len (by omega)]; omega)) ?_
      refine WL_cons rfl (WX_q rfl rfl (q_field_rpt G rfl rfl rfl rfl) (WL_cons rfl (?_)))
      first | refine WX_store_row G rfl rfl rfl rfl rfl (over_get (by omega)) rfl rfl rfl rfl rfl (Nat.le_of_ble_eq_true rfl) rfl ?_ | refine WX_store_row G rfl rfl rfl rfl rfl (set_get (by rw [List.length_map, over_len (by omega)]; omega)) rfl rfl rfl rfl rfl (Nat.le_of_ble_eq_true rfl) rfl ?_ | refine WX_store_row G rfl rfl rfl rfl rfl (set_get (by simp only [List.length_set, List.length_map]; rw [over_len (by omega)]; omega)) rfl rfl rfl rfl rfl (Nat.le_of_ble_eq_true rfl) rfl ?_
      refine WL_nil (hK11 _ ?_)
      clear hK11 K11
      refine W_region (WL_cons rfl (WX_q rfl rfl (q_move rfl rfl) (WL_cons rfl (?_))))
      first | refine WX_q rfl rfl (q_arith rfl rfl rfl rfl (by omega) (by omega)) ?_ | refine WX_q rfl rfl (q_wrap rfl rfl rfl rfl) ?_
      refine WL_cons rfl (WX_q rfl rfl (q_assign rfl rfl) (?_))
      refine WL_nil (hK6 _ ?_)
      clear hK6 K6
      refine W_region (WL_cons rfl (WX_q rfl rfl (q_move rfl rfl) (WL_cons rfl (?_))))
      first | refine WX_q rfl rfl (q_arith rfl rfl rfl rfl (by omega) (by omega)) ?_ | refine WX_q rfl rfl (q_wrap rfl rfl rfl rfl) ?_
      refine WL_cons rfl (WX_q rfl rfl (q_assign rfl rfl) (?_))
      refine WL_nil ⟨(i + 1), ?_, ?_, ⟨⟨_, rfl, by (first | rfl | (congr 2; omega))⟩, rfl, ⟨⟨_, rfl, by (first | rfl | (congr 2; omega))⟩, rfl, trivial⟩⟩, ⟨⟨_, rfl, by exact congrArg (Row.row _ _) (by (try simp only [List.set_set]); exact over_set (g := mkSl k) (f := encSl) (by omega))⟩, rfl, rfl, trivial⟩, rfl, rfl, rfl⟩
      · omega
      · omega
    · try rw [h1]
      try simp only [rfb] at h1
      refine W_exit (hK2 _ ?_)
      clear hK4 K4 hK2 K2
      refine W_seq (fun K12 hK12 => ?_)
      refine W_region (WL_cons rfl (WX_q rfl rfl (q_move rfl rfl) (WL_cons rfl (WX_q rfl rfl (q_assign rfl rfl) (?_)))))
      refine WL_nil (hK12 _ ?_)
      clear hK12 K12
      refine W_ret (finm_one rfl (rc_v ?_) rfl (AftOK.stays rfl ?_ rfl AftOK.nil))
      all_goals (
        have e : i = xs.length := (by omega)
        subst e
        first | rfl | (congr 1; omega)
      )

theorem c_laws_markWaiterS (xs : List Wtr) (k : Int) (hn : xs.length ≤ 1048576) (hk : 0 ≤ k ∧ k ≤ 1000000000) : CtrM Tryz.prog 145 [.own 0, .v (.int .i64 k)] [.row 183 2 (xs.map encWa)] (.one (.v (.int .i64 (k + 2 * (xs.length : Int))))) [some (.row 183 2 ((over (mkWa k) xs xs.length).map encWa))] := by
  refine CtrM.of (n := 27) (k := 1) G Tryz.func145 rfl (by kernel_rfl) rfl rfl rfl rfl rfl rfl rfl (fun w0 _ hpin => ?_)
  refine W_seq (fun K1 hK1 => ?_)
  refine W_region (WL_cons rfl (WX_q rfl rfl (q_assign rfl rfl) (?_)))
  refine WL_nil (hK1 _ ?_)
  clear hK1 K1
  refine W_seq (fun K2 hK2 => ?_)
  refine W_seq (fun K3 hK3 => ?_)
  refine W_region (WL_cons rfl (WX_q rfl rfl (q_assign rfl rfl) (?_)))
  refine WL_nil (hK3 _ ?_)
  clear hK3 K3
  refine W_block ?_
  refine W_loopK [0] [] (fun (i : Nat) => [(1, .v (.int .i64 (k + 2 * (i : Int)))), (5, .v (.int .i64 (i : Int)))]) (fun (i : Nat) => [(0, some (.row 183 2 ((over (mkWa k) xs i).map encWa)))]) (fun (i : Nat) => i ≤ xs.length) (fun (i : Nat) => xs.length - i) 0 rfl rfl ?_ ?_ ?_ ?_
  · exact Nat.zero_le _
  · exact ⟨⟨_, rfl, by (first | rfl | (congr 2; omega))⟩, rfl, ⟨⟨_, rfl, by (first | rfl | (congr 2; omega))⟩, rfl, trivial⟩⟩
  · exact ⟨⟨_, rfl, by exact congrArg (Row.row _ _) (by rw [over_zero])⟩, rfl, rfl, trivial⟩
  · intro i hinv
    have hi : i ≤ xs.length := hinv
    simp only [List.cons_append, List.nil_append]
    refine W_seq (fun K4 hK4 => ?_)
    refine W_seq (fun K5 hK5 => ?_)
    refine W_region (WL_cons rfl (WX_q rfl rfl (q_move rfl rfl) (WL_cons rfl (WX_q rfl rfl (q_move rfl rfl) (WL_cons rfl (?_))))))
    first | refine WX_q rfl rfl (q_len' G rfl rfl rfl rfl (by rw [List.length_map, over_len (by omega)])) ?_ | refine WX_q rfl rfl (q_len G rfl rfl rfl rfl) ?_
    refine WL_cons rfl (WX_q rfl rfl (q_cmp rfl rfl rfl rfl) (?_))
    refine WL_nil (hK5 _ ?_)
    clear hK5 K5
    refine W_cond rfl (fun h1 => ?_) (fun h1 => ?_)
    · try rw [h1]
      try simp only [rfb] at h1
      refine W_skip (hK4 _ ?_)
      clear hK4 K4
      refine W_seq (fun K6 hK6 => ?_)
      refine W_block ?_
      refine W_seq (fun K7 hK7 => ?_)
      refine W_region (WL_cons rfl (WX_q rfl rfl (q_move rfl rfl) (WL_cons rfl (WX_q rfl rfl (q_move rfl rfl) (WL_cons rfl (WX_q rfl rfl (q_move rfl rfl) (WL_cons rfl (?_))))))))
      first | refine WX_q rfl rfl (q_index_own G rfl rfl rfl rfl rfl (by omega) (by rw [List.length_map, over_len (by omega)]; omega)) ?_ | refine WX_q rfl rfl (q_index_own G rfl rfl rfl rfl rfl (by omega) (by rw [List.length_set, List.length_map, over_len (by omega)]; omega)) ?_ | refine WX_q rfl rfl (q_index_own G rfl rfl rfl rfl rfl (by omega) (by simp only [List.length_set, List.length_map]; rw [over_len (by omega)]; omega)) ?_
      refine WL_cons rfl (WX_q rfl rfl (q_field_rpt G rfl rfl rfl rfl) (WL_cons rfl (?_)))
      first | refine WX_store_row G rfl rfl rfl rfl rfl (over_get (by omega)) rfl rfl rfl rfl rfl (Nat.le_of_ble_eq_true rfl) rfl ?_ | refine WX_store_row G rfl rfl rfl rfl rfl (set_get (by rw [List.length_map, over_len (by omega)]; omega)) rfl rfl rfl rfl rfl (Nat.le_of_ble_eq_true rfl) rfl ?_ | refine WX_store_row G rfl rfl rfl rfl rfl (set_get (by simp only [List.length_set, List.length_map]; rw [over_len (by omega)]; omega)) rfl rfl rfl rfl rfl (Nat.le_of_ble_eq_true rfl) rfl ?_
      refine WL_nil (hK7 _ ?_)
      clear hK7 K7
      refine W_seq (fun K8 hK8 => ?_)
      refine W_region (WL_cons rfl (WX_q rfl rfl (q_move rfl rfl) (WL_cons rfl (?_))))
      first | refine WX_q rfl rfl (q_arith rfl rfl rfl rfl (by omega) (by omega)) ?_ | refine WX_q rfl rfl (q_wrap rfl rfl rfl rfl) ?_
      refine WL_cons rfl (WX_q rfl rfl (q_assign rfl rfl) (?_))
      refine WL_nil (hK8 _ ?_)
      clear hK8 K8
      refine W_seq (fun K9 hK9 => ?_)
      refine W_region (WL_cons rfl (WX_q rfl rfl (q_move rfl rfl) (WL_cons rfl (WX_q rfl rfl (q_move rfl rfl) (WL_cons rfl (WX_q rfl rfl (q_move rfl rfl) (WL_cons rfl (?_))))))))
      first | refine WX_q rfl rfl (q_index_own G rfl rfl rfl rfl rfl (by omega) (by rw [List.length_map, over_len (by omega)]; omega)) ?_ | refine WX_q rfl rfl (q_index_own G rfl rfl rfl rfl rfl (by omega) (by rw [List.length_set, List.length_map, over_len (by omega)]; omega)) ?_ | refine WX_q rfl rfl (q_index_own G rfl rfl rfl rfl rfl (by omega) (by simp only [List.length_set, List.length_map]; rw [over_len (by omega)]; omega)) ?_
      refine WL_cons rfl (WX_q rfl rfl (q_field_rpt G rfl rfl rfl rfl) (WL_cons rfl (?_)))
      first | refine WX_store_row G rfl rfl rfl rfl rfl (over_get (by omega)) rfl rfl rfl rfl rfl (Nat.le_of_ble_eq_true rfl) rfl ?_ | refine WX_store_row G rfl rfl rfl rfl rfl (set_get (by rw [List.length_map, over_len (by omega)]; omega)) rfl rfl rfl rfl rfl (Nat.le_of_ble_eq_true rfl) rfl ?_ | refine WX_store_row G rfl rfl rfl rfl rfl (set_get (by simp only [List.length_set, List.length_map]; rw [over_len (by omega)]; omega)) rfl rfl rfl rfl rfl (Nat.le_of_ble_eq_true rfl) rfl ?_
      refine WL_nil (hK9 _ ?_)
      clear hK9 K9
      refine W_region (WL_cons rfl (WX_q rfl rfl (q_move rfl rfl) (WL_cons rfl (?_))))
      first | refine WX_q rfl rfl (q_arith rfl rfl rfl rfl (by omega) (by omega)) ?_ | refine WX_q rfl rfl (q_wrap rfl rfl rfl rfl) ?_
      refine WL_cons rfl (WX_q rfl rfl (q_assign rfl rfl) (?_))
      refine WL_nil (hK6 _ ?_)
      clear hK6 K6
      refine W_region (WL_cons rfl (WX_q rfl rfl (q_move rfl rfl) (WL_cons rfl (?_))))
      first | refine WX_q rfl rfl (q_arith rfl rfl rfl rfl (by omega) (by omega)) ?_ | refine WX_q rfl rfl (q_wrap rfl rfl rfl rfl) ?_
      refine WL_cons rfl (WX_q rfl rfl (q_assign rfl rfl) (?_))
      refine WL_nil ⟨(i + 1), ?_, ?_, ⟨⟨_, rfl, by (first | rfl | (congr 2; omega))⟩, rfl, ⟨⟨_, rfl, by (first | rfl | (congr 2; omega))⟩, rfl, trivial⟩⟩, ⟨⟨_, rfl, by exact congrArg (Row.row _ _) (by (try simp only [List.set_set]); exact over_set (g := mkWa k) (f := encWa) (by omega))⟩, rfl, rfl, trivial⟩, rfl, rfl, rfl⟩
      · omega
      · omega
    · try rw [h1]
      try simp only [rfb] at h1
      refine W_exit (hK2 _ ?_)
      clear hK4 K4 hK2 K2
      refine W_seq (fun K10 hK10 => ?_)
      refine W_region (WL_cons rfl (WX_q rfl rfl (q_move rfl rfl) (WL_cons rfl (WX_q rfl rfl (q_assign rfl rfl) (?_)))))
      refine WL_nil (hK10 _ ?_)
      clear hK10 K10
      refine W_ret (finm_one rfl (rc_v ?_) rfl (AftOK.stays rfl ?_ rfl AftOK.nil))
      all_goals (
        have e : i = xs.length := (by omega)
        subst e
        first | rfl | (congr 1; omega)
      )

theorem c_laws_markRouteS_k (xs : List Route) (k : Int) (hn : xs.length ≤ 1048576) (hk : 0 ≤ k ∧ k ≤ 1000000000) : CtrM Tryz.prog 29 [.own 0, .v (.int .i64 k)] [.row 118 2 (xs.map encRo)] (.one (.v (.int .i64 (k + 2 * (xs.length : Int))))) [some (.row 118 2 ((over (mkRo k) xs xs.length).map encRo))] := by
  refine CtrM.of (n := 27) (k := 1) G Tryz.func29 rfl (by kernel_rfl) rfl rfl rfl rfl rfl rfl rfl (fun w0 _ hpin => ?_)
  refine W_seq (fun K1 hK1 => ?_)
  refine W_region (WL_cons rfl (WX_q rfl rfl (q_assign rfl rfl) (?_)))
  refine WL_nil (hK1 _ ?_)
  clear hK1 K1
  refine W_seq (fun K2 hK2 => ?_)
  refine W_seq (fun K3 hK3 => ?_)
  refine W_region (WL_cons rfl (WX_q rfl rfl (q_assign rfl rfl) (?_)))
  refine WL_nil (hK3 _ ?_)
  clear hK3 K3
  refine W_block ?_
  refine W_loopK [0] [] (fun (i : Nat) => [(1, .v (.int .i64 (k + 2 * (i : Int)))), (5, .v (.int .i64 (i : Int)))]) (fun (i : Nat) => [(0, some (.row 118 2 ((over (mkRo k) xs i).map encRo)))]) (fun (i : Nat) => i ≤ xs.length) (fun (i : Nat) => xs.length - i) 0 rfl rfl ?_ ?_ ?_ ?_
  · exact Nat.zero_le _
  · exact ⟨⟨_, rfl, by (first | rfl | (congr 2; omega))⟩, rfl, ⟨⟨_, rfl, by (first | rfl | (congr 2; omega))⟩, rfl, trivial⟩⟩
  · exact ⟨⟨_, rfl, by exact congrArg (Row.row _ _) (by rw [over_zero])⟩, rfl, rfl, trivial⟩
  · intro i hinv
    have hi : i ≤ xs.length := hinv
    simp only [List.cons_append, List.nil_append]
    refine W_seq (fun K4 hK4 => ?_)
    refine W_seq (fun K5 hK5 => ?_)
    refine W_region (WL_cons rfl (WX_q rfl rfl (q_move rfl rfl) (WL_cons rfl (WX_q rfl rfl (q_move rfl rfl) (WL_cons rfl (?_))))))
    first | refine WX_q rfl rfl (q_len' G rfl rfl rfl rfl (by rw [List.length_map, over_len (by omega)])) ?_ | refine WX_q rfl rfl (q_len G rfl rfl rfl rfl) ?_
    refine WL_cons rfl (WX_q rfl rfl (q_cmp rfl rfl rfl rfl) (?_))
    refine WL_nil (hK5 _ ?_)
    clear hK5 K5
    refine W_cond rfl (fun h1 => ?_) (fun h1 => ?_)
    · try rw [h1]
      try simp only [rfb] at h1
      refine W_skip (hK4 _ ?_)
      clear hK4 K4
      refine W_seq (fun K6 hK6 => ?_)
      refine W_block ?_
      refine W_seq (fun K7 hK7 => ?_)
      refine W_region (WL_cons rfl (WX_q rfl rfl (q_move rfl rfl) (WL_cons rfl (WX_q rfl rfl (q_move rfl rfl) (WL_cons rfl (WX_q rfl rfl (q_move rfl rfl) (WL_cons rfl (?_))))))))
      first | refine WX_q rfl rfl (q_index_own G rfl rfl rfl rfl rfl (by omega) (by rw [List.length_map, over_len (by omega)]; omega)) ?_ | refine WX_q rfl rfl (q_index_own G rfl rfl rfl rfl rfl (by omega) (by rw [List.length_set, List.length_map, over_len (by omega)]; omega)) ?_ | refine WX_q rfl rfl (q_index_own G rfl rfl rfl rfl rfl (by omega) (by simp only [List.length_set, List.length_map]; rw [over_len (by omega)]; omega)) ?_
      refine WL_cons rfl (WX_q rfl rfl (q_field_rpt G rfl rfl rfl rfl) (WL_cons rfl (?_)))
      first | refine WX_store_row G rfl rfl rfl rfl rfl (over_get (by omega)) rfl rfl rfl rfl rfl (Nat.le_of_ble_eq_true rfl) rfl ?_ | refine WX_store_row G rfl rfl rfl rfl rfl (set_get (by rw [List.length_map, over_len (by omega)]; omega)) rfl rfl rfl rfl rfl (Nat.le_of_ble_eq_true rfl) rfl ?_ | refine WX_store_row G rfl rfl rfl rfl rfl (set_get (by simp only [List.length_set, List.length_map]; rw [over_len (by omega)]; omega)) rfl rfl rfl rfl rfl (Nat.le_of_ble_eq_true rfl) rfl ?_
      refine WL_nil (hK7 _ ?_)
      clear hK7 K7
      refine W_seq (fun K8 hK8 => ?_)
      refine W_region (WL_cons rfl (WX_q rfl rfl (q_move rfl rfl) (WL_cons rfl (?_))))
      first | refine WX_q rfl rfl (q_arith rfl rfl rfl rfl (by omega) (by omega)) ?_ | refine WX_q rfl rfl (q_wrap rfl rfl rfl rfl) ?_
      refine WL_cons rfl (WX_q rfl rfl (q_assign rfl rfl) (?_))
      refine WL_nil (hK8 _ ?_)
      clear hK8 K8
      refine W_seq (fun K9 hK9 => ?_)
      refine W_region (WL_cons rfl (WX_q rfl rfl (q_move rfl rfl) (WL_cons rfl (WX_q rfl rfl (q_move rfl rfl) (WL_cons rfl (WX_q rfl rfl (q_move rfl rfl) (WL_cons rfl (?_))))))))
      first | refine WX_q rfl rfl (q_index_own G rfl rfl rfl rfl rfl (by omega) (by rw [List.length_map, over_len (by omega)]; omega)) ?_ | refine WX_q rfl rfl (q_index_own G rfl rfl rfl rfl rfl (by omega) (by rw [List.length_set, List.length_map, over_len (by omega)]; omega)) ?_ | refine WX_q rfl rfl (q_index_own G rfl rfl rfl rfl rfl (by omega) (by simp only [List.length_set, List.length_map]; rw [over_len (by omega)]; omega)) ?_
      refine WL_cons rfl (WX_q rfl rfl (q_field_rpt G rfl rfl rfl rfl) (WL_cons rfl (?_)))
      first | refine WX_store_row G rfl rfl rfl rfl rfl (over_get (by omega)) rfl rfl rfl rfl rfl (Nat.le_of_ble_eq_true rfl) rfl ?_ | refine WX_store_row G rfl rfl rfl rfl rfl (set_get (by rw [List.length_map, over_len (by omega)]; omega)) rfl rfl rfl rfl rfl (Nat.le_of_ble_eq_true rfl) rfl ?_ | refine WX_store_row G rfl rfl rfl rfl rfl (set_get (by simp only [List.length_set, List.length_map]; rw [over_len (by omega)]; omega)) rfl rfl rfl rfl rfl (Nat.le_of_ble_eq_true rfl) rfl ?_
      refine WL_nil (hK9 _ ?_)
      clear hK9 K9
      refine W_region (WL_cons rfl (WX_q rfl rfl (q_move rfl rfl) (WL_cons rfl (?_))))
      first | refine WX_q rfl rfl (q_arith rfl rfl rfl rfl (by omega) (by omega)) ?_ | refine WX_q rfl rfl (q_wrap rfl rfl rfl rfl) ?_
      refine WL_cons rfl (WX_q rfl rfl (q_assign rfl rfl) (?_))
      refine WL_nil (hK6 _ ?_)
      clear hK6 K6
      refine W_region (WL_cons rfl (WX_q rfl rfl (q_move rfl rfl) (WL_cons rfl (?_))))
      first | refine WX_q rfl rfl (q_arith rfl rfl rfl rfl (by omega) (by omega)) ?_ | refine WX_q rfl rfl (q_wrap rfl rfl rfl rfl) ?_
      refine WL_cons rfl (WX_q rfl rfl (q_assign rfl rfl) (?_))
      refine WL_nil ⟨(i + 1), ?_, ?_, ⟨⟨_, rfl, by (first | rfl | (congr 2; omega))⟩, rfl, ⟨⟨_, rfl, by (first | rfl | (congr 2; omega))⟩, rfl, trivial⟩⟩, ⟨⟨_, rfl, by exact congrArg (Row.row _ _) (by (try simp only [List.set_set]); exact over_set (g := mkRo k) (f := encRo) (by omega))⟩, rfl, rfl, trivial⟩, rfl, rfl, rfl⟩
      · omega
      · omega
    · try rw [h1]
      try simp only [rfb] at h1
      refine W_exit (hK2 _ ?_)
      clear hK4 K4 hK2 K2
      refine W_seq (fun K10 hK10 => ?_)
      refine W_region (WL_cons rfl (WX_q rfl rfl (q_move rfl rfl) (WL_cons rfl (WX_q rfl rfl (q_assign rfl rfl) (?_)))))
      refine WL_nil (hK10 _ ?_)
      clear hK10 K10
      refine W_ret (finm_one rfl (rc_v ?_) rfl (AftOK.stays rfl ?_ rfl AftOK.nil))
      all_goals (
        have e : i = xs.length := (by omega)
        subst e
        first | rfl | (congr 1; omega)
      )

set_option maxHeartbeats 1000000 in
theorem c_laws_markInterfaceS (xs : List Ifc) (k : Int) (hn : xs.length ≤ 1048576) (hs : sumI xs xs.length ≤ 1048576) (hk : 0 ≤ k ∧ k ≤ 100000000) : CtrM Tryz.prog 91 [.own 0, .v (.int .i64 k)] [.nest 113 4 (xs.map (encIf 154 183)) []] (.one (.v (.int .i64 (k + offI xs xs.length)))) [some (.nest 113 4 ((mkIS k xs xs.length).map (encIf 154 183)) [])] := by
  refine CtrM.of (n := 43) (k := 1) G Tryz.func91 rfl (by kernel_rfl) rfl rfl rfl rfl rfl rfl rfl (fun w0 _ hpin => ?_)
  refine W_seq (fun K1 hK1 => ?_)
  refine W_region (WL_cons rfl (WX_q rfl rfl (q_assign rfl rfl) (?_)))
  refine WL_nil (hK1 _ ?_)
  clear hK1 K1
  refine W_seq (fun K2 hK2 => ?_)
  refine W_seq (fun K3 hK3 => ?_)
  refine W_region (WL_cons rfl (WX_q rfl rfl (q_assign rfl rfl) (?_)))
  refine WL_nil (hK3 _ ?_)
  clear hK3 K3
  refine W_block ?_
  refine W_loopK [0] [] (fun (i : Nat) => [(1, .v (.int .i64 (k + offI xs i))), (5, .v (.int .i64 (i : Int)))]) (fun (i : Nat) => [(0, some (.nest 113 4 ((mkIS k xs i).map (encIf 154 183)) []))]) (fun (i : Nat) => i ≤ xs.length) (fun (i : Nat) => xs.length - i) 0 rfl rfl ?_ ?_ ?_ ?_
  · exact Nat.zero_le _
  · exact ⟨⟨_, rfl, by (first | rfl | (simp only [offI]; congr 2; omega))⟩, rfl, ⟨⟨_, rfl, by (first | rfl | (simp only [offI]; congr 2; omega))⟩, rfl, trivial⟩⟩
  · exact ⟨⟨_, rfl, by rfl⟩, rfl, rfl, trivial⟩
  · intro i hinv
    have hi : i ≤ xs.length := hinv
    have hl1 := @mkIS_len k xs i
    have hl2 := @offI_le xs i
    have hl3 := sumI_mono (xs := xs) hi
    have hl4 := @offI_le xs xs.length
    have hl5 : i < xs.length → szI (xs.getD i default) ≤ 1048576 := fun h => Int.le_trans (sumI_get h) hs
    have hl6 : szI (xs.getD i default) = (xs.getD i default).st.length + (xs.getD i default).qu.sl.length + (xs.getD i default).qu.wa.length := rfl
    simp only [List.cons_append, List.nil_append]
    refine W_seq (fun K4 hK4 => ?_)
    refine W_seq (fun K5 hK5 => ?_)
    refine W_region (WL_cons rfl (WX_q rfl rfl (q_move rfl rfl) (WL_cons rfl (WX_q rfl rfl (q_move rfl rfl) (WL_cons rfl (?_))))))
    first | refine WX_q rfl rfl (q_len' G rfl rfl rfl rfl (by rw [List.length_map, mkIS_len])) ?_ | refine WX_q rfl rfl (q_len G rfl rfl rfl rfl) ?_
    refine WL_cons rfl (WX_q rfl rfl (q_cmp rfl rfl rfl rfl) (?_))
    refine WL_nil (hK5 _ ?_)
    clear hK5 K5
    refine W_cond rfl (fun h1 => ?_) (fun h1 => ?_)
    · try rw [h1]
      try simp only [rfb] at h1
      refine W_skip (hK4 _ ?_)
      clear hK4 K4
      refine W_seq (fun K6 hK6 => ?_)
      refine W_block ?_
      refine W_seq (fun K7 hK7 => ?_)
      refine W_region (WL_cons rfl (WX_q rfl rfl (q_move rfl rfl) (WL_cons rfl (WX_q rfl rfl (q_move rfl rfl) (WL_cons rfl (WX_q rfl rfl (q_move rfl rfl) (WL_cons rfl (?_))))))))
      first | refine WX_q rfl rfl (q_index_nest G rfl rfl rfl rfl rfl (by omega) (by rw [List.length_map, mkIS_len]; omega)) ?_ | refine WX_q rfl rfl (q_index_nest G rfl rfl rfl rfl rfl (by omega) (by simp only [List.length_set, List.length_map]; rw [mkIS_len]; omega)) ?_
      refine WL_cons rfl (WX_q rfl rfl (q_field_rpt G rfl rfl rfl rfl) (WL_cons rfl (?_)))
      refine WX_store_nest G rfl rfl rfl rfl rfl (mkIS_open (by omega)) rfl rfl (.v rfl .nil) rfl rfl rfl (Nat.le_of_ble_eq_true rfl) (fun q h => by cases h) rfl ?_
      refine WL_nil (hK7 _ ?_)
      clear hK7 K7
      refine W_seq (fun K8 hK8 => ?_)
      refine W_region (WL_cons rfl (WX_q rfl rfl (q_move rfl rfl) (WL_cons rfl (?_))))
      first | refine WX_q rfl rfl (q_arith rfl rfl rfl rfl (by omega) (by omega)) ?_ | refine WX_q rfl rfl (q_wrap rfl rfl rfl rfl) ?_
      refine WL_cons rfl (WX_q rfl rfl (q_assign rfl rfl) (?_))
      refine WL_nil (hK8 _ ?_)
      clear hK8 K8
      refine W_seq (fun K9 hK9 => ?_)
      refine W_gh (Gh.open (id := 0) (i := i) (k := 1) 2 rfl rfl (setX (by simp only [List.length_set, List.length_map]; rw [mkIS_len]; omega) rfl) rfl rfl) ?_
      refine W_region (WL_cons rfl (WX_q rfl rfl (q_move rfl rfl) (WL_cons rfl (WX_q rfl rfl (q_move rfl rfl) (WL_cons rfl (?_))))))
      first | refine WX_q rfl rfl (q_index_nest G rfl rfl rfl rfl rfl (by omega) (by rw [List.length_map, mkIS_len]; omega)) ?_ | refine WX_q rfl rfl (q_index_nest G rfl rfl rfl rfl rfl (by omega) (by simp only [List.length_set, List.length_map]; rw [mkIS_len]; omega)) ?_
      refine WL_cons rfl (WX_q rfl rfl (q_field_rpt G rfl rfl rfl rfl) (WL_cons rfl (?_)))
      refine WX_q rfl rfl (q_load_nest G rfl rfl rfl rfl rfl (nget_some.2 ⟨_, (setX (by simp only [List.length_set, List.length_map]; rw [mkIS_len]; omega) rfl), rfl⟩) (.own (by first | exact List.Mem.head _ | simp) .nil)) ?_
      refine WL_cons rfl (WX_q rfl rfl (q_move rfl rfl) (WL_cons rfl (?_)))
      refine WX_callm 2 [1] rfl rfl rfl (c_laws_markIntS (xs.getD i default).st (k + offI xs i + 1) (by omega) (by omega)) rfl (RowsIn.cons rfl RowsIn.nil) rfl rfl rfl ?_
      refine WL_cons rfl (WX_q rfl rfl (q_assign rfl rfl) (?_))
      refine WL_nil (hK9 _ ?_)
      clear hK9 K9
      refine W_seq (fun K10 hK10 => ?_)
      refine W_gh (Gh.close (id := 0) (id' := 1) (i := i) (k := 1) rfl rfl (setX (by simp only [List.length_set, List.length_map]; rw [mkIS_len]; omega) rfl) (fun q h => by cases h) rfl) ?_
      refine W_gh (Gh.open (id := 0) (i := i) (k := 2) 3 rfl rfl (setX (by simp only [List.length_set, List.length_map]; rw [mkIS_len]; omega) rfl) rfl rfl) ?_
      refine W_region (WL_cons rfl (WX_q rfl rfl (q_move rfl rfl) (WL_cons rfl (WX_q rfl rfl (q_move rfl rfl) (WL_cons rfl (?_))))))
      first | refine WX_q rfl rfl (q_index_nest G rfl rfl rfl rfl rfl (by omega) (by rw [List.length_map, mkIS_len]; omega)) ?_ | refine WX_q rfl rfl (q_index_nest G rfl rfl rfl rfl rfl (by omega) (by simp only [List.length_set, List.length_map]; rw [mkIS_len]; omega)) ?_
      refine WL_cons rfl (WX_q rfl rfl (q_field_rpt G rfl rfl rfl rfl) (WL_cons rfl (WX_q rfl rfl (q_field_rpt G rfl rfl rfl rfl) (WL_cons rfl (?_)))))
      refine WX_q rfl rfl (q_load_nest G rfl rfl rfl rfl rfl (nget_some.2 ⟨_, (setX (by simp only [List.length_set, List.length_map]; rw [mkIS_len]; omega) rfl), rfl⟩) (.own (by first | exact List.Mem.head _ | simp) .nil)) ?_
      refine WL_cons rfl (WX_q rfl rfl (q_move rfl rfl) (WL_cons rfl (?_)))
      refine WX_callm 3 [2] rfl rfl rfl (c_laws_markSlotS (xs.getD i default).qu.sl (k + offI xs i + 1 + (xs.getD i default).st.length) (by omega) (by omega)) rfl (RowsIn.cons rfl RowsIn.nil) rfl rfl rfl ?_
      refine WL_cons rfl (WX_q rfl rfl (q_assign rfl rfl) (?_))
      refine WL_nil (hK10 _ ?_)
      clear hK10 K10
      refine W_gh (Gh.close (id := 0) (id' := 2) (i := i) (k := 2) rfl rfl (setX (by simp only [List.length_set, List.length_map]; rw [mkIS_len]; omega) rfl) (fun q h => by cases h) rfl) ?_
      refine W_gh (Gh.open (id := 0) (i := i) (k := 3) 4 rfl rfl (setX (by simp only [List.length_set, List.length_map]; rw [mkIS_len]; omega) rfl) rfl rfl) ?_
      refine W_region (WL_cons rfl (WX_q rfl rfl (q_move rfl rfl) (WL_cons rfl (WX_q rfl rfl (q_move rfl rfl) (WL_cons rfl (?_))))))
      first | refine WX_q rfl rfl (q_index_nest G rfl rfl rfl rfl rfl (by omega) (by rw [List.length_map, mkIS_len]; omega)) ?_ | refine WX_q rfl rfl (q_index_nest G rfl rfl rfl rfl rfl (by omega) (by simp only [List.length_set, List.length_map]; rw [mkIS_len]; omega)) ?_
      refine WL_cons rfl (WX_q rfl rfl (q_field_rpt G rfl rfl rfl rfl) (WL_cons rfl (WX_q rfl rfl (q_field_rpt G rfl rfl rfl rfl) (WL_cons rfl (?_)))))
      refine WX_q rfl rfl (q_load_nest G rfl rfl rfl rfl rfl (nget_some.2 ⟨_, (setX (by simp only [List.length_set, List.length_map]; rw [mkIS_len]; omega) rfl), rfl⟩) (.own (by first | exact List.Mem.head _ | simp) .nil)) ?_
      refine WL_cons rfl (WX_q rfl rfl (q_move rfl rfl) (WL_cons rfl (?_)))
      refine WX_callm 4 [3] rfl rfl rfl (c_laws_markWaiterS (xs.getD i default).qu.wa (k + offI xs i + 1 + (xs.getD i default).st.length + 3 * (xs.getD i default).qu.sl.length) (by omega) (by omega)) rfl (RowsIn.cons rfl RowsIn.nil) rfl rfl rfl ?_
      refine WL_cons rfl (WX_q rfl rfl (q_assign rfl rfl) (?_))
      refine WL_nil (hK6 _ ?_)
      clear hK6 K6
      refine W_gh (Gh.close (id := 0) (id' := 3) (i := i) (k := 3) rfl rfl (setX (by simp only [List.length_set, List.length_map]; rw [mkIS_len]; omega) rfl) (fun q h => by cases h) rfl) ?_
      refine W_region (WL_cons rfl (WX_q rfl rfl (q_move rfl rfl) (WL_cons rfl (?_))))
      first | refine WX_q rfl rfl (q_arith rfl rfl rfl rfl (by omega) (by omega)) ?_ | refine WX_q rfl rfl (q_wrap rfl rfl rfl rfl) ?_
      refine WL_cons rfl (WX_q rfl rfl (q_assign rfl rfl) (?_))
      refine WL_nil ⟨(i + 1), ?_, ?_, ⟨⟨_, rfl, by (first | rfl | (rw [offI_succ]; simp only [wdI]; congr 2; omega))⟩, rfl, ⟨⟨_, rfl, by (first | rfl | (rw [offI_succ]; simp only [wdI]; congr 2; omega))⟩, rfl, trivial⟩⟩, ⟨⟨_, rfl, by (rw [mkIS_succ]; exact congrArg (fun z => Row.nest _ _ z []) (by simp only [List.set_set, Int.toNat_natCast]; rw [List.map_set]; rfl))⟩, rfl, rfl, trivial⟩, rfl, rfl, rfl⟩
      · omega
      · omega
    · try rw [h1]
      try simp only [rfb] at h1
      refine W_exit (hK2 _ ?_)
      clear hK4 K4 hK2 K2
      refine W_seq (fun K11 hK11 => ?_)
      refine W_region (WL_cons rfl (WX_q rfl rfl (q_move rfl rfl) (WL_cons rfl (WX_q rfl rfl (q_assign rfl rfl) (?_)))))
      refine WL_nil (hK11 _ ?_)
      clear hK11 K11
      refine W_ret (finm_one rfl (rc_v ?_) rfl (AftOK.stays rfl ?_ rfl AftOK.nil))
      all_goals (
        have e : i = xs.length := (by omega)
        subst e
        first | rfl | (congr 1; omega)
      )

theorem c_laws_markMachine (m : Mach) (k : Int) (hs : SmallM m) (hk : 0 ≤ k ∧ k ≤ 10000000) : CtrM Tryz.prog 31 [.agg [.own 0, .own 1, .own 2, .own 3], .v (.int .i64 k)] [.row 118 2 (m.rs.map encRo), .row 4 1 (m.en.map encO), .row 4 1 (m.ra.map encO), .nest 113 4 (m.cp.map (encIf 154 183)) []] (.one (.v (.int .i64 (mkMN k m)))) [some (.row 118 2 ((mkM k m).rs.map encRo)), some (.row 4 1 ((mkM k m).en.map encO)), some (.row 4 1 ((mkM k m).ra.map encO)), some (.nest 113 4 ((mkM k m).cp.map (encIf 154 183)) [])] := by
  have hz0 := hs.rs
  have hz1 := hs.en
  have hz2 := hs.ra
  have hz3 := hs.cp
  have hz4 := hs.sum
  have hz6 := @offI_le m.cp m.cp.length
  refine CtrM.of (n := 22) (k := 4) G Tryz.func31 rfl (by kernel_rfl) rfl rfl rfl rfl rfl rfl rfl (fun w0 _ hpin => ?_)
  refine W_seq (fun K1 hK1 => ?_)
  refine W_region (WL_cons rfl (WX_box 5 rfl rfl rfl rfl rfl rfl rfl (WL_cons rfl (WX_q rfl rfl (q_assign rfl rfl) (?_)))))
  refine WL_nil (hK1 _ ?_)
  clear hK1 K1
  refine W_seq (fun K2 hK2 => ?_)
  refine W_region (WL_cons rfl (WX_q rfl rfl (q_field_ptr G rfl rfl rfl rfl) (WL_cons rfl (WX_q rfl rfl (q_load_box G rfl rfl rfl rfl rfl rfl rfl) (WL_cons rfl (WX_q rfl rfl (q_move rfl rfl) (WL_cons rfl (?_))))))))
  refine WX_callm 5 [0] rfl rfl rfl (c_laws_markRouteS_k m.rs k (by omega) (by omega)) rfl (RowsIn.cons rfl RowsIn.nil) rfl rfl rfl ?_
  refine WL_cons rfl (WX_q rfl rfl (q_assign rfl rfl) (?_))
  refine WL_nil (hK2 _ ?_)
  clear hK2 K2
  refine W_seq (fun K3 hK3 => ?_)
  refine W_region (WL_cons rfl (WX_q rfl rfl (q_field_ptr G rfl rfl rfl rfl) (WL_cons rfl (WX_q rfl rfl (q_load_box G rfl rfl rfl rfl rfl rfl rfl) (WL_cons rfl (WX_q rfl rfl (q_move rfl rfl) (WL_cons rfl (?_))))))))
  refine WX_callm 5 [1] rfl rfl rfl (c_laws_markBoolS m.en (k + 2 * m.rs.length) (by omega) (by omega)) rfl (RowsIn.cons rfl RowsIn.nil) rfl rfl rfl ?_
  refine WL_cons rfl (WX_q rfl rfl (q_assign rfl rfl) (?_))
  refine WL_nil (hK3 _ ?_)
  clear hK3 K3
  refine W_seq (fun K4 hK4 => ?_)
  refine W_region (WL_cons rfl (WX_q rfl rfl (q_field_ptr G rfl rfl rfl rfl) (WL_cons rfl (WX_q rfl rfl (q_load_box G rfl rfl rfl rfl rfl rfl rfl) (WL_cons rfl (WX_q rfl rfl (q_move rfl rfl) (WL_cons rfl (?_))))))))
  refine WX_callm 5 [2] rfl rfl rfl (c_laws_markBoolS m.ra (k + 2 * m.rs.length + m.en.length) (by omega) (by omega)) rfl (RowsIn.cons rfl RowsIn.nil) rfl rfl rfl ?_
  refine WL_cons rfl (WX_q rfl rfl (q_assign rfl rfl) (?_))
  refine WL_nil (hK4 _ ?_)
  clear hK4 K4
  refine W_seq (fun K5 hK5 => ?_)
  refine W_region (WL_cons rfl (WX_q rfl rfl (q_field_ptr G rfl rfl rfl rfl) (WL_cons rfl (WX_q rfl rfl (q_load_box G rfl rfl rfl rfl rfl rfl rfl) (WL_cons rfl (WX_q rfl rfl (q_move rfl rfl) (WL_cons rfl (?_))))))))
  refine WX_callm 5 [3] rfl rfl rfl (c_laws_markInterfaceS m.cp (k + 2 * m.rs.length + m.en.length + m.ra.length) (by omega) (by omega) (by omega)) rfl (RowsIn.cons rfl RowsIn.nil) rfl rfl rfl ?_
  refine WL_cons rfl (WX_q rfl rfl (q_assign rfl rfl) (?_))
  refine WL_nil (hK5 _ ?_)
  clear hK5 K5
  refine W_seq (fun K6 hK6 => ?_)
  refine W_region (WL_cons rfl (WX_q rfl rfl (q_move rfl rfl) (WL_cons rfl (WX_q rfl rfl (q_assign rfl rfl) (?_)))))
  refine WL_nil (hK6 _ ?_)
  clear hK6 K6
  refine W_ret (finm_one rfl (rc_v ?_) rfl (AftOK.stays rfl ?_ rfl (AftOK.stays rfl ?_ rfl (AftOK.stays rfl ?_ rfl (AftOK.stays rfl ?_ rfl AftOK.nil)))))
  all_goals (rfl)

end Go.Proofs.YtcnodpipinlpcaaGreat

/- Walks through functions of the program, one contract each (written by gen.py). -/
set_option maxRecDepth 20000
set_option linter.unusedVariables false
set_option linter.unusedSimpArgs false
namespace Go.Proofs.YtcnodpipinlpcaaGreat
open Go Go.Rf

theorem c_laws_eqSlot (x y : Slot) : Ctr Tryz.prog 259 [.v (encSv x), .v (encSv y)] (.one (.v (.bool (eqSl x y)))) := by
  refine Ctr.of (n := 20) G Tryz.func259 rfl (by kernel_rfl) rfl rfl rfl (fun w0 => ?_)
  refine W_seq (fun K1 hK1 => ?_)
  refine W_region (WL_cons rfl (WX_box 1 rfl rfl rfl rfl rfl rfl rfl (WL_cons rfl (WX_box 2 rfl rfl rfl rfl rfl rfl rfl (WL_cons rfl (WX_q rfl rfl (q_assign rfl rfl) (?_)))))))
  refine WL_nil (hK1 _ ?_)
  clear hK1 K1
  refine W_seq (fun K2 hK2 => ?_)
  refine W_seq (fun K3 hK3 => ?_)
  refine W_region (WL_cons rfl (WX_q rfl rfl (q_field_ptr G rfl rfl rfl rfl) (WL_cons rfl (WX_q rfl rfl (q_load_box G rfl rfl rfl rfl rfl rfl rfl) (WL_cons rfl (WX_q rfl rfl (q_field_ptr G rfl rfl rfl rfl) (WL_cons rfl (WX_q rfl rfl (q_load_box G rfl rfl rfl rfl rfl rfl rfl) (WL_cons rfl (WX_q rfl rfl (q_cmp rfl rfl rfl rfl) (?_)))))))))))
  refine WL_nil (hK3 _ ?_)
  clear hK3 K3
  refine W_cond rfl (fun h1 => ?_) (fun h1 => ?_)
  · try rw [h1]
    try simp only [rfb] at h1
    refine W_seq (fun K4 hK4 => ?_)
    refine W_region (WL_cons rfl (WX_q rfl rfl (q_assign rfl rfl) (?_)))
    refine WL_nil (hK4 _ ?_)
    clear hK4 K4
    refine W_ret (fin_one rfl (rc_v ?_))
    all_goals clear hK2 K2
    all_goals (first | rfl | (simp_all [eqSl]; done) | (simp_all [eqSl]; omega))
  · try rw [h1]
    try simp only [rfb] at h1
    refine W_skip (hK2 _ ?_)
    clear hK2 K2
    refine W_seq (fun K5 hK5 => ?_)
    refine W_seq (fun K6 hK6 => ?_)
    refine W_region (WL_cons rfl (WX_q rfl rfl (q_field_ptr G rfl rfl rfl rfl) (WL_cons rfl (WX_q rfl rfl (q_load_box G rfl rfl rfl rfl rfl rfl rfl) (WL_cons rfl (WX_q rfl rfl (q_field_ptr G rfl rfl rfl rfl) (WL_cons rfl (WX_q rfl rfl (q_load_box G rfl rfl rfl rfl rfl rfl rfl) (WL_cons rfl (WX_q rfl rfl (q_cmp rfl rfl rfl rfl) (?_)))))))))))
    refine WL_nil (hK6 _ ?_)
    clear hK6 K6
    refine W_cond rfl (fun h2 => ?_) (fun h2 => ?_)
    · try rw [h2]
      try simp only [rfb] at h2
      refine W_seq (fun K7 hK7 => ?_)
      refine W_region (WL_cons rfl (WX_q rfl rfl (q_assign rfl rfl) (?_)))
      refine WL_nil (hK7 _ ?_)
      clear hK7 K7
      refine W_ret (fin_one rfl (rc_v ?_))
      all_goals clear hK5 K5
      all_goals (first | rfl | (simp_all [eqSl]; done) | (simp_all [eqSl]; omega))
    · try rw [h2]
      try simp only [rfb] at h2
      refine W_skip (hK5 _ ?_)
      clear hK5 K5
      refine W_seq (fun K8 hK8 => ?_)
      refine W_seq (fun K9 hK9 => ?_)
      refine W_region (WL_cons rfl (WX_q rfl rfl (q_field_ptr G rfl rfl rfl rfl) (WL_cons rfl (WX_q rfl rfl (q_load_box G rfl rfl rfl rfl rfl rfl rfl) (WL_cons rfl (WX_q rfl rfl (q_field_ptr G rfl rfl rfl rfl) (WL_cons rfl (WX_q rfl rfl (q_load_box G rfl rfl rfl rfl rfl rfl rfl) (WL_cons rfl (WX_q rfl rfl (q_cmp rfl rfl rfl rfl) (?_)))))))))))
      refine WL_nil (hK9 _ ?_)
      clear hK9 K9
      refine W_cond rfl (fun h3 => ?_) (fun h3 => ?_)
      · try rw [h3]
        try simp only [rfb] at h3
        refine W_seq (fun K10 hK10 => ?_)
        refine W_region (WL_cons rfl (WX_q rfl rfl (q_assign rfl rfl) (?_)))
        refine WL_nil (hK10 _ ?_)
        clear hK10 K10
        refine W_ret (fin_one rfl (rc_v ?_))
        all_goals clear hK8 K8
        all_goals (first | rfl | (simp_all [eqSl]; done) | (simp_all [eqSl]; omega))
      · try rw [h3]
        try simp only [rfb] at h3
        refine W_skip (hK8 _ ?_)
        clear hK8 K8
        refine W_seq (fun K11 hK11 => ?_)
        refine W_region (WL_cons rfl (WX_q rfl rfl (q_assign rfl rfl) (?_)))
        refine WL_nil (hK11 _ ?_)
        clear hK11 K11
        refine W_ret (fin_one rfl (rc_v ?_))
        all_goals (first | rfl | (simp_all [eqSl]; done) | (simp_all [eqSl]; omega))

theorem c_laws_eqSlotS (xs ys : List Slot) (hn : xs.length ≤ 9223372036854775807) : Ctr Tryz.prog 228 [.lst 3 (xs.map encSl), .lst 3 (ys.map encSl)] (.one (.v (.bool (decide (xs = ys))))) := by
  refine Ctr.of (n := 27) G Tryz.func228 rfl (by kernel_rfl) rfl rfl rfl (fun w0 => ?_)
  refine W_seq (fun K1 hK1 => ?_)
  refine W_region (WL_cons rfl (WX_q rfl rfl (q_assign rfl rfl) (?_)))
  refine WL_nil (hK1 _ ?_)
  clear hK1 K1
  refine W_seq (fun K2 hK2 => ?_)
  refine W_seq (fun K3 hK3 => ?_)
  refine W_region (WL_cons rfl (WX_q rfl rfl (q_move rfl rfl) (WL_cons rfl (?_))))
  first | refine WX_q rfl rfl (q_len' G rfl rfl rfl rfl (List.length_map _)) ?_ | refine WX_q rfl rfl (q_len G rfl rfl rfl rfl) ?_
  refine WL_cons rfl (WX_q rfl rfl (q_move rfl rfl) (WL_cons rfl (?_)))
  first | refine WX_q rfl rfl (q_len' G rfl rfl rfl rfl (List.length_map _)) ?_ | refine WX_q rfl rfl (q_len G rfl rfl rfl rfl) ?_
  refine WL_cons rfl (WX_q rfl rfl (q_cmp rfl rfl rfl rfl) (?_))
  refine WL_nil (hK3 _ ?_)
  clear hK3 K3
  refine W_cond rfl (fun h1 => ?_) (fun h1 => ?_)
  · try rw [h1]
    try simp only [rfb] at h1
    refine W_seq (fun K4 hK4 => ?_)
    refine W_region (WL_cons rfl (WX_q rfl rfl (q_assign rfl rfl) (?_)))
    refine WL_nil (hK4 _ ?_)
    clear hK4 K4
    refine W_ret (fin_one rfl (rc_v ?_))
    all_goals clear hK2 K2
    all_goals (first | (have e : xs ≠ ys := fun e => (by (subst e; simp_all [eqSl]; done)); simp [e]; done) | (have e : xs = ys := eq_true_of (by omega) hinv.2 (by omega); simp [e]; done) | (have e : xs ≠ ys := eq_false_of (i := i) (fun e => (by simp_all [eqSl])); simp [e]; done))
  · try rw [h1]
    try simp only [rfb] at h1
    refine W_skip (hK2 _ ?_)
    clear hK2 K2
    refine W_seq (fun K5 hK5 => ?_)
    refine W_seq (fun K6 hK6 => ?_)
    refine W_region (WL_cons rfl (WX_q rfl rfl (q_assign rfl rfl) (?_)))
    refine WL_nil (hK6 _ ?_)
    clear hK6 K6
    refine W_block ?_
    refine W_loopK [0, 1] [] (fun (i : Nat) => [(5, .v (.int .i64 (i : Int)))]) (fun (i : Nat) => []) (fun (i : Nat) => i ≤ xs.length ∧ ∀ j, j < i → xs.getD j default = ys.getD j default) (fun (i : Nat) => xs.length - i) 0 rfl rfl ?_ ?_ ?_ ?_
    · exact ⟨Nat.zero_le _, fun j hj => by omega⟩
    · exact ⟨⟨_, rfl, by (first | rfl | (simp; done) | (simp; omega))⟩, rfl, trivial⟩
    · exact trivial
    · intro i hinv
      simp only [List.cons_append, List.nil_append]
      refine W_seq (fun K7 hK7 => ?_)
      refine W_seq (fun K8 hK8 => ?_)
      refine W_region (WL_cons rfl (WX_q rfl rfl (q_move rfl rfl) (WL_cons rfl (WX_q rfl rfl (q_move rfl rfl) (WL_cons rfl (?_))))))
      first | refine WX_q rfl rfl (q_len' G rfl rfl rfl rfl (List.length_map _)) ?_ | refine WX_q rfl rfl (q_len G rfl rfl rfl rfl) ?_
      refine WL_cons rfl (WX_q rfl rfl (q_cmp rfl rfl rfl rfl) (?_))
      refine WL_nil (hK8 _ ?_)
      clear hK8 K8
      refine W_cond rfl (fun h2 => ?_) (fun h2 => ?_)
      · try rw [h2]
        try simp only [rfb] at h2
        refine W_skip (hK7 _ ?_)
        clear hK7 K7
        refine W_seq (fun K9 hK9 => ?_)
        refine W_block ?_
        refine W_seq (fun K10 hK10 => ?_)
        refine W_draws mixed (by kernel_rfl) (QL_cons rfl (QX_q rfl rfl (q_move rfl rfl) (QL_cons rfl (QX_q rfl rfl (q_move rfl rfl) (QL_cons rfl (?_))))))
        refine QX_q rfl rfl (q_index_lst G rfl rfl rfl rfl (by omega) (getN (by omega))) ?_
        refine QL_cons rfl (QX_q rfl rfl (q_load_ept_struct G rfl rfl rfl rfl) (QL_cons rfl (QX_q rfl rfl (q_move rfl rfl) (QL_cons rfl (QX_q rfl rfl (q_move rfl rfl) (QL_cons rfl (?_)))))))
        refine QX_q rfl rfl (q_index_lst G rfl rfl rfl rfl (by omega) (getN (by omega))) ?_
        refine QL_cons rfl (QX_q rfl rfl (q_load_ept_struct G rfl rfl rfl rfl) (QL_cons rfl (?_)))
        refine QX_q rfl rfl (q_call rfl (ArgsOK.of rfl) (c_laws_eqSlot _ _) rfl) ?_
        refine QL_cons rfl (QX_q rfl rfl (q_not rfl rfl) (?_))
        refine QL_nil (hK10 _ ?_)
        clear hK10 K10
        refine W_cond rfl (fun h3 => ?_) (fun h3 => ?_)
        · try rw [h3]
          try simp only [rfb] at h3
          refine W_seq (fun K11 hK11 => ?_)
          refine W_region (WL_cons rfl (WX_q rfl rfl (q_assign rfl rfl) (?_)))
          refine WL_nil (hK11 _ ?_)
          clear hK11 K11
          refine W_ret (fin_one rfl (rc_v ?_))
          all_goals clear hK9 K9 hK5 K5
          all_goals (first | (have e : xs ≠ ys := fun e => (by (subst e; simp_all [eqSl]; done)); simp [e]; done) | (have e : xs = ys := eq_true_of (by omega) hinv.2 (by omega); simp [e]; done) | (have e : xs ≠ ys := eq_false_of (i := i) (fun e => (by simp_all [eqSl])); simp [e]; done))
        · try rw [h3]
          try simp only [rfb] at h3
          refine W_skip (hK9 _ ?_)
          clear hK9 K9
          refine W_region (WL_cons rfl (WX_q rfl rfl (q_move rfl rfl) (WL_cons rfl (?_))))
          first | refine WX_q rfl rfl (q_arith rfl rfl rfl rfl (by omega) (by omega)) ?_ | refine WX_q rfl rfl (q_wrap rfl rfl rfl rfl) ?_
          refine WL_cons rfl (WX_q rfl rfl (q_assign rfl rfl) (?_))
          refine WL_nil ⟨(i + 1), ?_, ?_, ⟨⟨_, rfl, by rfl⟩, rfl, trivial⟩, trivial, rfl, rfl, rfl⟩
          · exact ⟨by omega, upto_succ hinv.2 (by first | exact eqSl_iff.mp (by assumption) | exact eqSl_iff.mp (by simp_all))⟩
          · omega
      · try rw [h2]
        try simp only [rfb] at h2
        refine W_exit (hK5 _ ?_)
        clear hK7 K7 hK5 K5
        refine W_seq (fun K12 hK12 => ?_)
        refine W_region (WL_cons rfl (WX_q rfl rfl (q_assign rfl rfl) (?_)))
        refine WL_nil (hK12 _ ?_)
        clear hK12 K12
        refine W_ret (fin_one rfl (rc_v ?_))
        all_goals (first | (have e : xs ≠ ys := fun e => (by (subst e; simp_all [eqSl]; done)); simp [e]; done) | (have e : xs = ys := eq_true_of (by omega) hinv.2 (by omega); simp [e]; done) | (have e : xs ≠ ys := eq_false_of (i := i) (fun e => (by simp_all [eqSl])); simp [e]; done))

theorem c_laws_eqWaiter (x y : Wtr) : Ctr Tryz.prog 260 [.v (encWv x), .v (encWv y)] (.one (.v (.bool (eqWa x y)))) := by
  refine Ctr.of (n := 15) G Tryz.func260 rfl (by kernel_rfl) rfl rfl rfl (fun w0 => ?_)
  refine W_seq (fun K1 hK1 => ?_)
  refine W_region (WL_cons rfl (WX_box 1 rfl rfl rfl rfl rfl rfl rfl (WL_cons rfl (WX_box 2 rfl rfl rfl rfl rfl rfl rfl (WL_cons rfl (WX_q rfl rfl (q_assign rfl rfl) (?_)))))))
  refine WL_nil (hK1 _ ?_)
  clear hK1 K1
  refine W_seq (fun K2 hK2 => ?_)
  refine W_seq (fun K3 hK3 => ?_)
  refine W_region (WL_cons rfl (WX_q rfl rfl (q_field_ptr G rfl rfl rfl rfl) (WL_cons rfl (WX_q rfl rfl (q_load_box G rfl rfl rfl rfl rfl rfl rfl) (WL_cons rfl (WX_q rfl rfl (q_field_ptr G rfl rfl rfl rfl) (WL_cons rfl (WX_q rfl rfl (q_load_box G rfl rfl rfl rfl rfl rfl rfl) (WL_cons rfl (WX_q rfl rfl (q_cmp rfl rfl rfl rfl) (?_)))))))))))
  refine WL_nil (hK3 _ ?_)
  clear hK3 K3
  refine W_cond rfl (fun h1 => ?_) (fun h1 => ?_)
  · try rw [h1]
    try simp only [rfb] at h1
    refine W_seq (fun K4 hK4 => ?_)
    refine W_region (WL_cons rfl (WX_q rfl rfl (q_assign rfl rfl) (?_)))
    refine WL_nil (hK4 _ ?_)
    clear hK4 K4
    refine W_ret (fin_one rfl (rc_v ?_))
    all_goals clear hK2 K2
    all_goals (first | rfl | (simp_all [eqWa]; done) | (simp_all [eqWa]; omega))
  · try rw [h1]
    try simp only [rfb] at h1
    refine W_skip (hK2 _ ?_)
    clear hK2 K2
    refine W_seq (fun K5 hK5 => ?_)
    refine W_seq (fun K6 hK6 => ?_)
    refine W_region (WL_cons rfl (WX_q rfl rfl (q_field_ptr G rfl rfl rfl rfl) (WL_cons rfl (WX_q rfl rfl (q_load_box G rfl rfl rfl rfl rfl rfl rfl) (WL_cons rfl (WX_q rfl rfl (q_field_ptr G rfl rfl rfl rfl) (WL_cons rfl (WX_q rfl rfl (q_load_box G rfl rfl rfl rfl rfl rfl rfl) (WL_cons rfl (WX_q rfl rfl (q_cmp rfl rfl rfl rfl) (?_)))))))))))
    refine WL_nil (hK6 _ ?_)
    clear hK6 K6
    refine W_cond rfl (fun h2 => ?_) (fun h2 => ?_)
    · try rw [h2]
      try simp only [rfb] at h2
      refine W_seq (fun K7 hK7 => ?_)
      refine W_region (WL_cons rfl (WX_q rfl rfl (q_assign rfl rfl) (?_)))
      refine WL_nil (hK7 _ ?_)
      clear hK7 K7
      refine W_ret (fin_one rfl (rc_v ?_))
      all_goals clear hK5 K5
      all_goals (first | rfl | (simp_all [eqWa]; done) | (simp_all [eqWa]; omega))
    · try rw [h2]
      try simp only [rfb] at h2
      refine W_skip (hK5 _ ?_)
      clear hK5 K5
      refine W_seq (fun K8 hK8 => ?_)
      refine W_region (WL_cons rfl (WX_q rfl rfl (q_assign rfl rfl) (?_)))
      refine WL_nil (hK8 _ ?_)
      clear hK8 K8
      refine W_ret (fin_one rfl (rc_v ?_))
      all_goals (first | rfl | (simp_all [eqWa]; done) | (simp_all [eqWa]; omega))

theorem c_laws_eqWaiterS (xs ys : List Wtr) (hn : xs.length ≤ 9223372036854775807) : Ctr Tryz.prog 229 [.lst 2 (xs.map encWa), .lst 2 (ys.map encWa)] (.one (.v (.bool (decide (xs = ys))))) := by
  refine Ctr.of (n := 27) G Tryz.func229 rfl (by kernel_rfl) rfl rfl rfl (fun w0 => ?_)
  refine W_seq (fun K1 hK1 => ?_)
  refine W_region (WL_cons rfl (WX_q rfl rfl (q_assign rfl rfl) (?_)))
  refine WL_nil (hK1 _ ?_)
  clear hK1 K1
  refine W_seq (fun K2 hK2 => ?_)
  refine W_seq (fun K3 hK3 => ?_)
  refine W_region (WL_cons rfl (WX_q rfl rfl (q_move rfl rfl) (WL_cons rfl (?_))))
  first | refine WX_q rfl rfl (q_len' G rfl rfl rfl rfl (List.length_map _)) ?_ | refine WX_q rfl rfl (q_len G rfl rfl rfl rfl) ?_
  refine WL_cons rfl (WX_q rfl rfl (q_move rfl rfl) (WL_cons rfl (?_)))
  first | refine WX_q rfl rfl (q_len' G rfl rfl rfl rfl (List.length_map _)) ?_ | refine WX_q rfl rfl (q_len G rfl rfl rfl rfl) ?_
  refine WL_cons rfl (WX_q rfl rfl (q_cmp rfl rfl rfl rfl) (?_))
  refine WL_nil (hK3 _ ?_)
  clear hK3 K3
  refine W_cond rfl (fun h1 => ?_) (fun h1 => ?_)
  · try rw [h1]
    try simp only [rfb] at h1
    refine W_seq (fun K4 hK4 => ?_)
    refine W_region (WL_cons rfl (WX_q rfl rfl (q_assign rfl rfl) (?_)))
    refine WL_nil (hK4 _ ?_)
    clear hK4 K4
    refine W_ret (fin_one rfl (rc_v ?_))
    all_goals clear hK2 K2
    all_goals (first | (have e : xs ≠ ys := fun e => (by (subst e; simp_all [eqWa]; done)); simp [e]; done) | (have e : xs = ys := eq_true_of (by omega) hinv.2 (by omega); simp [e]; done) | (have e : xs ≠ ys := eq_false_of (i := i) (fun e => (by simp_all [eqWa])); simp [e]; done))
  · try rw [h1]
    try simp only [rfb] at h1
    refine W_skip (hK2 _ ?_)
    clear hK2 K2
    refine W_seq (fun K5 hK5 => ?_)
    refine W_seq (fun K6 hK6 => ?_)
    refine W_region (WL_cons rfl (WX_q rfl rfl (q_assign rfl rfl) (?_)))
    refine WL_nil (hK6 _ ?_)
    clear hK6 K6
    refine W_block ?_
    refine W_loopK [0, 1] [] (fun (i : Nat) => [(5, .v (.int .i64 (i : Int)))]) (fun (i : Nat) => []) (fun (i : Nat) => i ≤ xs.length ∧ ∀ j, j < i → xs.getD j default = ys.getD j default) (fun (i : Nat) => xs.length - i) 0 rfl rfl ?_ ?_ ?_ ?_
    · exact ⟨Nat.zero_le _, fun j hj => by omega⟩
    · exact ⟨⟨_, rfl, by (first | rfl | (simp; done) | (simp; omega))⟩, rfl, trivial⟩
    · exact trivial
    · intro i hinv
      simp only [List.cons_append, List.nil_append]
      refine W_seq (fun K7 hK7 => ?_)
      refine W_seq (fun K8 hK8 => ?_)
      refine W_region (WL_cons rfl (WX_q rfl rfl (q_move rfl rfl) (WL_cons rfl (WX_q rfl rfl (q_move rfl rfl) (WL_cons rfl (?_))))))
      first | refine WX_q rfl rfl (q_len' G rfl rfl rfl rfl (List.length_map _)) ?_ | refine WX_q rfl rfl (q_len G rfl rfl rfl rfl) ?_
      refine WL_cons rfl (WX_q rfl rfl (q_cmp rfl rfl rfl rfl) (?_))
      refine WL_nil (hK8 _ ?_)
      clear hK8 K8
      refine W_cond rfl (fun h2 => ?_) (fun h2 => ?_)
      · try rw [h2]
        try simp only [rfb] at h2
        refine W_skip (hK7 _ ?_)
        clear hK7 K7
        refine W_seq (fun K9 hK9 => ?_)
        refine W_block ?_
        refine W_seq (fun K10 hK10 => ?_)
        refine W_draws mixed (by kernel_rfl) (QL_cons rfl (QX_q rfl rfl (q_move rfl rfl) (QL_cons rfl (QX_q rfl rfl (q_move rfl rfl) (QL_cons rfl (?_))))))
        refine QX_q rfl rfl (q_index_lst G rfl rfl rfl rfl (by omega) (getN (by omega))) ?_
        refine QL_cons rfl (QX_q rfl rfl (q_load_ept_struct G rfl rfl rfl rfl) (QL_cons rfl (QX_q rfl rfl (q_move rfl rfl) (QL_cons rfl (QX_q rfl rfl (q_move rfl rfl) (QL_cons rfl (?_)))))))
        refine QX_q rfl rfl (q_index_lst G rfl rfl rfl rfl (by omega) (getN (by omega))) ?_
        refine QL_cons rfl (QX_q rfl rfl (q_load_ept_struct G rfl rfl rfl rfl) (QL_cons rfl (?_)))
        refine QX_q rfl rfl (q_call rfl (ArgsOK.of rfl) (c_laws_eqWaiter _ _) rfl) ?_
        refine QL_cons rfl (QX_q rfl rfl (q_not rfl rfl) (?_))
        refine QL_nil (hK10 _ ?_)
        clear hK10 K10
        refine W_cond rfl (fun h3 => ?_) (fun h3 => ?_)
        · try rw [h3]
          try simp only [rfb] at h3
          refine W_seq (fun K11 hK11 => ?_)
          refine W_region (WL_cons rfl (WX_q rfl rfl (q_assign rfl rfl) (?_)))
          refine WL_nil (hK11 _ ?_)
          clear hK11 K11
          refine W_ret (fin_one rfl (rc_v ?_))
          all_goals clear hK9 K9 hK5 K5
          all_goals (first | (have e : xs ≠ ys := fun e => (by (subst e; simp_all [eqWa]; done)); simp [e]; done) | (have e : xs = ys := eq_true_of (by omega) hinv.2 (by omega); simp [e]; done) | (have e : xs ≠ ys := eq_false_of (i := i) (fun e => (by simp_all [eqWa])); simp [e]; done))
        · try rw [h3]
          try simp only [rfb] at h3
          refine W_skip (hK9 _ ?_)
          clear hK9 K9
          refine W_region (WL_cons rfl (WX_q rfl rfl (q_move rfl rfl) (WL_cons rfl (?_))))
          first | refine WX_q rfl rfl (q_arith rfl rfl rfl rfl (by omega) (by omega)) ?_ | refine WX_q rfl rfl (q_wrap rfl rfl rfl rfl) ?_
          refine WL_cons rfl (WX_q rfl rfl (q_assign rfl rfl) (?_))
          refine WL_nil ⟨(i + 1), ?_, ?_, ⟨⟨_, rfl, by rfl⟩, rfl, trivial⟩, trivial, rfl, rfl, rfl⟩
          · exact ⟨by omega, upto_succ hinv.2 (by first | exact eqWa_iff.mp (by assumption) | exact eqWa_iff.mp (by simp_all))⟩
          · omega
      · try rw [h2]
        try simp only [rfb] at h2
        refine W_exit (hK5 _ ?_)
        clear hK7 K7 hK5 K5
        refine W_seq (fun K12 hK12 => ?_)
        refine W_region (WL_cons rfl (WX_q rfl rfl (q_assign rfl rfl) (?_)))
        refine WL_nil (hK12 _ ?_)
        clear hK12 K12
        refine W_ret (fin_one rfl (rc_v ?_))
        all_goals (first | (have e : xs ≠ ys := fun e => (by (subst e; simp_all [eqWa]; done)); simp [e]; done) | (have e : xs = ys := eq_true_of (by omega) hinv.2 (by omega); simp [e]; done) | (have e : xs ≠ ys := eq_false_of (i := i) (fun e => (by simp_all [eqWa])); simp [e]; done))

theorem c_laws_eqQueue (x y : Que) (hl : x.sl.length ≤ 9223372036854775807) (hw : x.wa.length ≤ 9223372036854775807) : Ctr Tryz.prog 195 [.agg [.lst 3 (x.sl.map encSl), .lst 2 (x.wa.map encWa)], .agg [.lst 3 (y.sl.map encSl), .lst 2 (y.wa.map encWa)]] (.one (.v (.bool (eqQu x y)))) := by
  refine Ctr.of (n := 17) G Tryz.func195 rfl (by kernel_rfl) rfl rfl rfl (fun w0 => ?_)
  refine W_pinS 0 rfl (fun _ => rfl) (fun u0 => ?_)
  refine W_pinS 1 rfl (fun _ => rfl) (fun u1 => ?_)
  refine W_seq (fun K1 hK1 => ?_)
  refine W_region (WL_cons rfl (WX_box 1 rfl rfl rfl rfl rfl rfl rfl (WL_cons rfl (WX_box 2 rfl rfl rfl rfl rfl rfl rfl (WL_cons rfl (WX_q rfl rfl (q_assign rfl rfl) (?_)))))))
  refine WL_nil (hK1 _ ?_)
  clear hK1 K1
  refine W_seq (fun K2 hK2 => ?_)
  refine W_seq (fun K3 hK3 => ?_)
  refine W_region (WL_cons rfl (WX_q rfl rfl (q_field_ptr G rfl rfl rfl rfl) (WL_cons rfl (WX_q rfl rfl (q_lst (q_load_box G rfl rfl rfl rfl rfl rfl rfl)) (WL_cons rfl (WX_q rfl rfl (q_field_ptr G rfl rfl rfl rfl) (WL_cons rfl (WX_q rfl rfl (q_lst (q_load_box G rfl rfl rfl rfl rfl rfl rfl)) (WL_cons rfl (?_))))))))))
  refine WX_q rfl rfl (q_call rfl (ArgsOK.of rfl) (c_laws_eqSlotS x.sl y.sl hl) rfl) ?_
  refine WL_cons rfl (WX_q rfl rfl (q_not rfl rfl) (?_))
  refine WL_nil (hK3 _ ?_)
  clear hK3 K3
  refine W_cond rfl (fun h1 => ?_) (fun h1 => ?_)
  · try rw [h1]
    try simp only [rfb] at h1
    refine W_seq (fun K4 hK4 => ?_)
    refine W_region (WL_cons rfl (WX_q rfl rfl (q_assign rfl rfl) (?_)))
    refine WL_nil (hK4 _ ?_)
    clear hK4 K4
    refine W_ret (fin_one rfl (rc_v ?_))
    all_goals clear hK2 K2
    all_goals (first | rfl | (simp_all [eqQu]; done))
  · try rw [h1]
    try simp only [rfb] at h1
    refine W_skip (hK2 _ ?_)
    clear hK2 K2
    refine W_seq (fun K5 hK5 => ?_)
    refine W_seq (fun K6 hK6 => ?_)
    refine W_region (WL_cons rfl (WX_q rfl rfl (q_field_ptr G rfl rfl rfl rfl) (WL_cons rfl (WX_q rfl rfl (q_lst (q_load_box G rfl rfl rfl rfl rfl rfl rfl)) (WL_cons rfl (WX_q rfl rfl (q_field_ptr G rfl rfl rfl rfl) (WL_cons rfl (WX_q rfl rfl (q_lst (q_load_box G rfl rfl rfl rfl rfl rfl rfl)) (WL_cons rfl (?_))))))))))
    refine WX_q rfl rfl (q_call rfl (ArgsOK.of rfl) (c_laws_eqWaiterS x.wa y.wa hw) rfl) ?_
    refine WL_cons rfl (WX_q rfl rfl (q_not rfl rfl) (?_))
    refine WL_nil (hK6 _ ?_)
    clear hK6 K6
    refine W_cond rfl (fun h2 => ?_) (fun h2 => ?_)
    · try rw [h2]
      try simp only [rfb] at h2
      refine W_seq (fun K7 hK7 => ?_)
      refine W_region (WL_cons rfl (WX_q rfl rfl (q_assign rfl rfl) (?_)))
      refine WL_nil (hK7 _ ?_)
      clear hK7 K7
      refine W_ret (fin_one rfl (rc_v ?_))
      all_goals clear hK5 K5
      all_goals (first | rfl | (simp_all [eqQu]; done))
    · try rw [h2]
      try simp only [rfb] at h2
      refine W_skip (hK5 _ ?_)
      clear hK5 K5
      refine W_seq (fun K8 hK8 => ?_)
      refine W_region (WL_cons rfl (WX_q rfl rfl (q_assign rfl rfl) (?_)))
      refine WL_nil (hK8 _ ?_)
      clear hK8 K8
      refine W_ret (fin_one rfl (rc_v ?_))
      all_goals (first | rfl | (simp_all [eqQu]; done))

theorem c_laws_eqInterface (x y : Ifc) (hb : BigI x) : Ctr Tryz.prog 143 [.agg [.v (.int .i64 x.ma), .lst 1 (x.st.map Rf.encI), .lst 3 (x.qu.sl.map encSl), .lst 2 (x.qu.wa.map encWa)], .agg [.v (.int .i64 y.ma), .lst 1 (y.st.map Rf.encI), .lst 3 (y.qu.sl.map encSl), .lst 2 (y.qu.wa.map encWa)]] (.one (.v (.bool (eqIf x y)))) := by
  refine Ctr.of (n := 22) G Tryz.func143 rfl (by kernel_rfl) rfl rfl rfl (fun w0 => ?_)
  refine W_pinS 0 rfl (fun _ => rfl) (fun u0 => ?_)
  refine W_pinS 1 rfl (fun _ => rfl) (fun u1 => ?_)
  refine W_seq (fun K1 hK1 => ?_)
  refine W_region (WL_cons rfl (WX_box 1 rfl rfl rfl rfl rfl rfl rfl (WL_cons rfl (WX_box 2 rfl rfl rfl rfl rfl rfl rfl (WL_cons rfl (WX_q rfl rfl (q_assign rfl rfl) (?_)))))))
  refine WL_nil (hK1 _ ?_)
  clear hK1 K1
  refine W_seq (fun K2 hK2 => ?_)
  refine W_seq (fun K3 hK3 => ?_)
  refine W_region (WL_cons rfl (WX_q rfl rfl (q_field_ptr G rfl rfl rfl rfl) (WL_cons rfl (WX_q rfl rfl (q_load_box G rfl rfl rfl rfl rfl rfl rfl) (WL_cons rfl (WX_q rfl rfl (q_field_ptr G rfl rfl rfl rfl) (WL_cons rfl (WX_q rfl rfl (q_load_box G rfl rfl rfl rfl rfl rfl rfl) (WL_cons rfl (WX_q rfl rfl (q_cmp rfl rfl rfl rfl) (?_)))))))))))
  refine WL_nil (hK3 _ ?_)
  clear hK3 K3
  refine W_cond rfl (fun h1 => ?_) (fun h1 => ?_)
  · try rw [h1]
    try simp only [rfb] at h1
    refine W_seq (fun K4 hK4 => ?_)
    refine W_region (WL_cons rfl (WX_q rfl rfl (q_assign rfl rfl) (?_)))
    refine WL_nil (hK4 _ ?_)
    clear hK4 K4
    refine W_ret (fin_one rfl (rc_v ?_))
    all_goals clear hK2 K2
    all_goals (first | rfl | (simp_all [eqIf]; done))
  · try rw [h1]
    try simp only [rfb] at h1
    refine W_skip (hK2 _ ?_)
    clear hK2 K2
    refine W_seq (fun K5 hK5 => ?_)
    refine W_seq (fun K6 hK6 => ?_)
    refine W_region (WL_cons rfl (WX_q rfl rfl (q_field_ptr G rfl rfl rfl rfl) (WL_cons rfl (WX_q rfl rfl (q_lst (q_load_box G rfl rfl rfl rfl rfl rfl rfl)) (WL_cons rfl (WX_q rfl rfl (q_field_ptr G rfl rfl rfl rfl) (WL_cons rfl (WX_q rfl rfl (q_lst (q_load_box G rfl rfl rfl rfl rfl rfl rfl)) (WL_cons rfl (?_))))))))))
    refine WX_q rfl rfl (q_call rfl (ArgsOK.of rfl) (c_laws_eqIntS x.st y.st hb.st) rfl) ?_
    refine WL_cons rfl (WX_q rfl rfl (q_not rfl rfl) (?_))
    refine WL_nil (hK6 _ ?_)
    clear hK6 K6
    refine W_cond rfl (fun h2 => ?_) (fun h2 => ?_)
    · try rw [h2]
      try simp only [rfb] at h2
      refine W_seq (fun K7 hK7 => ?_)
      refine W_region (WL_cons rfl (WX_q rfl rfl (q_assign rfl rfl) (?_)))
      refine WL_nil (hK7 _ ?_)
      clear hK7 K7
      refine W_ret (fin_one rfl (rc_v ?_))
      all_goals clear hK5 K5
      all_goals (first | rfl | (simp_all [eqIf]; done))
    · try rw [h2]
      try simp only [rfb] at h2
      refine W_skip (hK5 _ ?_)
      clear hK5 K5
      refine W_seq (fun K8 hK8 => ?_)
      refine W_seq (fun K9 hK9 => ?_)
      refine W_region (WL_cons rfl (WX_q rfl rfl (q_field_ptr G rfl rfl rfl rfl) (WL_cons rfl (WX_q rfl rfl (q_load_box_struct G rfl rfl rfl rfl rfl rfl) (WL_cons rfl (WX_q rfl rfl (q_field_ptr G rfl rfl rfl rfl) (WL_cons rfl (WX_q rfl rfl (q_load_box_struct G rfl rfl rfl rfl rfl rfl) (WL_cons rfl (?_))))))))))
      refine WX_q rfl rfl (q_call rfl (ArgsOK.of rfl) (c_laws_eqQueue x.qu y.qu hb.sl hb.wa) rfl) ?_
      refine WL_cons rfl (WX_q rfl rfl (q_not rfl rfl) (?_))
      refine WL_nil (hK9 _ ?_)
      clear hK9 K9
      refine W_cond rfl (fun h3 => ?_) (fun h3 => ?_)
      · try rw [h3]
        try simp only [rfb] at h3
        refine W_seq (fun K10 hK10 => ?_)
        refine W_region (WL_cons rfl (WX_q rfl rfl (q_assign rfl rfl) (?_)))
        refine WL_nil (hK10 _ ?_)
        clear hK10 K10
        refine W_ret (fin_one rfl (rc_v ?_))
        all_goals clear hK8 K8
        all_goals (first | rfl | (simp_all [eqIf]; done))
      · try rw [h3]
        try simp only [rfb] at h3
        refine W_skip (hK8 _ ?_)
        clear hK8 K8
        refine W_seq (fun K11 hK11 => ?_)
        refine W_region (WL_cons rfl (WX_q rfl rfl (q_assign rfl rfl) (?_)))
        refine WL_nil (hK11 _ ?_)
        clear hK11 K11
        refine W_ret (fin_one rfl (rc_v ?_))
        all_goals (first | rfl | (simp_all [eqIf]; done))

theorem c_laws_eqInterfaceS (xs ys : List Ifc) (hn : xs.length ≤ 9223372036854775807) (hz : ∀ i, i < xs.length → BigI (xs.getD i default)) : Ctr Tryz.prog 84 [.nst none 4 (xs.map (encIf 154 183)), .nst none 4 (ys.map (encIf 154 183))] (.one (.v (.bool (decide (xs = ys))))) := by
  refine Ctr.of (n := 27) G Tryz.func84 rfl (by kernel_rfl) rfl rfl rfl (fun w0 => ?_)
  refine W_seq (fun K1 hK1 => ?_)
  refine W_region (WL_cons rfl (WX_q rfl rfl (q_assign rfl rfl) (?_)))
  refine WL_nil (hK1 _ ?_)
  clear hK1 K1
  refine W_seq (fun K2 hK2 => ?_)
  refine W_seq (fun K3 hK3 => ?_)
  refine W_region (WL_cons rfl (WX_q rfl rfl (q_move rfl rfl) (WL_cons rfl (?_))))
  first | refine WX_q rfl rfl (q_len' G rfl rfl rfl rfl (List.length_map _)) ?_ | refine WX_q rfl rfl (q_len G rfl rfl rfl rfl) ?_
  refine WL_cons rfl (WX_q rfl rfl (q_move rfl rfl) (WL_cons rfl (?_)))
  first | refine WX_q rfl rfl (q_len' G rfl rfl rfl rfl (List.length_map _)) ?_ | refine WX_q rfl rfl (q_len G rfl rfl rfl rfl) ?_
  refine WL_cons rfl (WX_q rfl rfl (q_cmp rfl rfl rfl rfl) (?_))
  refine WL_nil (hK3 _ ?_)
  clear hK3 K3
  refine W_cond rfl (fun h1 => ?_) (fun h1 => ?_)
  · try rw [h1]
    try simp only [rfb] at h1
    refine W_seq (fun K4 hK4 => ?_)
    refine W_region (WL_cons rfl (WX_q rfl rfl (q_assign rfl rfl) (?_)))
    refine WL_nil (hK4 _ ?_)
    clear hK4 K4
    refine W_ret (fin_one rfl (rc_v ?_))
    all_goals clear hK2 K2
    all_goals (first | (have e : xs ≠ ys := fun e => (by (subst e; omega)); simp [e]; done) | (have e : xs = ys := eq_true_of (by omega) hinv.2 (by omega); simp [e]; done) | (have e : xs ≠ ys := eq_false_of (i := i) (fun e => (by have := eqIf_iff.mpr e; simp_all)); simp [e]; done))
  · try rw [h1]
    try simp only [rfb] at h1
    refine W_skip (hK2 _ ?_)
    clear hK2 K2
    refine W_seq (fun K5 hK5 => ?_)
    refine W_seq (fun K6 hK6 => ?_)
    refine W_region (WL_cons rfl (WX_q rfl rfl (q_assign rfl rfl) (?_)))
    refine WL_nil (hK6 _ ?_)
    clear hK6 K6
    refine W_block ?_
    refine W_loopK [0, 1] [] (fun (i : Nat) => [(5, .v (.int .i64 (i : Int)))]) (fun (i : Nat) => []) (fun (i : Nat) => i ≤ xs.length ∧ ∀ j, j < i → xs.getD j default = ys.getD j default) (fun (i : Nat) => xs.length - i) 0 rfl rfl ?_ ?_ ?_ ?_
    · exact ⟨Nat.zero_le _, fun j hj => by omega⟩
    · exact ⟨⟨_, rfl, by (first | rfl | (simp; done) | (simp; omega))⟩, rfl, trivial⟩
    · exact trivial
    · intro i hinv
      simp only [List.cons_append, List.nil_append]
      refine W_seq (fun K7 hK7 => ?_)
      refine W_seq (fun K8 hK8 => ?_)
      refine W_region (WL_cons rfl (WX_q rfl rfl (q_move rfl rfl) (WL_cons rfl (WX_q rfl rfl (q_move rfl rfl) (WL_cons rfl (?_))))))
      first | refine WX_q rfl rfl (q_len' G rfl rfl rfl rfl (List.length_map _)) ?_ | refine WX_q rfl rfl (q_len G rfl rfl rfl rfl) ?_
      refine WL_cons rfl (WX_q rfl rfl (q_cmp rfl rfl rfl rfl) (?_))
      refine WL_nil (hK8 _ ?_)
      clear hK8 K8
      refine W_cond rfl (fun h2 => ?_) (fun h2 => ?_)
      · try rw [h2]
        try simp only [rfb] at h2
        refine W_skip (hK7 _ ?_)
        clear hK7 K7
        refine W_seq (fun K9 hK9 => ?_)
        refine W_block ?_
        refine W_seq (fun K10 hK10 => ?_)
        refine W_draws mixed (by kernel_rfl) (QL_cons rfl (QX_q rfl rfl (q_move rfl rfl) (QL_cons rfl (QX_q rfl rfl (q_move rfl rfl) (QL_cons rfl (?_))))))
        refine QX_q rfl rfl (q_index_nst G rfl rfl rfl rfl (by omega) (getN (by omega)) rfl) ?_
        refine QL_cons rfl (QX_q rfl rfl (q_load_eptN_struct G rfl rfl rfl rfl) (QL_cons rfl (QX_q rfl rfl (q_move rfl rfl) (QL_cons rfl (QX_q rfl rfl (q_move rfl rfl) (QL_cons rfl (?_)))))))
        refine QX_q rfl rfl (q_index_nst G rfl rfl rfl rfl (by omega) (getN (by omega)) rfl) ?_
        refine QL_cons rfl (QX_q rfl rfl (q_load_eptN_struct G rfl rfl rfl rfl) (QL_cons rfl (?_)))
        refine QX_q rfl rfl (q_call rfl (ArgsOK.of rfl) (c_laws_eqInterface (xs.getD i default) (ys.getD i default) (hz i (by omega))) rfl) ?_
        refine QL_cons rfl (QX_q rfl rfl (q_not rfl rfl) (?_))
        refine QL_nil (hK10 _ ?_)
        clear hK10 K10
        refine W_cond rfl (fun h3 => ?_) (fun h3 => ?_)
        · try rw [h3]
          try simp only [rfb] at h3
          refine W_seq (fun K11 hK11 => ?_)
          refine W_region (WL_cons rfl (WX_q rfl rfl (q_assign rfl rfl) (?_)))
          refine WL_nil (hK11 _ ?_)
          clear hK11 K11
          refine W_ret (fin_one rfl (rc_v ?_))
          all_goals clear hK9 K9 hK5 K5
          all_goals (first | (have e : xs ≠ ys := fun e => (by (subst e; omega)); simp [e]; done) | (have e : xs = ys := eq_true_of (by omega) hinv.2 (by omega); simp [e]; done) | (have e : xs ≠ ys := eq_false_of (i := i) (fun e => (by have := eqIf_iff.mpr e; simp_all)); simp [e]; done))
        · try rw [h3]
          try simp only [rfb] at h3
          refine W_skip (hK9 _ ?_)
          clear hK9 K9
          refine W_region (WL_cons rfl (WX_q rfl rfl (q_move rfl rfl) (WL_cons rfl (?_))))
          first | refine WX_q rfl rfl (q_arith rfl rfl rfl rfl (by omega) (by omega)) ?_ | refine WX_q rfl rfl (q_wrap rfl rfl rfl rfl) ?_
          refine WL_cons rfl (WX_q rfl rfl (q_assign rfl rfl) (?_))
          refine WL_nil ⟨(i + 1), ?_, ?_, ⟨⟨_, rfl, by rfl⟩, rfl, trivial⟩, trivial, rfl, rfl, rfl⟩
          · exact ⟨by omega, upto_succ hinv.2 (by first | exact eqIf_iff.mp (by assumption) | (simp_all; done))⟩
          · omega
      · try rw [h2]
        try simp only [rfb] at h2
        refine W_exit (hK5 _ ?_)
        clear hK7 K7 hK5 K5
        refine W_seq (fun K12 hK12 => ?_)
        refine W_region (WL_cons rfl (WX_q rfl rfl (q_assign rfl rfl) (?_)))
        refine WL_nil (hK12 _ ?_)
        clear hK12 K12
        refine W_ret (fin_one rfl (rc_v ?_))
        all_goals (first | (have e : xs ≠ ys := fun e => (by (subst e; omega)); simp [e]; done) | (have e : xs = ys := eq_true_of (by omega) hinv.2 (by omega); simp [e]; done) | (have e : xs ≠ ys := eq_false_of (i := i) (fun e => (by have := eqIf_iff.mpr e; simp_all)); simp [e]; done))

theorem c_laws_eqMachine (x y : Mach) (hb : BigM x) : Ctr Tryz.prog 26 [.agg [.lst 2 (x.rs.map encRo), .lst 1 (x.en.map encO), .lst 1 (x.ra.map encO), .nst none 4 (x.cp.map (encIf 154 183))], .agg [.lst 2 (y.rs.map encRo), .lst 1 (y.en.map encO), .lst 1 (y.ra.map encO), .nst none 4 (y.cp.map (encIf 154 183))]] (.one (.v (.bool (eqMa x y)))) := by
  refine Ctr.of (n := 29) G Tryz.func26 rfl (by kernel_rfl) rfl rfl rfl (fun w0 => ?_)
  refine W_pinS 0 rfl (fun _ => rfl) (fun u0 => ?_)
  refine W_pinS 1 rfl (fun _ => rfl) (fun u1 => ?_)
  refine W_seq (fun K1 hK1 => ?_)
  refine W_region (WL_cons rfl (WX_box 1 rfl rfl rfl rfl rfl rfl rfl (WL_cons rfl (WX_box 2 rfl rfl rfl rfl rfl rfl rfl (WL_cons rfl (WX_q rfl rfl (q_assign rfl rfl) (?_)))))))
  refine WL_nil (hK1 _ ?_)
  clear hK1 K1
  refine W_seq (fun K2 hK2 => ?_)
  refine W_seq (fun K3 hK3 => ?_)
  refine W_region (WL_cons rfl (WX_q rfl rfl (q_field_ptr G rfl rfl rfl rfl) (WL_cons rfl (WX_q rfl rfl (q_lst (q_load_box G rfl rfl rfl rfl rfl rfl rfl)) (WL_cons rfl (WX_q rfl rfl (q_field_ptr G rfl rfl rfl rfl) (WL_cons rfl (WX_q rfl rfl (q_lst (q_load_box G rfl rfl rfl rfl rfl rfl rfl)) (WL_cons rfl (?_))))))))))
  refine WX_q rfl rfl (q_call rfl (ArgsOK.of rfl) (c_laws_eqRouteS x.rs y.rs hb.rs) rfl) ?_
  refine WL_cons rfl (WX_q rfl rfl (q_not rfl rfl) (?_))
  refine WL_nil (hK3 _ ?_)
  clear hK3 K3
  refine W_cond rfl (fun h1 => ?_) (fun h1 => ?_)
  · try rw [h1]
    try simp only [rfb] at h1
    refine W_seq (fun K4 hK4 => ?_)
    refine W_region (WL_cons rfl (WX_q rfl rfl (q_assign rfl rfl) (?_)))
    refine WL_nil (hK4 _ ?_)
    clear hK4 K4
    refine W_ret (fin_one rfl (rc_v ?_))
    all_goals clear hK2 K2
    all_goals (first | rfl | (simp_all [eqMa]; done))
  · try rw [h1]
    try simp only [rfb] at h1
    refine W_skip (hK2 _ ?_)
    clear hK2 K2
    refine W_seq (fun K5 hK5 => ?_)
    refine W_seq (fun K6 hK6 => ?_)
    refine W_region (WL_cons rfl (WX_q rfl rfl (q_field_ptr G rfl rfl rfl rfl) (WL_cons rfl (WX_q rfl rfl (q_lst (q_load_box G rfl rfl rfl rfl rfl rfl rfl)) (WL_cons rfl (WX_q rfl rfl (q_field_ptr G rfl rfl rfl rfl) (WL_cons rfl (WX_q rfl rfl (q_lst (q_load_box G rfl rfl rfl rfl rfl rfl rfl)) (WL_cons rfl (?_))))))))))
    refine WX_q rfl rfl (q_call rfl (ArgsOK.of rfl) (c_laws_eqBoolS x.en y.en hb.en) rfl) ?_
    refine WL_cons rfl (WX_q rfl rfl (q_not rfl rfl) (?_))
    refine WL_nil (hK6 _ ?_)
    clear hK6 K6
    refine W_cond rfl (fun h2 => ?_) (fun h2 => ?_)
    · try rw [h2]
      try simp only [rfb] at h2
      refine W_seq (fun K7 hK7 => ?_)
      refine W_region (WL_cons rfl (WX_q rfl rfl (q_assign rfl rfl) (?_)))
      refine WL_nil (hK7 _ ?_)
      clear hK7 K7
      refine W_ret (fin_one rfl (rc_v ?_))
      all_goals clear hK5 K5
      all_goals (first | rfl | (simp_all [eqMa]; done))
    · try rw [h2]
      try simp only [rfb] at h2
      refine W_skip (hK5 _ ?_)
      clear hK5 K5
      refine W_seq (fun K8 hK8 => ?_)
      refine W_seq (fun K9 hK9 => ?_)
      refine W_region (WL_cons rfl (WX_q rfl rfl (q_field_ptr G rfl rfl rfl rfl) (WL_cons rfl (WX_q rfl rfl (q_lst (q_load_box G rfl rfl rfl rfl rfl rfl rfl)) (WL_cons rfl (WX_q rfl rfl (q_field_ptr G rfl rfl rfl rfl) (WL_cons rfl (WX_q rfl rfl (q_lst (q_load_box G rfl rfl rfl rfl rfl rfl rfl)) (WL_cons rfl (?_))))))))))
      refine WX_q rfl rfl (q_call rfl (ArgsOK.of rfl) (c_laws_eqBoolS x.ra y.ra hb.ra) rfl) ?_
      refine WL_cons rfl (WX_q rfl rfl (q_not rfl rfl) (?_))
      refine WL_nil (hK9 _ ?_)
      clear hK9 K9
      refine W_cond rfl (fun h3 => ?_) (fun h3 => ?_)
      · try rw [h3]
        try simp only [rfb] at h3
        refine W_seq (fun K10 hK10 => ?_)
        refine W_region (WL_cons rfl (WX_q rfl rfl (q_assign rfl rfl) (?_)))
        refine WL_nil (hK10 _ ?_)
        clear hK10 K10
        refine W_ret (fin_one rfl (rc_v ?_))
        all_goals clear hK8 K8
        all_goals (first | rfl | (simp_all [eqMa]; done))
      · try rw [h3]
        try simp only [rfb] at h3
        refine W_skip (hK8 _ ?_)
        clear hK8 K8
        refine W_seq (fun K11 hK11 => ?_)
        refine W_seq (fun K12 hK12 => ?_)
        refine W_region (WL_cons rfl (WX_q rfl rfl (q_field_ptr G rfl rfl rfl rfl) (WL_cons rfl (WX_q rfl rfl (q_nst (q_load_box G rfl rfl rfl rfl rfl rfl rfl)) (WL_cons rfl (WX_q rfl rfl (q_field_ptr G rfl rfl rfl rfl) (WL_cons rfl (WX_q rfl rfl (q_nst (q_load_box G rfl rfl rfl rfl rfl rfl rfl)) (WL_cons rfl (?_))))))))))
        refine WX_q rfl rfl (q_call rfl (ArgsOK.of rfl) (c_laws_eqInterfaceS x.cp y.cp hb.cp hb.all) rfl) ?_
        refine WL_cons rfl (WX_q rfl rfl (q_not rfl rfl) (?_))
        refine WL_nil (hK12 _ ?_)
        clear hK12 K12
        refine W_cond rfl (fun h4 => ?_) (fun h4 => ?_)
        · try rw [h4]
          try simp only [rfb] at h4
          refine W_seq (fun K13 hK13 => ?_)
          refine W_region (WL_cons rfl (WX_q rfl rfl (q_assign rfl rfl) (?_)))
          refine WL_nil (hK13 _ ?_)
          clear hK13 K13
          refine W_ret (fin_one rfl (rc_v ?_))
          all_goals clear hK11 K11
          all_goals (first | rfl | (simp_all [eqMa]; done))
        · try rw [h4]
          try simp only [rfb] at h4
          refine W_skip (hK11 _ ?_)
          clear hK11 K11
          refine W_seq (fun K14 hK14 => ?_)
          refine W_region (WL_cons rfl (WX_q rfl rfl (q_assign rfl rfl) (?_)))
          refine WL_nil (hK14 _ ?_)
          clear hK14 K14
          refine W_ret (fin_one rfl (rc_v ?_))
          all_goals (first | rfl | (simp_all [eqMa]; done))

end Go.Proofs.YtcnodpipinlpcaaGreat

/- Walks through functions of the program, one contract each (written by gen.py). -/
set_option maxRecDepth 20000
set_option linter.unusedVariables false
set_option linter.unusedSimpArgs false
namespace Go.Proofs.YtcnodpipinlpcaaGreat
open Go Go.Rf

set_option maxHeartbeats 2000000 in
theorem c_laws_FnExactAbstractOf (m : Mach) (hb : BigM m) : Ctr Tryz.prog 5 [.agg [.lst 2 (m.rs.map encRo), .lst 1 (m.en.map encO), .lst 1 (m.ra.map encO), .nst none 4 (m.cp.map (encIf 154 183))]] (.one (.v (.bool true))) := by
  refine Ctr.of (n := 96) G Tryz.func5 rfl (by kernel_rfl) rfl rfl rfl (fun w0 => ?_)
  refine W_pinS 0 rfl (fun _ => rfl) (fun u0 => ?_)
  refine W_seq (fun K1 hK1 => ?_)
  refine W_region (WL_cons rfl (WX_box 1 rfl rfl rfl rfl rfl rfl rfl (WL_cons rfl (WX_q rfl rfl (q_assign rfl rfl) (?_)))))
  refine WL_nil (hK1 _ ?_)
  clear hK1 K1
  refine W_seq (fun K2 hK2 => ?_)
  refine W_region (WL_cons rfl (WX_q rfl rfl (q_assign rfl rfl) (?_)))
  refine WL_nil (hK2 _ ?_)
  clear hK2 K2
  refine W_seq (fun K3 hK3 => ?_)
  refine W_region (WL_cons rfl (WX_q rfl rfl (q_load_box_struct G rfl rfl rfl rfl rfl rfl) (WL_cons rfl (WX_q rfl rfl (q_move rfl rfl) (WL_cons rfl (?_))))))
  refine WX_q rfl rfl (q_call rfl (ArgsOK.of rfl) (c_laws_szMachine m _ hb (by omega)) rfl) ?_
  refine WL_cons rfl (WX_q rfl rfl (q_assign rfl rfl) (?_))
  refine WL_nil (hK3 _ ?_)
  clear hK3 K3
  refine W_seq (fun K4 hK4 => ?_)
  refine W_seq (fun K5 hK5 => ?_)
  refine W_region (WL_cons rfl (WX_q rfl rfl (q_move rfl rfl) (WL_cons rfl (WX_q rfl rfl (q_cmp rfl rfl rfl rfl) (?_)))))
  refine WL_nil (hK5 _ ?_)
  clear hK5 K5
  refine W_cond rfl (fun h1 => ?_) (fun h1 => ?_)
  · try rw [h1]
    try simp only [rfb] at h1
    refine W_seq (fun K6 hK6 => ?_)
    refine W_region (WL_cons rfl (WX_q rfl rfl (q_assign rfl rfl) (?_)))
    refine WL_nil (hK6 _ ?_)
    clear hK6 K6
    refine W_ret (fin_one rfl (rc_v ?_))
    all_goals clear hK4 K4
    all_goals (first | rfl | (exfalso; omega) | (simp_all; done))
  · try rw [h1]
    try simp only [rfb] at h1
    have hs := szMa_small (m := m) (l := 1048576) (by omega) (by omega)
    have hss := @abT_small m
    have cs1 := c_spec_AbstractOf m hs
    have ci1 := c_impl_AbstractOf m hs
    generalize abT m = r at hss cs1 ci1
    obtain ⟨x, ok⟩ := r
    dsimp only at hss cs1 ci1
    have hbx := hss.big
    have hm1 := mkMN_le (m := m) (k := 1) hs
    have hm2 := mkN_le (a := x) (k := 1) hss
    refine W_skip (hK4 _ ?_)
    clear hK4 K4
    refine W_seq (fun K7 hK7 => ?_)
    refine W_region (WL_cons rfl (WX_q rfl rfl (q_load_box_struct G rfl rfl rfl rfl rfl rfl) (WL_cons rfl (?_))))
    refine WX_call 5 rfl rfl rfl (ArgsOK.of rfl) (c_laws_toMachine m hs) rfl rfl ?_
    refine WL_cons rfl (?_)
    refine WX_call 10 rfl rfl rfl (ArgsOK.of rfl) cs1 rfl rfl ?_
    refine WL_cons rfl (WX_q rfl rfl (q_move rfl rfl) (WL_cons rfl (WX_q rfl rfl (q_extract rfl rfl rfl) (WL_cons rfl (WX_q rfl rfl (q_extract rfl rfl rfl) (WL_cons rfl (WX_alloc_s G 11 rfl rfl rfl rfl rfl (WL_cons rfl (WX_store G rfl rfl rfl rfl rfl rfl rfl rfl rfl rfl rfl (WL_cons rfl (WX_q rfl rfl (q_assign rfl rfl) (?_))))))))))))
    refine WL_nil (hK7 _ ?_)
    clear hK7 K7
    refine W_seq (fun K8 hK8 => ?_)
    refine W_region (WL_cons rfl (WX_q rfl rfl (q_load_box_struct G rfl rfl rfl rfl rfl rfl) (WL_cons rfl (?_))))
    refine WX_call 15 rfl rfl rfl (ArgsOK.of rfl) (c_laws_toMachine m hs) rfl rfl ?_
    refine WL_cons rfl (WX_alloc_s G 16 rfl rfl rfl rfl rfl (WL_cons rfl (WX_store G rfl rfl rfl rfl rfl rfl rfl rfl rfl rfl rfl (?_))))
    refine WL_nil (hK8 _ ?_)
    clear hK8 K8
    refine W_seq (fun K9 hK9 => ?_)
    refine W_region (WL_cons rfl (WX_q rfl rfl (q_load_box_struct G rfl rfl rfl rfl rfl rfl) (WL_cons rfl (?_))))
    refine WX_call 21 rfl rfl rfl (ArgsOK.of rfl) ci1 rfl rfl ?_
    refine WL_cons rfl (WX_q rfl rfl (q_move rfl rfl) (WL_cons rfl (WX_q rfl rfl (q_extract rfl rfl rfl) (WL_cons rfl (WX_q rfl rfl (q_extract rfl rfl rfl) (WL_cons rfl (WX_alloc_s G 22 rfl rfl rfl rfl rfl (WL_cons rfl (WX_store G rfl rfl rfl rfl rfl rfl rfl rfl rfl rfl rfl (WL_cons rfl (WX_q rfl rfl (q_assign rfl rfl) (?_))))))))))))
    refine WL_nil (hK9 _ ?_)
    clear hK9 K9
    refine W_seq (fun K10 hK10 => ?_)
    refine W_seq (fun K11 hK11 => ?_)
    refine W_region (WL_cons rfl (WX_q rfl rfl (q_load_box_struct G rfl rfl rfl rfl rfl rfl) (WL_cons rfl (WX_q rfl rfl (q_load_box_struct G rfl rfl rfl rfl rfl rfl) (WL_cons rfl (?_))))))
    refine WX_q rfl rfl (q_call rfl (ArgsOK.of rfl) (Ctr.bool (c_laws_eqAbstract x x hbx) (eqAb_iff.mpr rfl)) rfl) ?_
    refine WL_cons rfl (WX_q rfl rfl (q_not_t rfl rfl) (WL_cons rfl (WX_q rfl rfl (q_move rfl rfl) (WL_run rfl rfl rfl (WX_q rfl rfl (q_move rfl rfl) (WL_run rfl rfl rfl (WX_q rfl rfl (q_move rfl rfl) (WL_run rfl rfl rfl (?_)))))))))
    refine WX_q rfl rfl (q_eqv (v' := .bool false) (q_bne (G 4 _ rfl).1 rfl rfl rfl) (by first | rfl | exact congrArg Value.bool (decide_eq_false (by omega)) | (simp; done) | (simp; omega))) ?_
    refine WL_cons rfl (WX_q rfl rfl (q_pick_f rfl rfl rfl) (?_))
    refine WL_nil (hK11 _ ?_)
    clear hK11 K11
    refine W_false rfl ?_
    refine W_skip (hK10 _ ?_)
    clear hK10 K10
    refine W_seq (fun K12 hK12 => ?_)
    refine W_seq (fun K13 hK13 => ?_)
    refine W_drawsH 5 [0, 1, 2, 3, 4, 5, 6, 7, 8, 9, 10, 11, 12, 13, 14, 15, 16, 17, 18, 19, 20, 21] mixed (by kernel_rfl) rfl rfl (fun r0 => ?_) (fun _ h => h)
    refine WA_take 0 rfl (by kernel_rfl) (by kernel_rfl) rfl rfl rfl rfl (q_load_box_struct G rfl rfl rfl rfl rfl rfl) (WA_take 1 rfl (by kernel_rfl) (by kernel_rfl) rfl rfl rfl rfl (q_load_box_struct G rfl rfl rfl rfl rfl rfl) (?_))
    refine WA_branch (rs := [2]) (by kernel_rfl) rfl (AllB.cons ?_ AllB.nil)
    refine WB_run [0, 1, 2, 3, 4, 5, 6, 7, 8, 9, 10, 11, 12, 13, 14, 15, 16, 17, 18, 19, 20, 21] rfl rfl (WX_call 26 rfl rfl rfl (ArgsOK.of rfl) (c_laws_toMachine m hs) rfl rfl (WL_nil ⟨rfl, ?_⟩))
    refine WA_branch (rs := [3]) (by kernel_rfl) rfl (AllB.cons ?_ AllB.nil)
    refine WB_run [0, 1, 2, 3, 4, 5, 6, 7, 8, 9, 10, 11, 12, 13, 14, 15, 16, 17, 18, 19, 20, 21] rfl rfl (WX_q rfl rfl (q_call rfl (ArgsOK.of rfl) (Ctr.bool (c_laws_eqMachine m m hb) (eqMa_iff.mpr rfl)) rfl) (WL_nil ⟨rfl, ?_⟩))
    refine WA_take 4 rfl (by kernel_rfl) (by kernel_rfl) rfl rfl rfl rfl (q_not_t rfl rfl) (?_)
    refine WA_end (by kernel_rfl) (hK13 _ ?_)
    clear hK13 K13
    refine W_false rfl ?_
    refine W_skip (hK12 _ ?_)
    clear hK12 K12
    refine W_seq (fun K14 hK14 => ?_)
    refine W_region (WL_cons rfl (WX_q rfl rfl (q_assign rfl rfl) (?_)))
    refine WL_nil (hK14 _ ?_)
    clear hK14 K14
    refine W_seq (fun K15 hK15 => ?_)
    refine W_region (WL_cons rfl (WX_q rfl rfl (q_load_box_struct G rfl rfl rfl rfl rfl rfl) (WL_cons rfl (WX_q rfl rfl (q_move rfl rfl) (WL_cons rfl (?_))))))
    refine WX_callm 26 [11, 12, 13, 14] rfl rfl rfl (c_laws_markMachine m 1 hs (by omega)) rfl (RowsIn.cons rfl (RowsIn.cons rfl (RowsIn.cons rfl (RowsIn.cons rfl RowsIn.nil)))) rfl rfl rfl ?_
    refine WL_cons rfl (WX_q rfl rfl (q_assign rfl rfl) (?_))
    refine WL_nil (hK15 _ ?_)
    clear hK15 K15
    refine W_seq (fun K16 hK16 => ?_)
    refine W_seq (fun K17 hK17 => ?_)
    refine W_region (WL_cons rfl (WX_q rfl rfl (q_move rfl rfl) (WL_cons rfl (?_))))
    refine WX_q rfl rfl (q_eqv (v' := .bool false) (q_cmp rfl rfl rfl rfl) (by first | rfl | exact congrArg Value.bool (decide_eq_false (by omega)) | (simp; done) | (simp; omega))) ?_
    refine WL_cons rfl (WX_q rfl rfl (q_move rfl rfl) (WL_run rfl rfl rfl (WX_q rfl rfl (q_load_box_struct G rfl rfl rfl rfl rfl rfl) (WL_run rfl rfl rfl (WX_q rfl rfl (q_load_box_struct G rfl rfl rfl rfl rfl rfl) (WL_run rfl rfl rfl (?_)))))))
    refine WX_q rfl rfl (q_call rfl (ArgsOK.of rfl) (Ctr.bool (c_laws_eqAbstract x x hbx) (eqAb_iff.mpr rfl)) rfl) ?_
    refine WL_run rfl rfl rfl (WX_q rfl rfl (q_not_t rfl rfl) (WL_cons rfl (WX_q rfl rfl (q_pick_f rfl rfl rfl) (WL_cons rfl (WX_q rfl rfl (q_move rfl rfl) (WL_run rfl rfl rfl (WX_q rfl rfl (q_move rfl rfl) (WL_run rfl rfl rfl (WX_q rfl rfl (q_move rfl rfl) (WL_run rfl rfl rfl (?_)))))))))))
    refine WX_q rfl rfl (q_eqv (v' := .bool false) (q_bne (G 4 _ rfl).1 rfl rfl rfl) (by first | rfl | exact congrArg Value.bool (decide_eq_false (by omega)) | (simp; done) | (simp; omega))) ?_
    refine WL_cons rfl (WX_q rfl rfl (q_pick_f rfl rfl rfl) (?_))
    refine WL_nil (hK17 _ ?_)
    clear hK17 K17
    refine W_false rfl ?_
    refine W_skip (hK16 _ ?_)
    clear hK16 K16
    refine W_seq (fun K18 hK18 => ?_)
    refine W_region (WL_cons rfl (WX_q rfl rfl (q_assign rfl rfl) (?_)))
    refine WL_nil (hK18 _ ?_)
    clear hK18 K18
    refine W_seq (fun K19 hK19 => ?_)
    refine W_region (WL_cons rfl (WX_q rfl rfl (q_load_box_struct G rfl rfl rfl rfl rfl rfl) (WL_cons rfl (WX_q rfl rfl (q_move rfl rfl) (WL_cons rfl (?_))))))
    refine WX_callm 26 [16, 17, 18, 19, 20] rfl rfl rfl (c_laws_markAbstract x 1 hss (by omega)) rfl (RowsIn.cons rfl (RowsIn.cons rfl (RowsIn.cons rfl (RowsIn.cons rfl (RowsIn.cons rfl RowsIn.nil))))) rfl rfl rfl ?_
    refine WL_cons rfl (WX_q rfl rfl (q_assign rfl rfl) (?_))
    refine WL_nil (hK19 _ ?_)
    clear hK19 K19
    refine W_seq (fun K20 hK20 => ?_)
    refine W_region (WL_cons rfl (WX_q rfl rfl (q_assign rfl rfl) (?_)))
    refine WL_nil (hK20 _ ?_)
    clear hK20 K20
    refine W_seq (fun K21 hK21 => ?_)
    refine W_region (WL_cons rfl (WX_q rfl rfl (q_load_box_struct G rfl rfl rfl rfl rfl rfl) (WL_cons rfl (WX_q rfl rfl (q_move rfl rfl) (WL_cons rfl (?_))))))
    refine WX_q rfl rfl (q_call rfl (ArgsOK.of rfl) (c_laws_heldAbstract x 1 hss (by omega)) rfl) ?_
    refine WL_cons rfl (WX_q rfl rfl (q_assign rfl rfl) (?_))
    refine WL_nil (hK21 _ ?_)
    clear hK21 K21
    refine W_seq (fun K22 hK22 => ?_)
    refine W_seq (fun K23 hK23 => ?_)
    refine W_region (WL_cons rfl (WX_q rfl rfl (q_move rfl rfl) (WL_cons rfl (?_))))
    refine WX_q rfl rfl (q_eqv (v' := .bool false) (q_cmp rfl rfl rfl rfl) (by first | rfl | exact congrArg Value.bool (decide_eq_false (by omega)) | (simp; done) | (simp; omega))) ?_
    refine WL_nil (hK23 _ ?_)
    clear hK23 K23
    refine W_false rfl ?_
    refine W_skip (hK22 _ ?_)
    clear hK22 K22
    refine W_seq (fun K24 hK24 => ?_)
    refine W_seq (fun K25 hK25 => ?_)
    refine W_region (WL_cons rfl (WX_q rfl rfl (q_move rfl rfl) (WL_cons rfl (WX_q rfl rfl (q_move rfl rfl) (WL_cons rfl (?_))))))
    refine WX_q rfl rfl (q_eqv (v' := .bool false) (q_cmp rfl rfl rfl rfl) (by first | rfl | exact congrArg Value.bool (decide_eq_false (by omega)) | (simp; done) | (simp; omega))) ?_
    refine WL_nil (hK25 _ ?_)
    clear hK25 K25
    refine W_false rfl ?_
    refine W_skip (hK24 _ ?_)
    clear hK24 K24
    refine W_seq (fun K26 hK26 => ?_)
    refine W_region (WL_cons rfl (WX_q rfl rfl (q_load_box_struct G rfl rfl rfl rfl rfl rfl) (WL_cons rfl (?_))))
    refine WX_call 30 rfl rfl rfl (ArgsOK.of rfl) (c_laws_toMachine m hs) rfl rfl ?_
    refine WL_cons rfl (?_)
    refine WX_call 35 rfl rfl rfl (ArgsOK.of rfl) ci1 rfl rfl ?_
    refine WL_cons rfl (WX_q rfl rfl (q_move rfl rfl) (WL_cons rfl (WX_q rfl rfl (q_extract rfl rfl rfl) (WL_cons rfl (WX_q rfl rfl (q_extract rfl rfl rfl) (WL_cons rfl (WX_alloc_s G 36 rfl rfl rfl rfl rfl (WL_cons rfl (WX_store G rfl rfl rfl rfl rfl rfl rfl rfl rfl rfl rfl (WL_cons rfl (WX_q rfl rfl (q_assign rfl rfl) (?_))))))))))))
    refine WL_nil (hK26 _ ?_)
    clear hK26 K26
    refine W_seq (fun K27 hK27 => ?_)
    refine W_seq (fun K28 hK28 => ?_)
    refine W_region (WL_cons rfl (WX_q rfl rfl (q_load_box_struct G rfl rfl rfl rfl rfl rfl) (WL_cons rfl (WX_q rfl rfl (q_load_box_struct G rfl rfl rfl rfl rfl rfl) (WL_cons rfl (?_))))))
    refine WX_q rfl rfl (q_call rfl (ArgsOK.of rfl) (Ctr.bool (c_laws_eqAbstract x x hbx) (eqAb_iff.mpr rfl)) rfl) ?_
    refine WL_cons rfl (WX_q rfl rfl (q_not_t rfl rfl) (WL_cons rfl (WX_q rfl rfl (q_move rfl rfl) (WL_run rfl rfl rfl (WX_q rfl rfl (q_move rfl rfl) (WL_run rfl rfl rfl (WX_q rfl rfl (q_move rfl rfl) (WL_run rfl rfl rfl (?_)))))))))
    refine WX_q rfl rfl (q_eqv (v' := .bool false) (q_bne (G 4 _ rfl).1 rfl rfl rfl) (by first | rfl | exact congrArg Value.bool (decide_eq_false (by omega)) | (simp; done) | (simp; omega))) ?_
    refine WL_cons rfl (WX_q rfl rfl (q_pick_f rfl rfl rfl) (?_))
    refine WL_nil (hK28 _ ?_)
    clear hK28 K28
    refine W_false rfl ?_
    refine W_skip (hK27 _ ?_)
    clear hK27 K27
    refine W_seq (fun K29 hK29 => ?_)
    refine W_region (WL_cons rfl (WX_q rfl rfl (q_assign rfl rfl) (?_)))
    refine WL_nil (hK29 _ ?_)
    clear hK29 K29
    refine W_seq (fun K30 hK30 => ?_)
    refine W_region (WL_cons rfl (WX_q rfl rfl (q_load_box_struct G rfl rfl rfl rfl rfl rfl) (WL_cons rfl (WX_q rfl rfl (q_move rfl rfl) (WL_cons rfl (?_))))))
    refine WX_q rfl rfl (q_call rfl (ArgsOK.of rfl) (c_laws_heldAbstract x 1 hss (by omega)) rfl) ?_
    refine WL_cons rfl (WX_q rfl rfl (q_assign rfl rfl) (?_))
    refine WL_nil (hK30 _ ?_)
    clear hK30 K30
    refine W_seq (fun K31 hK31 => ?_)
    refine W_seq (fun K32 hK32 => ?_)
    refine W_region (WL_cons rfl (WX_q rfl rfl (q_move rfl rfl) (WL_cons rfl (?_))))
    refine WX_q rfl rfl (q_eqv (v' := .bool false) (q_cmp rfl rfl rfl rfl) (by first | rfl | exact congrArg Value.bool (decide_eq_false (by omega)) | (simp; done) | (simp; omega))) ?_
    refine WL_nil (hK32 _ ?_)
    clear hK32 K32
    refine W_false rfl ?_
    refine W_skip (hK31 _ ?_)
    clear hK31 K31
    refine W_seq (fun K33 hK33 => ?_)
    refine W_seq (fun K34 hK34 => ?_)
    refine W_region (WL_cons rfl (WX_q rfl rfl (q_move rfl rfl) (WL_cons rfl (WX_q rfl rfl (q_move rfl rfl) (WL_cons rfl (?_))))))
    refine WX_q rfl rfl (q_eqv (v' := .bool false) (q_cmp rfl rfl rfl rfl) (by first | rfl | exact congrArg Value.bool (decide_eq_false (by omega)) | (simp; done) | (simp; omega))) ?_
    refine WL_nil (hK34 _ ?_)
    clear hK34 K34
    refine W_false rfl ?_
    refine W_skip (hK33 _ ?_)
    clear hK33 K33
    refine W_seq (fun K35 hK35 => ?_)
    refine W_region (WL_cons rfl (WX_q rfl rfl (q_assign rfl rfl) (?_)))
    refine WL_nil (hK35 _ ?_)
    clear hK35 K35
    refine W_ret (fin_one rfl (rc_v ?_))
    all_goals (first | rfl | (exfalso; omega) | (simp_all; done))

end Go.Proofs.YtcnodpipinlpcaaGreat
