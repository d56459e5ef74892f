/- Texts merged into one: W3, Q1, X4, X6, X7, M2, M4, X8, W4, X9, X5, M3, M5, M6. -/
import Derived.Test.YtehijimgenicfaaDoorPFnSettingsA
/- Walks through functions of the program, one contract each (written by gen.py). -/
set_option maxRecDepth 20000
set_option linter.unusedVariables false
set_option linter.unusedSimpArgs false
namespace Go.Proofs.YtehijimgenicfaaDoor
open Go Go.Rf

theorem c_laws_toSettingS (xs : List Setting) (hn : xs.length ≤ 1048576) : Ctr Tryd.prog 14 [.lst 6 (xs.map encTc)] (.one (.fr 27 6 (xs.map encTc))) := by
  refine Ctr.of (n := 23) G Tryd.func14 rfl (by kernel_rfl) rfl rfl rfl (fun w0 => ?_)
  refine W_seq (fun K1 hK1 => ?_)
  refine W_region (WL_cons rfl (WX_q rfl rfl (q_assign rfl rfl) (?_)))
  refine WL_nil (hK1 _ ?_)
  clear hK1 K1
  refine W_seq (fun K2 hK2 => ?_)
  refine W_region (WL_cons rfl (WX_q rfl rfl (q_move rfl rfl) (WL_cons rfl (?_))))
  first | refine WX_q rfl rfl (q_len' G rfl rfl rfl rfl (List.length_map _)) ?_ | refine WX_q rfl rfl (q_len G rfl rfl rfl rfl) ?_
  refine WL_cons rfl (?_)
  refine WX_make (n := xs.length) G 1 rfl rfl rfl rfl rfl rfl rfl (by first | rfl | simp) (by first | rfl | simp) (by omega) (by omega) ?_
  refine WL_cons rfl (WX_q rfl rfl (q_assign rfl rfl) (?_))
  refine WL_nil (hK2 _ ?_)
  clear hK2 K2
  refine W_seq (fun K3 hK3 => ?_)
  refine W_seq (fun K4 hK4 => ?_)
  refine W_region (WL_cons rfl (WX_q rfl rfl (q_assign rfl rfl) (?_)))
  refine WL_nil (hK4 _ ?_)
  clear hK4 K4
  refine W_block ?_
  refine W_loopK [0, 3] [] (fun (i : Nat) => [(4, .v (.int .i64 (i : Int)))]) (fun (i : Nat) => [(0, some (.row 27 6 (fill encTc (encTc ⟨0, ⟨#[]⟩, 0, 0, 0, false⟩) xs i)))]) (fun (i : Nat) => i ≤ xs.length) (fun (i : Nat) => xs.length - i) 0 rfl rfl ?_ ?_ ?_ ?_
  · exact Nat.zero_le _
  · exact ⟨⟨_, rfl, by (first | rfl | (simp; done) | (simp; omega))⟩, rfl, trivial⟩
  · exact ⟨⟨_, rfl, by (rw [fill_zero]; rfl)⟩, rfl, rfl, trivial⟩
  · intro i hinv
    simp only [List.cons_append, List.nil_append]
    refine W_seq (fun K5 hK5 => ?_)
    refine W_seq (fun K6 hK6 => ?_)
    refine W_region (WL_cons rfl (WX_q rfl rfl (q_move rfl rfl) (WL_cons rfl (WX_q rfl rfl (q_move rfl rfl) (WL_cons rfl (?_))))))
    first | refine WX_q rfl rfl (q_len' G rfl rfl rfl rfl (List.length_map _)) ?_ | refine WX_q rfl rfl (q_len G rfl rfl rfl rfl) ?_
    refine WL_cons rfl (WX_q rfl rfl (q_cmp rfl rfl rfl rfl) (?_))
    refine WL_nil (hK6 _ ?_)
    clear hK6 K6
    refine W_cond rfl (fun h1 => ?_) (fun h1 => ?_)
    · try rw [h1]
      try simp only [decide_eq_true_eq, decide_eq_false_iff_not, beq_iff_eq, bne_iff_ne, ne_eq, Bool.not_eq_true', Bool.not_eq_false', beq_eq_false_iff_ne, bne_eq_false_iff_eq, Bool.not_eq_true, Bool.not_eq_false, Int.not_lt, Int.not_le, gt_iff_lt, ge_iff_le, Bool.and_eq_true, Bool.and_eq_false_iff, Bool.or_eq_true, Bool.or_eq_false_iff] at h1
      refine W_skip (hK5 _ ?_)
      clear hK5 K5
      refine W_seq (fun K7 hK7 => ?_)
      refine W_block ?_
      refine W_region (WL_cons rfl (WX_q rfl rfl (q_move rfl rfl) (WL_cons rfl (WX_q rfl rfl (q_move rfl rfl) (WL_cons rfl (WX_q rfl rfl (q_move rfl rfl) (WL_cons rfl (WX_q rfl rfl (q_move rfl rfl) (WL_cons rfl (?_))))))))))
      refine WX_q rfl rfl (q_index_lst G rfl rfl rfl rfl (by omega) (getN (by omega))) ?_
      refine WL_cons rfl (WX_q rfl rfl (q_load_ept_struct G rfl rfl rfl rfl) (WL_cons rfl (?_)))
      refine WX_q rfl rfl (q_call rfl (ArgsOK.of rfl) (c_laws_toSetting _) rfl) ?_
      refine WL_cons rfl (?_)
      refine WX_q rfl rfl (q_index_own G rfl rfl rfl rfl rfl (by omega) (by rw [fill_len (by omega)]; omega)) ?_
      refine WL_cons rfl (?_)
      refine WX_store_row G rfl rfl rfl rfl rfl (fill_get (by omega)) rfl rfl rfl rfl rfl (Nat.le_of_ble_eq_true rfl) rfl ?_
      refine WL_nil (hK7 _ ?_)
      clear hK7 K7
      refine W_region (WL_cons rfl (WX_q rfl rfl (q_move rfl rfl) (WL_cons rfl (?_))))
      first | refine WX_q rfl rfl (q_arith rfl rfl rfl rfl (by omega) (by omega)) ?_ | refine WX_q rfl rfl (q_wrap rfl rfl rfl rfl) ?_
      refine WL_cons rfl (WX_q rfl rfl (q_assign rfl rfl) (?_))
      refine WL_nil ⟨(i + 1), ?_, ?_, ⟨⟨_, rfl, by rfl⟩, rfl, trivial⟩, ⟨⟨_, rfl, by (rw [← fill_set (by omega)]; rfl)⟩, rfl, rfl, trivial⟩, rfl, rfl, rfl⟩
      · omega
      · omega
    · try rw [h1]
      try simp only [decide_eq_true_eq, decide_eq_false_iff_not, beq_iff_eq, bne_iff_ne, ne_eq, Bool.not_eq_true', Bool.not_eq_false', beq_eq_false_iff_ne, bne_eq_false_iff_eq, Bool.not_eq_true, Bool.not_eq_false, Int.not_lt, Int.not_le, gt_iff_lt, ge_iff_le, Bool.and_eq_true, Bool.and_eq_false_iff, Bool.or_eq_true, Bool.or_eq_false_iff] at h1
      refine W_exit (hK3 _ ?_)
      clear hK5 K5 hK3 K3
      refine W_seq (fun K8 hK8 => ?_)
      refine W_region (WL_cons rfl (WX_q rfl rfl (q_move rfl rfl) (WL_cons rfl (WX_q rfl rfl (q_assign rfl rfl) (?_)))))
      refine WL_nil (hK8 _ ?_)
      clear hK8 K8
      refine W_ret (fin_one rfl (rc_own rfl ?_))
      all_goals (exact fill_end (by omega) (by omega))

theorem c_laws_szSettingS (xs : List Setting) (l : Int) (h0 : xs.length ≤ 9223372036854775807) (hz : ∀ i, i < xs.length → (xs.getD i default).n.size ≤ 9223372036854775807) (hl : l = 1048576) : Ctr Tryd.prog 12 [.lst 6 (xs.map encTc), .v (.int .i64 l)] (.one (.v (.int .i64 (szT xs l)))) := by
  subst hl
  refine Ctr.of (n := 27) G Tryd.func12 rfl (by kernel_rfl) rfl rfl rfl (fun w0 => ?_)
  refine W_seq (fun K1 hK1 => ?_)
  refine W_region (WL_cons rfl (WX_q rfl rfl (q_assign rfl rfl) (?_)))
  refine WL_nil (hK1 _ ?_)
  clear hK1 K1
  refine W_seq (fun K2 hK2 => ?_)
  refine W_region (WL_cons rfl (WX_q rfl rfl (q_move rfl rfl) (WL_cons rfl (WX_q rfl rfl (q_move rfl rfl) (WL_cons rfl (?_))))))
  first | refine WX_q rfl rfl (q_len' G rfl rfl rfl rfl (List.length_map _)) ?_ | refine WX_q rfl rfl (q_len G rfl rfl rfl rfl) ?_
  refine WL_cons rfl (?_)
  first | refine WX_q rfl rfl (q_arith rfl rfl rfl rfl (by omega) (by omega)) ?_ | refine WX_q rfl rfl (q_wrap rfl rfl rfl rfl) ?_
  refine WL_cons rfl (WX_q rfl rfl (q_assign rfl rfl) (?_))
  refine WL_nil (hK2 _ ?_)
  clear hK2 K2
  refine W_seq (fun K3 hK3 => ?_)
  refine W_seq (fun K4 hK4 => ?_)
  refine W_region (WL_cons rfl (WX_q rfl rfl (q_move rfl rfl) (WL_cons rfl (WX_q rfl rfl (q_cmp rfl rfl rfl rfl) (?_)))))
  refine WL_nil (hK4 _ ?_)
  clear hK4 K4
  refine W_cond rfl (fun h1 => ?_) (fun h1 => ?_)
  · try rw [h1]
    try simp only [decide_eq_true_eq, decide_eq_false_iff_not, beq_iff_eq, bne_iff_ne, ne_eq, Bool.not_eq_true', Bool.not_eq_false', beq_eq_false_iff_ne, bne_eq_false_iff_eq, Bool.not_eq_true, Bool.not_eq_false, Int.not_lt, Int.not_le, gt_iff_lt, ge_iff_le, Bool.and_eq_true, Bool.and_eq_false_iff, Bool.or_eq_true, Bool.or_eq_false_iff] at h1
    refine W_seq (fun K5 hK5 => ?_)
    refine W_region (WL_cons rfl (WX_q rfl rfl (q_assign rfl rfl) (?_)))
    refine WL_nil (hK5 _ ?_)
    clear hK5 K5
    refine W_ret (fin_one rfl (rc_v ?_))
    all_goals clear hK3 K3
    all_goals (first | (simp only [szT]; rw [if_pos (by omega)]; done) | (simp only [szT]; rw [if_neg (by omega), if_pos (allN_t hinv.2.1 (by omega))]; have e : i = xs.length := (by omega); subst e; rfl) | (simp only [szT]; rw [if_neg (by omega), if_neg]; rw [allN_f (i := i) (by simp only [decide_eq_false_iff_not]; rw [szN_succ]; split at h3 <;> omega) (by omega)]; simp))
  · try rw [h1]
    try simp only [decide_eq_true_eq, decide_eq_false_iff_not, beq_iff_eq, bne_iff_ne, ne_eq, Bool.not_eq_true', Bool.not_eq_false', beq_eq_false_iff_ne, bne_eq_false_iff_eq, Bool.not_eq_true, Bool.not_eq_false, Int.not_lt, Int.not_le, gt_iff_lt, ge_iff_le, Bool.and_eq_true, Bool.and_eq_false_iff, Bool.or_eq_true, Bool.or_eq_false_iff] at h1
    refine W_skip (hK3 _ ?_)
    clear hK3 K3
    refine W_seq (fun K6 hK6 => ?_)
    refine W_seq (fun K7 hK7 => ?_)
    refine W_region (WL_cons rfl (WX_q rfl rfl (q_assign rfl rfl) (?_)))
    refine WL_nil (hK7 _ ?_)
    clear hK7 K7
    refine W_block ?_
    refine W_loopK [0] [] (fun (i : Nat) => [(1, .v (.int .i64 (szN xs 1048576 i))), (5, .v (.int .i64 (i : Int)))]) (fun (i : Nat) => []) (fun (i : Nat) => i ≤ xs.length ∧ (∀ j, j < i → decide (0 ≤ szN xs 1048576 (j + 1)) = true) ∧ 0 ≤ szN xs 1048576 i ∧ szN xs 1048576 i ≤ 1048576) (fun (i : Nat) => xs.length - i) 0 rfl rfl ?_ ?_ ?_ ?_
    · (refine ⟨Nat.zero_le _, fun j hj => (by omega), ?_, ?_⟩ <;> (show _ ≤ _; simp only [szN]; omega))
    · exact ⟨⟨_, rfl, by rfl⟩, rfl, ⟨⟨_, rfl, by rfl⟩, rfl, trivial⟩⟩
    · exact trivial
    · intro i hinv
      have hs1 : szN xs 1048576 (i + 1) = _ := szN_succ
      simp only [List.cons_append, List.nil_append]
      refine W_seq (fun K8 hK8 => ?_)
      refine W_seq (fun K9 hK9 => ?_)
      refine W_region (WL_cons rfl (WX_q rfl rfl (q_move rfl rfl) (WL_cons rfl (WX_q rfl rfl (q_move rfl rfl) (WL_cons rfl (?_))))))
      first | refine WX_q rfl rfl (q_len' G rfl rfl rfl rfl (List.length_map _)) ?_ | refine WX_q rfl rfl (q_len G rfl rfl rfl rfl) ?_
      refine WL_cons rfl (WX_q rfl rfl (q_cmp rfl rfl rfl rfl) (?_))
      refine WL_nil (hK9 _ ?_)
      clear hK9 K9
      refine W_cond rfl (fun h2 => ?_) (fun h2 => ?_)
      · try rw [h2]
        try simp only [decide_eq_true_eq, decide_eq_false_iff_not, beq_iff_eq, bne_iff_ne, ne_eq, Bool.not_eq_true', Bool.not_eq_false', beq_eq_false_iff_ne, bne_eq_false_iff_eq, Bool.not_eq_true, Bool.not_eq_false, Int.not_lt, Int.not_le, gt_iff_lt, ge_iff_le, Bool.and_eq_true, Bool.and_eq_false_iff, Bool.or_eq_true, Bool.or_eq_false_iff] at h2
        refine W_skip (hK8 _ ?_)
        clear hK8 K8
        refine W_seq (fun K10 hK10 => ?_)
        refine W_block ?_
        refine W_seq (fun K11 hK11 => ?_)
        refine W_region (WL_cons rfl (WX_q rfl rfl (q_move rfl rfl) (WL_cons rfl (WX_q rfl rfl (q_move rfl rfl) (WL_cons rfl (?_))))))
        refine WX_q rfl rfl (q_index_lst G rfl rfl rfl rfl (by omega) (getN (by omega))) ?_
        refine WL_cons rfl (WX_q rfl rfl (q_load_ept_struct G rfl rfl rfl rfl) (WL_cons rfl (WX_q rfl rfl (q_move rfl rfl) (WL_cons rfl (?_)))))
        refine WX_q rfl rfl (q_call rfl (ArgsOK.of rfl) (c_laws_szSetting _ _ (hz i (by omega)) (by omega)) rfl) ?_
        refine WL_cons rfl (WX_q rfl rfl (q_assign rfl rfl) (?_))
        refine WL_nil (hK11 _ ?_)
        clear hK11 K11
        refine W_seq (fun K12 hK12 => ?_)
        refine W_region (WL_cons rfl (WX_q rfl rfl (q_move rfl rfl) (WL_cons rfl (WX_q rfl rfl (q_cmp rfl rfl rfl rfl) (?_)))))
        refine WL_nil (hK12 _ ?_)
        clear hK12 K12
        refine W_cond rfl (fun h3 => ?_) (fun h3 => ?_)
        · try rw [h3]
          try simp only [decide_eq_true_eq, decide_eq_false_iff_not, beq_iff_eq, bne_iff_ne, ne_eq, Bool.not_eq_true', Bool.not_eq_false', beq_eq_false_iff_ne, bne_eq_false_iff_eq, Bool.not_eq_true, Bool.not_eq_false, Int.not_lt, Int.not_le, gt_iff_lt, ge_iff_le, Bool.and_eq_true, Bool.and_eq_false_iff, Bool.or_eq_true, Bool.or_eq_false_iff] at h3
          refine W_seq (fun K13 hK13 => ?_)
          refine W_region (WL_cons rfl (WX_q rfl rfl (q_assign rfl rfl) (?_)))
          refine WL_nil (hK13 _ ?_)
          clear hK13 K13
          refine W_ret (fin_one rfl (rc_v ?_))
          all_goals clear hK10 K10 hK6 K6
          all_goals (first | (simp only [szT]; rw [if_pos (by omega)]; done) | (simp only [szT]; rw [if_neg (by omega), if_pos (allN_t hinv.2.1 (by omega))]; have e : i = xs.length := (by omega); subst e; rfl) | (simp only [szT]; rw [if_neg (by omega), if_neg]; rw [allN_f (i := i) (by simp only [decide_eq_false_iff_not]; rw [szN_succ]; split at h3 <;> omega) (by omega)]; simp))
        · try rw [h3]
          try simp only [decide_eq_true_eq, decide_eq_false_iff_not, beq_iff_eq, bne_iff_ne, ne_eq, Bool.not_eq_true', Bool.not_eq_false', beq_eq_false_iff_ne, bne_eq_false_iff_eq, Bool.not_eq_true, Bool.not_eq_false, Int.not_lt, Int.not_le, gt_iff_lt, ge_iff_le, Bool.and_eq_true, Bool.and_eq_false_iff, Bool.or_eq_true, Bool.or_eq_false_iff] at h3
          refine W_skip (hK10 _ ?_)
          clear hK10 K10
          refine W_region (WL_cons rfl (WX_q rfl rfl (q_move rfl rfl) (WL_cons rfl (?_))))
          first | refine WX_q rfl rfl (q_arith rfl rfl rfl rfl (by omega) (by omega)) ?_ | refine WX_q rfl rfl (q_wrap rfl rfl rfl rfl) ?_
          refine WL_cons rfl (WX_q rfl rfl (q_assign rfl rfl) (?_))
          refine WL_nil ⟨(i + 1), ?_, ?_, ⟨⟨_, rfl, by (first | rfl | (rw [szN_succ]; rw [if_neg (by split at h3 <;> omega)]))⟩, rfl, ⟨⟨_, rfl, by (first | rfl | (rw [szN_succ]; rw [if_neg (by split at h3 <;> omega)]))⟩, rfl, trivial⟩⟩, trivial, rfl, rfl, rfl⟩
          · (have hq : 0 ≤ szN xs 1048576 (i + 1) := (by rw [szN_succ]; split at h3 <;> omega)); exact ⟨by omega, upto_succ hinv.2.1 (by simpa using hq), hq, (by rw [szN_succ]; omega)⟩
          · omega
      · try rw [h2]
        try simp only [decide_eq_true_eq, decide_eq_false_iff_not, beq_iff_eq, bne_iff_ne, ne_eq, Bool.not_eq_true', Bool.not_eq_false', beq_eq_false_iff_ne, bne_eq_false_iff_eq, Bool.not_eq_true, Bool.not_eq_false, Int.not_lt, Int.not_le, gt_iff_lt, ge_iff_le, Bool.and_eq_true, Bool.and_eq_false_iff, Bool.or_eq_true, Bool.or_eq_false_iff] at h2
        refine W_exit (hK6 _ ?_)
        clear hK8 K8 hK6 K6
        refine W_seq (fun K14 hK14 => ?_)
        refine W_region (WL_cons rfl (WX_q rfl rfl (q_move rfl rfl) (WL_cons rfl (WX_q rfl rfl (q_assign rfl rfl) (?_)))))
        refine WL_nil (hK14 _ ?_)
        clear hK14 K14
        refine W_ret (fin_one rfl (rc_v ?_))
        all_goals (first | (simp only [szT]; rw [if_pos (by omega)]; done) | (simp only [szT]; rw [if_neg (by omega), if_pos (allN_t hinv.2.1 (by omega))]; have e : i = xs.length := (by omega); subst e; rfl) | (simp only [szT]; rw [if_neg (by omega), if_neg]; rw [allN_f (i := i) (by simp only [decide_eq_false_iff_not]; rw [szN_succ]; split at h3 <;> omega) (by omega)]; simp))

theorem c_slices_IndexFunc_impl_Setting_impl_Setting (xs : List Setting) (f : Nat) (c : List Value) (p : Setting → Bool) (hl : xs.length ≤ 1048576) (hf : ∀ i, i < xs.length → Ctr Tryd.prog f [.v (encT (xs.getD i default)), .ept c] (.one (.v (.bool (p (xs.getD i default)))))) : Ctr Tryd.prog 68 [.lst 6 (xs.map encTc), .fnc f [.ept c]] (.one (.v (.int .i64 (idxN (fun i => p (xs.getD i default)) xs.length)))) := by
  refine Ctr.of (n := 19) G Tryd.func68 rfl (by kernel_rfl) rfl rfl rfl (fun w0 => ?_)
  refine W_seq (fun K1 hK1 => ?_)
  refine W_region (WL_cons rfl (WX_q rfl rfl (q_assign rfl rfl) (?_)))
  refine WL_nil (hK1 _ ?_)
  clear hK1 K1
  refine W_seq (fun K2 hK2 => ?_)
  refine W_seq (fun K3 hK3 => ?_)
  refine W_region (WL_cons rfl (WX_q rfl rfl (q_move rfl rfl) (WL_cons rfl (?_))))
  first | refine WX_q rfl rfl (q_len' G rfl rfl rfl rfl (List.length_map _)) ?_ | refine WX_q rfl rfl (q_len G rfl rfl rfl rfl) ?_
  refine WL_cons rfl (WX_q rfl rfl (q_move rfl rfl) (?_))
  refine WL_nil (hK3 _ ?_)
  clear hK3 K3
  refine W_block ?_
  refine W_loopK [0, 1, 7] [] (fun (i : Nat) => [(8, .v (.int .i64 (i : Int)))]) (fun (i : Nat) => []) (fun (i : Nat) => i ≤ xs.length ∧ ∀ j, j < i → p (xs.getD j default) = false) (fun (i : Nat) => xs.length - i) 0 rfl rfl ?_ ?_ ?_ ?_
  · exact ⟨Nat.zero_le _, fun j hj => by omega⟩
  · exact ⟨⟨_, rfl, by (first | rfl | (simp; done) | (simp; omega))⟩, rfl, trivial⟩
  · exact trivial
  · intro i hinv
    simp only [List.cons_append, List.nil_append]
    refine W_seq (fun K4 hK4 => ?_)
    refine W_region (WL_cons rfl (WX_q rfl rfl (q_cmp rfl rfl rfl rfl) (?_)))
    refine WL_nil (hK4 _ ?_)
    clear hK4 K4
    refine W_seq (fun K5 hK5 => ?_)
    refine W_cond rfl (fun h1 => ?_) (fun h1 => ?_)
    · try rw [h1]
      try simp only [decide_eq_true_eq, decide_eq_false_iff_not, beq_iff_eq, bne_iff_ne, ne_eq, Bool.not_eq_true', Bool.not_eq_false', beq_eq_false_iff_ne, bne_eq_false_iff_eq, Bool.not_eq_true, Bool.not_eq_false, Int.not_lt, Int.not_le, gt_iff_lt, ge_iff_le, Bool.and_eq_true, Bool.and_eq_false_iff, Bool.or_eq_true, Bool.or_eq_false_iff] at h1
      refine W_skip (hK5 _ ?_)
      clear hK5 K5
      refine W_seq (fun K6 hK6 => ?_)
      refine W_block ?_
      refine W_seq (fun K7 hK7 => ?_)
      refine W_region (WL_cons rfl (WX_q rfl rfl (q_move rfl rfl) (WL_cons rfl (WX_q rfl rfl (q_assign rfl rfl) (?_)))))
      refine WL_nil (hK7 _ ?_)
      clear hK7 K7
      refine W_seq (fun K8 hK8 => ?_)
      refine W_region (WL_cons rfl (WX_q rfl rfl (q_move rfl rfl) (WL_cons rfl (WX_q rfl rfl (q_move rfl rfl) (WL_cons rfl (WX_q rfl rfl (q_move rfl rfl) (WL_cons rfl (?_))))))))
      refine WX_q rfl rfl (q_index_lst G rfl rfl rfl rfl (by omega) (getN (by omega))) ?_
      refine WL_cons rfl (WX_q rfl rfl (q_load_ept_struct G rfl rfl rfl rfl) (WL_cons rfl (?_)))
      refine WX_q rfl rfl (q_callc rfl rfl (ArgsOK.of rfl) rfl (hf _ (by omega)) rfl) ?_
      refine WL_nil (hK8 _ ?_)
      clear hK8 K8
      refine W_cond rfl (fun h2 => ?_) (fun h2 => ?_)
      · try rw [h2]
        try simp only [decide_eq_true_eq, decide_eq_false_iff_not, beq_iff_eq, bne_iff_ne, ne_eq, Bool.not_eq_true', Bool.not_eq_false', beq_eq_false_iff_ne, bne_eq_false_iff_eq, Bool.not_eq_true, Bool.not_eq_false, Int.not_lt, Int.not_le, gt_iff_lt, ge_iff_le, Bool.and_eq_true, Bool.and_eq_false_iff, Bool.or_eq_true, Bool.or_eq_false_iff] at h2
        refine W_seq (fun K9 hK9 => ?_)
        refine W_region (WL_cons rfl (WX_q rfl rfl (q_move rfl rfl) (WL_cons rfl (WX_q rfl rfl (q_assign rfl rfl) (?_)))))
        refine WL_nil (hK9 _ ?_)
        clear hK9 K9
        refine W_ret (fin_one rfl (rc_v ?_))
        all_goals clear hK6 K6 hK2 K2
        all_goals (first | (rw [idx_some (i := i) hinv.2 (by omega) (by assumption)]; done) | (rw [idx_none hinv.2 (by omega)]; done))
      · try rw [h2]
        try simp only [decide_eq_true_eq, decide_eq_false_iff_not, beq_iff_eq, bne_iff_ne, ne_eq, Bool.not_eq_true', Bool.not_eq_false', beq_eq_false_iff_ne, bne_eq_false_iff_eq, Bool.not_eq_true, Bool.not_eq_false, Int.not_lt, Int.not_le, gt_iff_lt, ge_iff_le, Bool.and_eq_true, Bool.and_eq_false_iff, Bool.or_eq_true, Bool.or_eq_false_iff] at h2
        refine W_skip (hK6 _ ?_)
        clear hK6 K6
        refine W_region (WL_cons rfl (?_))
        first | refine WX_q rfl rfl (q_arith rfl rfl rfl rfl (by omega) (by omega)) ?_ | refine WX_q rfl rfl (q_wrap rfl rfl rfl rfl) ?_
        refine WL_cons rfl (WX_q rfl rfl (q_move rfl rfl) (?_))
        refine WL_nil ⟨(i + 1), ?_, ?_, ⟨⟨_, rfl, by rfl⟩, rfl, trivial⟩, trivial, rfl, rfl, rfl⟩
        · exact ⟨by omega, upto_succ hinv.2 (by assumption)⟩
        · omega
    · try rw [h1]
      try simp only [decide_eq_true_eq, decide_eq_false_iff_not, beq_iff_eq, bne_iff_ne, ne_eq, Bool.not_eq_true', Bool.not_eq_false', beq_eq_false_iff_ne, bne_eq_false_iff_eq, Bool.not_eq_true, Bool.not_eq_false, Int.not_lt, Int.not_le, gt_iff_lt, ge_iff_le, Bool.and_eq_true, Bool.and_eq_false_iff, Bool.or_eq_true, Bool.or_eq_false_iff] at h1
      refine W_exit (hK2 _ ?_)
      clear hK5 K5 hK2 K2
      refine W_seq (fun K10 hK10 => ?_)
      refine W_region (WL_cons rfl (WX_q rfl rfl (q_assign rfl rfl) (?_)))
      refine WL_nil (hK10 _ ?_)
      clear hK10 K10
      refine W_ret (fin_one rfl (rc_v ?_))
      all_goals (first | (rw [idx_some (i := i) hinv.2 (by omega) (by assumption)]; done) | (rw [idx_none hinv.2 (by omega)]; done))

theorem c_slices_ContainsFunc_impl_Setting_impl_Setting (xs : List Setting) (f : Nat) (c : List Value) (p : Setting → Bool) (hl : xs.length ≤ 1048576) (hf : ∀ i, i < xs.length → Ctr Tryd.prog f [.v (encT (xs.getD i default)), .ept c] (.one (.v (.bool (p (xs.getD i default)))))) : Ctr Tryd.prog 56 [.lst 6 (xs.map encTc), .fnc f [.ept c]] (.one (.v (.bool (anyN xs.length (fun i => p (xs.getD i default)))))) := by
  refine Ctr.of (n := 9) G Tryd.func56 rfl (by kernel_rfl) rfl rfl rfl (fun w0 => ?_)
  refine W_seq (fun K1 hK1 => ?_)
  refine W_region (WL_cons rfl (WX_q rfl rfl (q_assign rfl rfl) (?_)))
  refine WL_nil (hK1 _ ?_)
  clear hK1 K1
  refine W_seq (fun K2 hK2 => ?_)
  refine W_region (WL_cons rfl (WX_q rfl rfl (q_move rfl rfl) (WL_cons rfl (WX_q rfl rfl (q_move rfl rfl) (WL_cons rfl (?_))))))
  refine WX_q rfl rfl (q_call rfl (ArgsOK.of rfl) (c_slices_IndexFunc_impl_Setting_impl_Setting xs f c p hl hf) rfl) ?_
  refine WL_cons rfl (WX_q rfl rfl (q_cmp rfl rfl rfl rfl) (WL_cons rfl (WX_q rfl rfl (q_assign rfl rfl) (?_))))
  refine WL_nil (hK2 _ ?_)
  clear hK2 K2
  refine W_ret (fin_one rfl (rc_v ?_))
  all_goals (rw [idx_any])

theorem c_impl_AreSettings_1 (x s : Setting) : Ctr Tryd.prog 57 [.v (encT x), .ept (encTc s)] (.one (.v (.bool (x.n.toList == s.n.toList)))) := by
  refine Ctr.of (n := 9) G Tryd.func57 rfl (by kernel_rfl) rfl rfl rfl (fun w0 => ?_)
  refine W_seq (fun K1 hK1 => ?_)
  refine W_region (WL_cons rfl (WX_box 1 rfl rfl rfl rfl rfl rfl rfl (WL_cons rfl (WX_q rfl rfl (q_assign rfl rfl) (?_)))))
  refine WL_nil (hK1 _ ?_)
  clear hK1 K1
  refine W_seq (fun K2 hK2 => ?_)
  refine W_region (WL_cons rfl (WX_q rfl rfl (q_field_ptr G rfl rfl rfl rfl) (WL_cons rfl (WX_q rfl rfl (q_load_box G rfl rfl rfl rfl rfl rfl rfl) (WL_cons rfl (WX_q rfl rfl (q_field_ept G rfl rfl rfl rfl) (WL_cons rfl (WX_q rfl rfl (q_load_ept G rfl rfl rfl rfl rfl) (WL_cons rfl (WX_q rfl rfl (q_cmp_str rfl rfl rfl rfl) (WL_cons rfl (WX_q rfl rfl (q_assign rfl rfl) (?_)))))))))))))
  refine WL_nil (hK2 _ ?_)
  clear hK2 K2
  refine W_ret (fin_one rfl (rc_v ?_))
  all_goals (rfl)

theorem c_impl_allFrames (xs : List Setting) (hn : xs.length ≤ 1048576) (hok : ∀ i, i < xs.length → 0 ≤ (xs.getD i default).f ∧ (xs.getD i default).f ≤ 16) : Ctr Tryd.prog 58 [.lst 6 (xs.map encTc)] (.one (.v (.int .i64 (sumF xs xs.length)))) := by
  refine Ctr.of (n := 18) G Tryd.func58 rfl (by kernel_rfl) rfl rfl rfl (fun w0 => ?_)
  refine W_seq (fun K1 hK1 => ?_)
  refine W_region (WL_cons rfl (WX_q rfl rfl (q_assign rfl rfl) (?_)))
  refine WL_nil (hK1 _ ?_)
  clear hK1 K1
  refine W_seq (fun K2 hK2 => ?_)
  refine W_region (WL_cons rfl (WX_q rfl rfl (q_assign rfl rfl) (?_)))
  refine WL_nil (hK2 _ ?_)
  clear hK2 K2
  refine W_seq (fun K3 hK3 => ?_)
  refine W_seq (fun K4 hK4 => ?_)
  refine W_region (WL_cons rfl (WX_q rfl rfl (q_move rfl rfl) (WL_cons rfl (?_))))
  first | refine WX_q rfl rfl (q_len' G rfl rfl rfl rfl (List.length_map _)) ?_ | refine WX_q rfl rfl (q_len G rfl rfl rfl rfl) ?_
  refine WL_cons rfl (WX_q rfl rfl (q_move rfl rfl) (?_))
  refine WL_nil (hK4 _ ?_)
  clear hK4 K4
  refine W_block ?_
  refine W_loopK [6, 7] [] (fun (i : Nat) => [(3, .v (.int .i64 (sumF xs i))), (8, .v (.int .i64 (i : Int)))]) (fun (i : Nat) => []) (fun (i : Nat) => i ≤ xs.length) (fun (i : Nat) => xs.length - i) 0 rfl rfl ?_ ?_ ?_ ?_
  · exact Nat.zero_le _
  · exact ⟨⟨_, rfl, by rfl⟩, rfl, ⟨⟨_, rfl, by rfl⟩, rfl, trivial⟩⟩
  · exact trivial
  · intro i hinv
    have hi : i ≤ xs.length := hinv
    have hsb := sumF_le hok i hinv
    simp only [List.cons_append, List.nil_append]
    refine W_seq (fun K5 hK5 => ?_)
    refine W_region (WL_cons rfl (WX_q rfl rfl (q_cmp rfl rfl rfl rfl) (?_)))
    refine WL_nil (hK5 _ ?_)
    clear hK5 K5
    refine W_seq (fun K6 hK6 => ?_)
    refine W_cond rfl (fun h1 => ?_) (fun h1 => ?_)
    · try rw [h1]
      try simp only [decide_eq_true_eq, decide_eq_false_iff_not, beq_iff_eq, bne_iff_ne, ne_eq, Bool.not_eq_true', Bool.not_eq_false', beq_eq_false_iff_ne, bne_eq_false_iff_eq, Bool.not_eq_true, Bool.not_eq_false, Int.not_lt, Int.not_le, gt_iff_lt, ge_iff_le, Bool.and_eq_true, Bool.and_eq_false_iff, Bool.or_eq_true, Bool.or_eq_false_iff] at h1
      have ho := hok i (by omega)
      refine W_skip (hK6 _ ?_)
      clear hK6 K6
      refine W_seq (fun K7 hK7 => ?_)
      refine W_block ?_
      refine W_seq (fun K8 hK8 => ?_)
      refine W_region (WL_cons rfl (?_))
      refine WX_q rfl rfl (q_index_lst G rfl rfl rfl rfl (by omega) (getN (by omega))) ?_
      refine WL_cons rfl (WX_q rfl rfl (q_load_ept_struct G rfl rfl rfl rfl) (WL_cons rfl (WX_alloc_s G 1 rfl rfl rfl rfl rfl (WL_cons rfl (WX_store G rfl rfl rfl rfl rfl rfl rfl rfl rfl rfl rfl (?_))))))
      refine WL_nil (hK8 _ ?_)
      clear hK8 K8
      refine W_region (WL_cons rfl (WX_q rfl rfl (q_move rfl rfl) (WL_cons rfl (WX_q rfl rfl (q_field_ptr G rfl rfl rfl rfl) (WL_cons rfl (WX_q rfl rfl (q_load_box G rfl rfl rfl rfl rfl rfl rfl) (WL_cons rfl (?_))))))))
      first | refine WX_q rfl rfl (q_arith rfl rfl rfl rfl (by omega) (by omega)) ?_ | refine WX_q rfl rfl (q_wrap rfl rfl rfl rfl) ?_
      refine WL_cons rfl (WX_q rfl rfl (q_assign rfl rfl) (?_))
      refine WL_nil (hK7 _ ?_)
      clear hK7 K7
      refine W_region (WL_cons rfl (?_))
      first | refine WX_q rfl rfl (q_arith rfl rfl rfl rfl (by omega) (by omega)) ?_ | refine WX_q rfl rfl (q_wrap rfl rfl rfl rfl) ?_
      refine WL_cons rfl (WX_q rfl rfl (q_move rfl rfl) (?_))
      refine WL_nil ⟨(i + 1), ?_, ?_, ⟨⟨_, rfl, by (first | rfl | (rw [sumF_succ]; done))⟩, rfl, ⟨⟨_, rfl, by (first | rfl | (rw [sumF_succ]; done))⟩, rfl, trivial⟩⟩, trivial, rfl, rfl, rfl⟩
      · omega
      · omega
    · try rw [h1]
      try simp only [decide_eq_true_eq, decide_eq_false_iff_not, beq_iff_eq, bne_iff_ne, ne_eq, Bool.not_eq_true', Bool.not_eq_false', beq_eq_false_iff_ne, bne_eq_false_iff_eq, Bool.not_eq_true, Bool.not_eq_false, Int.not_lt, Int.not_le, gt_iff_lt, ge_iff_le, Bool.and_eq_true, Bool.and_eq_false_iff, Bool.or_eq_true, Bool.or_eq_false_iff] at h1
      refine W_exit (hK3 _ ?_)
      clear hK6 K6 hK3 K3
      refine W_seq (fun K9 hK9 => ?_)
      refine W_region (WL_cons rfl (WX_q rfl rfl (q_move rfl rfl) (WL_cons rfl (WX_q rfl rfl (q_assign rfl rfl) (?_)))))
      refine WL_nil (hK9 _ ?_)
      clear hK9 K9
      refine W_ret (fin_one rfl (rc_v ?_))
      all_goals (have e : i = xs.length := (by omega); subst e; rfl)

theorem c_spec_l24Sum (xs : List Setting) (hn : xs.length ≤ 1048576) (hok : ∀ i, i < xs.length → 0 ≤ (xs.getD i default).f ∧ (xs.getD i default).f ≤ 16) : Ctr Tryd.prog 55 [.lst 6 (xs.map encTc)] (.one (.v (.int .i64 (sumF xs xs.length)))) := by
  refine Ctr.of (n := 19) G Tryd.func55 rfl (by kernel_rfl) rfl rfl rfl (fun w0 => ?_)
  refine W_seq (fun K1 hK1 => ?_)
  refine W_region (WL_cons rfl (WX_q rfl rfl (q_assign rfl rfl) (?_)))
  refine WL_nil (hK1 _ ?_)
  clear hK1 K1
  refine W_seq (fun K2 hK2 => ?_)
  refine W_region (WL_cons rfl (WX_q rfl rfl (q_assign rfl rfl) (?_)))
  refine WL_nil (hK2 _ ?_)
  clear hK2 K2
  refine W_seq (fun K3 hK3 => ?_)
  refine W_seq (fun K4 hK4 => ?_)
  refine W_region (WL_cons rfl (WX_q rfl rfl (q_assign rfl rfl) (?_)))
  refine WL_nil (hK4 _ ?_)
  clear hK4 K4
  refine W_block ?_
  refine W_loopK [0] [] (fun (i : Nat) => [(3, .v (.int .i64 (sumF xs i))), (4, .v (.int .i64 (i : Int)))]) (fun (i : Nat) => []) (fun (i : Nat) => i ≤ xs.length) (fun (i : Nat) => xs.length - i) 0 rfl rfl ?_ ?_ ?_ ?_
  · exact Nat.zero_le _
  · exact ⟨⟨_, rfl, by rfl⟩, rfl, ⟨⟨_, rfl, by rfl⟩, rfl, trivial⟩⟩
  · exact trivial
  · intro i hinv
    have hi : i ≤ xs.length := hinv
    have hsb := sumF_le hok i hinv
    simp only [List.cons_append, List.nil_append]
    refine W_seq (fun K5 hK5 => ?_)
    refine W_seq (fun K6 hK6 => ?_)
    refine W_region (WL_cons rfl (WX_q rfl rfl (q_move rfl rfl) (WL_cons rfl (WX_q rfl rfl (q_move rfl rfl) (WL_cons rfl (?_))))))
    first | refine WX_q rfl rfl (q_len' G rfl rfl rfl rfl (List.length_map _)) ?_ | refine WX_q rfl rfl (q_len G rfl rfl rfl rfl) ?_
    refine WL_cons rfl (WX_q rfl rfl (q_cmp rfl rfl rfl rfl) (?_))
    refine WL_nil (hK6 _ ?_)
    clear hK6 K6
    refine W_cond rfl (fun h1 => ?_) (fun h1 => ?_)
    · try rw [h1]
      try simp only [decide_eq_true_eq, decide_eq_false_iff_not, beq_iff_eq, bne_iff_ne, ne_eq, Bool.not_eq_true', Bool.not_eq_false', beq_eq_false_iff_ne, bne_eq_false_iff_eq, Bool.not_eq_true, Bool.not_eq_false, Int.not_lt, Int.not_le, gt_iff_lt, ge_iff_le, Bool.and_eq_true, Bool.and_eq_false_iff, Bool.or_eq_true, Bool.or_eq_false_iff] at h1
      have ho := hok i (by omega)
      refine W_skip (hK5 _ ?_)
      clear hK5 K5
      refine W_seq (fun K7 hK7 => ?_)
      refine W_block ?_
      refine W_region (WL_cons rfl (WX_q rfl rfl (q_move rfl rfl) (WL_cons rfl (WX_q rfl rfl (q_move rfl rfl) (WL_cons rfl (WX_q rfl rfl (q_move rfl rfl) (WL_cons rfl (?_))))))))
      refine WX_q rfl rfl (q_index_lst G rfl rfl rfl rfl (by omega) (getN (by omega))) ?_
      refine WL_cons rfl (WX_q rfl rfl (q_field_ept G rfl rfl rfl rfl) (WL_cons rfl (WX_q rfl rfl (q_load_ept G rfl rfl rfl rfl rfl) (WL_cons rfl (?_)))))
      first | refine WX_q rfl rfl (q_arith rfl rfl rfl rfl (by omega) (by omega)) ?_ | refine WX_q rfl rfl (q_wrap rfl rfl rfl rfl) ?_
      refine WL_cons rfl (WX_q rfl rfl (q_assign rfl rfl) (?_))
      refine WL_nil (hK7 _ ?_)
      clear hK7 K7
      refine W_region (WL_cons rfl (WX_q rfl rfl (q_move rfl rfl) (WL_cons rfl (?_))))
      first | refine WX_q rfl rfl (q_arith rfl rfl rfl rfl (by omega) (by omega)) ?_ | refine WX_q rfl rfl (q_wrap rfl rfl rfl rfl) ?_
      refine WL_cons rfl (WX_q rfl rfl (q_assign rfl rfl) (?_))
      refine WL_nil ⟨(i + 1), ?_, ?_, ⟨⟨_, rfl, by (first | rfl | (rw [sumF_succ]; done))⟩, rfl, ⟨⟨_, rfl, by (first | rfl | (rw [sumF_succ]; done))⟩, rfl, trivial⟩⟩, trivial, rfl, rfl, rfl⟩
      · omega
      · omega
    · try rw [h1]
      try simp only [decide_eq_true_eq, decide_eq_false_iff_not, beq_iff_eq, bne_iff_ne, ne_eq, Bool.not_eq_true', Bool.not_eq_false', beq_eq_false_iff_ne, bne_eq_false_iff_eq, Bool.not_eq_true, Bool.not_eq_false, Int.not_lt, Int.not_le, gt_iff_lt, ge_iff_le, Bool.and_eq_true, Bool.and_eq_false_iff, Bool.or_eq_true, Bool.or_eq_false_iff] at h1
      refine W_exit (hK3 _ ?_)
      clear hK5 K5 hK3 K3
      refine W_seq (fun K8 hK8 => ?_)
      refine W_region (WL_cons rfl (WX_q rfl rfl (q_move rfl rfl) (WL_cons rfl (WX_q rfl rfl (q_assign rfl rfl) (?_)))))
      refine WL_nil (hK8 _ ?_)
      clear hK8 K8
      refine W_ret (fin_one rfl (rc_v ?_))
      all_goals (have e : i = xs.length := (by omega); subst e; rfl)

theorem c_spec_l24Good (xs : List Setting) (hn : xs.length ≤ 1048576) (hz : ∀ i, i < xs.length → (xs.getD i default).n.size ≤ 9223372036854775807) : Ctr Tryd.prog 34 [.lst 6 (xs.map encTc)] (.one (.v (.bool (goodT xs)))) := by
  refine Ctr.of (n := 54) G Tryd.func34 rfl (by kernel_rfl) rfl rfl rfl (fun w0 => ?_)
  refine W_seq (fun K1 hK1 => ?_)
  refine W_region (WL_cons rfl (WX_q rfl rfl (q_assign rfl rfl) (?_)))
  refine WL_nil (hK1 _ ?_)
  clear hK1 K1
  refine W_seq (fun K2 hK2 => ?_)
  refine W_seq (fun K3 hK3 => ?_)
  refine W_region (WL_cons rfl (WX_q rfl rfl (q_assign rfl rfl) (?_)))
  refine WL_nil (hK3 _ ?_)
  clear hK3 K3
  refine W_block ?_
  refine W_loopK [0] [] (fun (i : Nat) => [(3, .v (.int .i64 (i : Int)))]) (fun (i : Nat) => []) (fun (i : Nat) => i ≤ xs.length ∧ ∀ j, j < i → oneT xs j = true) (fun (i : Nat) => xs.length - i) 0 rfl rfl ?_ ?_ ?_ ?_
  · exact ⟨Nat.zero_le _, fun j hj => by omega⟩
  · exact ⟨⟨_, rfl, by (first | rfl | (simp; done) | (simp; omega))⟩, rfl, trivial⟩
  · exact trivial
  · intro i hinv
    have ht : ((i : Int) - 1).toNat = i - 1 := by omega
    simp only [List.cons_append, List.nil_append]
    refine W_seq (fun K4 hK4 => ?_)
    refine W_seq (fun K5 hK5 => ?_)
    refine W_region (WL_cons rfl (WX_q rfl rfl (q_move rfl rfl) (WL_cons rfl (WX_q rfl rfl (q_move rfl rfl) (WL_cons rfl (?_))))))
    first | refine WX_q rfl rfl (q_len' G rfl rfl rfl rfl (List.length_map _)) ?_ | refine WX_q rfl rfl (q_len G rfl rfl rfl rfl) ?_
    refine WL_cons rfl (WX_q rfl rfl (q_cmp rfl rfl rfl rfl) (?_))
    refine WL_nil (hK5 _ ?_)
    clear hK5 K5
    refine W_cond rfl (fun h1 => ?_) (fun h1 => ?_)
    · try rw [h1]
      try simp only [decide_eq_true_eq, decide_eq_false_iff_not, beq_iff_eq, bne_iff_ne, ne_eq, Bool.not_eq_true', Bool.not_eq_false', beq_eq_false_iff_ne, bne_eq_false_iff_eq, Bool.not_eq_true, Bool.not_eq_false, Int.not_lt, Int.not_le, gt_iff_lt, ge_iff_le, Bool.and_eq_true, Bool.and_eq_false_iff, Bool.or_eq_true, Bool.or_eq_false_iff] at h1
      refine W_skip (hK4 _ ?_)
      clear hK4 K4
      refine W_seq (fun K6 hK6 => ?_)
      refine W_block ?_
      refine W_seq (fun K7 hK7 => ?_)
      refine W_seq (fun K8 hK8 => ?_)
      refine W_draws mixed (by kernel_rfl) (QL_cons rfl (QX_q rfl rfl (q_move rfl rfl) (QL_cons rfl (QX_q rfl rfl (q_move rfl rfl) (QL_cons rfl (?_))))))
      first | refine QX_q rfl rfl (q_index_lst G rfl rfl rfl rfl (by omega) (getN (by omega))) ?_ | refine QX_q rfl rfl (q_index_lst G rfl rfl rfl rfl (by omega) (getNI (by omega) (by omega))) ?_
      refine QL_cons rfl (QX_q rfl rfl (q_load_ept_struct G rfl rfl rfl rfl) (QL_cons rfl (?_)))
      refine QX_q rfl rfl (q_call rfl (ArgsOK.of rfl) (c_spec_l24One _ (hz i (by omega))) rfl) ?_
      refine QL_cons rfl (QX_q rfl rfl (q_not rfl rfl) (QL_cons rfl (QX_q rfl rfl (q_move rfl rfl) (QL_part rfl rfl rfl (fun h2 => ?_) (fun h2 => ?_)))))
      · try rw [h2]
        try simp only [decide_eq_true_eq, decide_eq_false_iff_not, beq_iff_eq, bne_iff_ne, ne_eq, Bool.not_eq_true', Bool.not_eq_false', beq_eq_false_iff_ne, bne_eq_false_iff_eq, Bool.not_eq_true, Bool.not_eq_false, Int.not_lt, Int.not_le, gt_iff_lt, ge_iff_le, Bool.and_eq_true, Bool.and_eq_false_iff, Bool.or_eq_true, Bool.or_eq_false_iff] at h2
        refine QL_skip rfl rfl rfl rfl rfl rfl (QL_skip rfl rfl rfl rfl rfl rfl (QL_skip rfl rfl rfl rfl rfl rfl (QL_skip_u rfl rfl rfl rfl rfl (QL_skip_u rfl rfl rfl rfl rfl (QL_skip_u rfl rfl rfl rfl rfl (QL_skip_u rfl rfl rfl rfl rfl (QL_skip_u rfl rfl rfl rfl rfl (QL_skip_u rfl rfl rfl rfl rfl (QL_skip_u rfl rfl rfl rfl rfl (QL_skip_u rfl rfl rfl rfl rfl (QL_skip_u rfl rfl rfl rfl rfl (QL_skip_u rfl rfl rfl rfl rfl (QL_skip_u rfl rfl rfl rfl rfl (QL_skip_u rfl rfl rfl rfl rfl (QL_skip rfl rfl rfl rfl rfl rfl (QL_cons rfl (QX_q rfl rfl (q_pick_t rfl rfl rfl) (?_))))))))))))))))))
        refine QL_nil (hK8 _ ?_)
        clear hK8 K8
        refine W_true rfl ?_
        refine W_seq (fun K9 hK9 => ?_)
        refine W_region (WL_cons rfl (WX_q rfl rfl (q_assign rfl rfl) (?_)))
        refine WL_nil (hK9 _ ?_)
        clear hK9 K9
        refine W_ret (fin_one rfl (rc_v ?_))
        all_goals clear hK7 K7 hK6 K6 hK2 K2
        all_goals (first | (have e : allN xs.length (oneT xs) = false := allN_f (i := i) (by rw [oneT, anyN_t (f := sameN xs i) (i := k) (by simp only [sameN, beq_iff_eq]; assumption) (by omega)]; simp) (by omega); simp [goodT, e]; done) | (have e : allN xs.length (oneT xs) = true := allN_t hinv.2 (by omega); simp [goodT, e]; first | done | omega) | (have e : allN xs.length (oneT xs) = false := allN_f (i := i) (by first | (simp_all [oneT] <;> omega) | (cases hz : oneT xs i <;> simp_all [oneT] <;> omega)) (by omega); simp [goodT, e]; done))
      · try rw [h2]
        try simp only [decide_eq_true_eq, decide_eq_false_iff_not, beq_iff_eq, bne_iff_ne, ne_eq, Bool.not_eq_true', Bool.not_eq_false', beq_eq_false_iff_ne, bne_eq_false_iff_eq, Bool.not_eq_true, Bool.not_eq_false, Int.not_lt, Int.not_le, gt_iff_lt, ge_iff_le, Bool.and_eq_true, Bool.and_eq_false_iff, Bool.or_eq_true, Bool.or_eq_false_iff] at h2
        refine QL_run rfl rfl rfl (QX_q rfl rfl (q_move rfl rfl) (QL_run rfl rfl rfl (QX_q rfl rfl (q_cmp rfl rfl rfl rfl) (QL_run rfl rfl rfl (QX_q rfl rfl (q_move rfl rfl) (QL_part rfl rfl rfl (fun h3 => ?_) (fun h3 => ?_)))))))
        · try rw [h3]
          try simp only [decide_eq_true_eq, decide_eq_false_iff_not, beq_iff_eq, bne_iff_ne, ne_eq, Bool.not_eq_true', Bool.not_eq_false', beq_eq_false_iff_ne, bne_eq_false_iff_eq, Bool.not_eq_true, Bool.not_eq_false, Int.not_lt, Int.not_le, gt_iff_lt, ge_iff_le, Bool.and_eq_true, Bool.and_eq_false_iff, Bool.or_eq_true, Bool.or_eq_false_iff] at h3
          refine QL_run rfl rfl rfl (QX_q rfl rfl (q_move rfl rfl) (QL_run rfl rfl rfl (QX_q rfl rfl (q_move rfl rfl) (QL_run rfl rfl rfl (?_)))))
          first | refine QX_q rfl rfl (q_arith rfl rfl rfl rfl (by omega) (by omega)) ?_ | refine QX_q rfl rfl (q_wrap rfl rfl rfl rfl) ?_
          refine QL_run rfl rfl rfl (?_)
          first | refine QX_q rfl rfl (q_index_lst G rfl rfl rfl rfl (by omega) (getN (by omega))) ?_ | refine QX_q rfl rfl (q_index_lst G rfl rfl rfl rfl (by omega) (getNI (by omega) (by omega))) ?_
          refine QL_run rfl rfl rfl (QX_q rfl rfl (q_field_ept G rfl rfl rfl rfl) (QL_run rfl rfl rfl (QX_q rfl rfl (q_load_ept G rfl rfl rfl rfl rfl) (QL_run rfl rfl rfl (QX_q rfl rfl (q_move rfl rfl) (QL_run rfl rfl rfl (QX_q rfl rfl (q_move rfl rfl) (QL_run rfl rfl rfl (?_)))))))))
          first | refine QX_q rfl rfl (q_index_lst G rfl rfl rfl rfl (by omega) (getN (by omega))) ?_ | refine QX_q rfl rfl (q_index_lst G rfl rfl rfl rfl (by omega) (getNI (by omega) (by omega))) ?_
          refine QL_run rfl rfl rfl (QX_q rfl rfl (q_field_ept G rfl rfl rfl rfl) (QL_run rfl rfl rfl (QX_q rfl rfl (q_load_ept G rfl rfl rfl rfl rfl) (QL_run rfl rfl rfl (QX_q rfl rfl (q_cmp rfl rfl rfl rfl) (QL_run rfl rfl rfl (QX_q rfl rfl (q_pick_t rfl rfl rfl) (QL_cons rfl (QX_q rfl rfl (q_pick_f rfl rfl rfl) (?_))))))))))
          refine QL_nil (hK8 _ ?_)
          clear hK8 K8
          refine W_cond rfl (fun h4 => ?_) (fun h4 => ?_)
          · try rw [h4]
            try simp only [decide_eq_true_eq, decide_eq_false_iff_not, beq_iff_eq, bne_iff_ne, ne_eq, Bool.not_eq_true', Bool.not_eq_false', beq_eq_false_iff_ne, bne_eq_false_iff_eq, Bool.not_eq_true, Bool.not_eq_false, Int.not_lt, Int.not_le, gt_iff_lt, ge_iff_le, Bool.and_eq_true, Bool.and_eq_false_iff, Bool.or_eq_true, Bool.or_eq_false_iff] at h4
            refine W_seq (fun K10 hK10 => ?_)
            refine W_region (WL_cons rfl (WX_q rfl rfl (q_assign rfl rfl) (?_)))
            refine WL_nil (hK10 _ ?_)
            clear hK10 K10
            refine W_ret (fin_one rfl (rc_v ?_))
            all_goals clear hK7 K7 hK6 K6 hK2 K2
            all_goals (first | (have e : allN xs.length (oneT xs) = false := allN_f (i := i) (by rw [oneT, anyN_t (f := sameN xs i) (i := k) (by simp only [sameN, beq_iff_eq]; assumption) (by omega)]; simp) (by omega); simp [goodT, e]; done) | (have e : allN xs.length (oneT xs) = true := allN_t hinv.2 (by omega); simp [goodT, e]; first | done | omega) | (have e : allN xs.length (oneT xs) = false := allN_f (i := i) (by first | (simp_all [oneT] <;> omega) | (cases hz : oneT xs i <;> simp_all [oneT] <;> omega)) (by omega); simp [goodT, e]; done))
          · try rw [h4]
            try simp only [decide_eq_true_eq, decide_eq_false_iff_not, beq_iff_eq, bne_iff_ne, ne_eq, Bool.not_eq_true', Bool.not_eq_false', beq_eq_false_iff_ne, bne_eq_false_iff_eq, Bool.not_eq_true, Bool.not_eq_false, Int.not_lt, Int.not_le, gt_iff_lt, ge_iff_le, Bool.and_eq_true, Bool.and_eq_false_iff, Bool.or_eq_true, Bool.or_eq_false_iff] at h4
            refine W_skip (hK7 _ ?_)
            clear hK7 K7
            refine W_seq (fun K11 hK11 => ?_)
            refine W_region (WL_cons rfl (WX_q rfl rfl (q_assign rfl rfl) (?_)))
            refine WL_nil (hK11 _ ?_)
            clear hK11 K11
            refine W_block ?_
            refine W_loopK [0, 3] [] (fun (k : Nat) => [(4, .v (.int .i64 (k : Int)))]) (fun (k : Nat) => []) (fun (k : Nat) => k ≤ i ∧ ∀ j, j < k → sameN xs i j = false) (fun (k : Nat) => i - k) 0 rfl rfl ?_ ?_ ?_ ?_
            · exact ⟨Nat.zero_le _, fun j hj => by omega⟩
            · exact ⟨⟨_, rfl, by (first | rfl | (simp; done) | (simp; omega))⟩, rfl, trivial⟩
            · exact trivial
            · intro k hk
              simp only [List.cons_append, List.nil_append]
              refine W_seq (fun K12 hK12 => ?_)
              refine W_seq (fun K13 hK13 => ?_)
              refine W_region (WL_cons rfl (WX_q rfl rfl (q_move rfl rfl) (WL_cons rfl (WX_q rfl rfl (q_move rfl rfl) (WL_cons rfl (WX_q rfl rfl (q_cmp rfl rfl rfl rfl) (?_)))))))
              refine WL_nil (hK13 _ ?_)
              clear hK13 K13
              refine W_cond rfl (fun h5 => ?_) (fun h5 => ?_)
              · try rw [h5]
                try simp only [decide_eq_true_eq, decide_eq_false_iff_not, beq_iff_eq, bne_iff_ne, ne_eq, Bool.not_eq_true', Bool.not_eq_false', beq_eq_false_iff_ne, bne_eq_false_iff_eq, Bool.not_eq_true, Bool.not_eq_false, Int.not_lt, Int.not_le, gt_iff_lt, ge_iff_le, Bool.and_eq_true, Bool.and_eq_false_iff, Bool.or_eq_true, Bool.or_eq_false_iff] at h5
                refine W_skip (hK12 _ ?_)
                clear hK12 K12
                refine W_seq (fun K14 hK14 => ?_)
                refine W_block ?_
                refine W_seq (fun K15 hK15 => ?_)
                refine W_draws mixed (by kernel_rfl) (QL_cons rfl (QX_q rfl rfl (q_move rfl rfl) (QL_cons rfl (QX_q rfl rfl (q_move rfl rfl) (QL_cons rfl (?_))))))
                first | refine QX_q rfl rfl (q_index_lst G rfl rfl rfl rfl (by omega) (getN (by omega))) ?_ | refine QX_q rfl rfl (q_index_lst G rfl rfl rfl rfl (by omega) (getNI (by omega) (by omega))) ?_
                refine QL_cons rfl (QX_q rfl rfl (q_field_ept G rfl rfl rfl rfl) (QL_cons rfl (QX_q rfl rfl (q_load_ept G rfl rfl rfl rfl rfl) (QL_cons rfl (QX_q rfl rfl (q_move rfl rfl) (QL_cons rfl (QX_q rfl rfl (q_move rfl rfl) (QL_cons rfl (?_)))))))))
                first | refine QX_q rfl rfl (q_index_lst G rfl rfl rfl rfl (by omega) (getN (by omega))) ?_ | refine QX_q rfl rfl (q_index_lst G rfl rfl rfl rfl (by omega) (getNI (by omega) (by omega))) ?_
                refine QL_cons rfl (QX_q rfl rfl (q_field_ept G rfl rfl rfl rfl) (QL_cons rfl (QX_q rfl rfl (q_load_ept G rfl rfl rfl rfl rfl) (QL_cons rfl (QX_q rfl rfl (q_cmp_str rfl rfl rfl rfl) (?_))))))
                refine QL_nil (hK15 _ ?_)
                clear hK15 K15
                refine W_cond rfl (fun h6 => ?_) (fun h6 => ?_)
                · try rw [h6]
                  try simp only [decide_eq_true_eq, decide_eq_false_iff_not, beq_iff_eq, bne_iff_ne, ne_eq, Bool.not_eq_true', Bool.not_eq_false', beq_eq_false_iff_ne, bne_eq_false_iff_eq, Bool.not_eq_true, Bool.not_eq_false, Int.not_lt, Int.not_le, gt_iff_lt, ge_iff_le, Bool.and_eq_true, Bool.and_eq_false_iff, Bool.or_eq_true, Bool.or_eq_false_iff] at h6
                  refine W_seq (fun K16 hK16 => ?_)
                  refine W_region (WL_cons rfl (WX_q rfl rfl (q_assign rfl rfl) (?_)))
                  refine WL_nil (hK16 _ ?_)
                  clear hK16 K16
                  refine W_ret (fin_one rfl (rc_v ?_))
                  all_goals clear hK14 K14 hK6 K6 hK2 K2
                  all_goals (first | (have e : allN xs.length (oneT xs) = false := allN_f (i := i) (by rw [oneT, anyN_t (f := sameN xs i) (i := k) (by simp only [sameN, beq_iff_eq]; assumption) (by omega)]; simp) (by omega); simp [goodT, e]; done) | (have e : allN xs.length (oneT xs) = true := allN_t hinv.2 (by omega); simp [goodT, e]; first | done | omega) | (have e : allN xs.length (oneT xs) = false := allN_f (i := i) (by first | (simp_all [oneT] <;> omega) | (cases hz : oneT xs i <;> simp_all [oneT] <;> omega)) (by omega); simp [goodT, e]; done))
                · try rw [h6]
                  try simp only [decide_eq_true_eq, decide_eq_false_iff_not, beq_iff_eq, bne_iff_ne, ne_eq, Bool.not_eq_true', Bool.not_eq_false', beq_eq_false_iff_ne, bne_eq_false_iff_eq, Bool.not_eq_true, Bool.not_eq_false, Int.not_lt, Int.not_le, gt_iff_lt, ge_iff_le, Bool.and_eq_true, Bool.and_eq_false_iff, Bool.or_eq_true, Bool.or_eq_false_iff] at h6
                  refine W_skip (hK14 _ ?_)
                  clear hK14 K14
                  refine W_region (WL_cons rfl (WX_q rfl rfl (q_move rfl rfl) (WL_cons rfl (?_))))
                  first | refine WX_q rfl rfl (q_arith rfl rfl rfl rfl (by omega) (by omega)) ?_ | refine WX_q rfl rfl (q_wrap rfl rfl rfl rfl) ?_
                  refine WL_cons rfl (WX_q rfl rfl (q_assign rfl rfl) (?_))
                  refine WL_nil ⟨(k + 1), ?_, ?_, ⟨⟨_, rfl, by rfl⟩, rfl, trivial⟩, trivial, rfl, rfl, rfl⟩
                  · exact ⟨by omega, upto_succ hk.2 (by simp only [sameN, beq_eq_false_iff_ne, ne_eq]; assumption)⟩
                  · omega
              · try rw [h5]
                try simp only [decide_eq_true_eq, decide_eq_false_iff_not, beq_iff_eq, bne_iff_ne, ne_eq, Bool.not_eq_true', Bool.not_eq_false', beq_eq_false_iff_ne, bne_eq_false_iff_eq, Bool.not_eq_true, Bool.not_eq_false, Int.not_lt, Int.not_le, gt_iff_lt, ge_iff_le, Bool.and_eq_true, Bool.and_eq_false_iff, Bool.or_eq_true, Bool.or_eq_false_iff] at h5
                refine W_exit (hK6 _ ?_)
                clear hK12 K12 hK6 K6
                refine W_region (WL_cons rfl (WX_q rfl rfl (q_move rfl rfl) (WL_cons rfl (?_))))
                first | refine WX_q rfl rfl (q_arith rfl rfl rfl rfl (by omega) (by omega)) ?_ | refine WX_q rfl rfl (q_wrap rfl rfl rfl rfl) ?_
                refine WL_cons rfl (WX_q rfl rfl (q_assign rfl rfl) (?_))
                refine WL_nil ⟨(i + 1), ?_, ?_, ⟨⟨_, rfl, by rfl⟩, rfl, trivial⟩, trivial, rfl, rfl, rfl⟩
                · refine ⟨by omega, upto_succ hinv.2 ?_⟩; have hany : anyN i (sameN xs i) = false := anyN_f hk.2 (by omega); simp_all [oneT] <;> omega
                · omega
        · try rw [h3]
          try simp only [decide_eq_true_eq, decide_eq_false_iff_not, beq_iff_eq, bne_iff_ne, ne_eq, Bool.not_eq_true', Bool.not_eq_false', beq_eq_false_iff_ne, bne_eq_false_iff_eq, Bool.not_eq_true, Bool.not_eq_false, Int.not_lt, Int.not_le, gt_iff_lt, ge_iff_le, Bool.and_eq_true, Bool.and_eq_false_iff, Bool.or_eq_true, Bool.or_eq_false_iff] at h3
          refine QL_skip rfl rfl rfl rfl rfl rfl (QL_skip rfl rfl rfl rfl rfl rfl (QL_skip rfl rfl rfl rfl rfl rfl (QL_skip rfl rfl rfl rfl rfl rfl (QL_skip rfl rfl rfl rfl rfl rfl (QL_skip rfl rfl rfl rfl rfl rfl (QL_skip rfl rfl rfl rfl rfl rfl (QL_skip rfl rfl rfl rfl rfl rfl (QL_skip rfl rfl rfl rfl rfl rfl (QL_skip rfl rfl rfl rfl rfl rfl (QL_skip rfl rfl rfl rfl rfl rfl (QL_skip rfl rfl rfl rfl rfl rfl (QL_run rfl rfl rfl (QX_q rfl rfl (q_pick_f rfl rfl rfl) (QL_cons rfl (QX_q rfl rfl (q_pick_f rfl rfl rfl) (?_))))))))))))))))
          refine QL_nil (hK8 _ ?_)
          clear hK8 K8
          refine W_false rfl ?_
          refine W_skip (hK7 _ ?_)
          clear hK7 K7
          refine W_seq (fun K17 hK17 => ?_)
          refine W_region (WL_cons rfl (WX_q rfl rfl (q_assign rfl rfl) (?_)))
          refine WL_nil (hK17 _ ?_)
          clear hK17 K17
          refine W_block ?_
          refine W_loopK [0, 3] [] (fun (k : Nat) => [(4, .v (.int .i64 (k : Int)))]) (fun (k : Nat) => []) (fun (k : Nat) => k ≤ i ∧ ∀ j, j < k → sameN xs i j = false) (fun (k : Nat) => i - k) 0 rfl rfl ?_ ?_ ?_ ?_
          · exact ⟨Nat.zero_le _, fun j hj => by omega⟩
          · exact ⟨⟨_, rfl, by (first | rfl | (simp; done) | (simp; omega))⟩, rfl, trivial⟩
          · exact trivial
          · intro k hk
            simp only [List.cons_append, List.nil_append]
            refine W_seq (fun K18 hK18 => ?_)
            refine W_seq (fun K19 hK19 => ?_)
            refine W_region (WL_cons rfl (WX_q rfl rfl (q_move rfl rfl) (WL_cons rfl (WX_q rfl rfl (q_move rfl rfl) (WL_cons rfl (WX_q rfl rfl (q_cmp rfl rfl rfl rfl) (?_)))))))
            refine WL_nil (hK19 _ ?_)
            clear hK19 K19
            refine W_cond rfl (fun h7 => ?_) (fun h7 => ?_)
            · try rw [h7]
              try simp only [decide_eq_true_eq, decide_eq_false_iff_not, beq_iff_eq, bne_iff_ne, ne_eq, Bool.not_eq_true', Bool.not_eq_false', beq_eq_false_iff_ne, bne_eq_false_iff_eq, Bool.not_eq_true, Bool.not_eq_false, Int.not_lt, Int.not_le, gt_iff_lt, ge_iff_le, Bool.and_eq_true, Bool.and_eq_false_iff, Bool.or_eq_true, Bool.or_eq_false_iff] at h7
              refine W_skip (hK18 _ ?_)
              clear hK18 K18
              refine W_seq (fun K20 hK20 => ?_)
              refine W_block ?_
              refine W_seq (fun K21 hK21 => ?_)
              refine W_draws mixed (by kernel_rfl) (QL_cons rfl (QX_q rfl rfl (q_move rfl rfl) (QL_cons rfl (QX_q rfl rfl (q_move rfl rfl) (QL_cons rfl (?_))))))
              first | refine QX_q rfl rfl (q_index_lst G rfl rfl rfl rfl (by omega) (getN (by omega))) ?_ | refine QX_q rfl rfl (q_index_lst G rfl rfl rfl rfl (by omega) (getNI (by omega) (by omega))) ?_
              refine QL_cons rfl (QX_q rfl rfl (q_field_ept G rfl rfl rfl rfl) (QL_cons rfl (QX_q rfl rfl (q_load_ept G rfl rfl rfl rfl rfl) (QL_cons rfl (QX_q rfl rfl (q_move rfl rfl) (QL_cons rfl (QX_q rfl rfl (q_move rfl rfl) (QL_cons rfl (?_)))))))))
              first | refine QX_q rfl rfl (q_index_lst G rfl rfl rfl rfl (by omega) (getN (by omega))) ?_ | refine QX_q rfl rfl (q_index_lst G rfl rfl rfl rfl (by omega) (getNI (by omega) (by omega))) ?_
              refine QL_cons rfl (QX_q rfl rfl (q_field_ept G rfl rfl rfl rfl) (QL_cons rfl (QX_q rfl rfl (q_load_ept G rfl rfl rfl rfl rfl) (QL_cons rfl (QX_q rfl rfl (q_cmp_str rfl rfl rfl rfl) (?_))))))
              refine QL_nil (hK21 _ ?_)
              clear hK21 K21
              refine W_cond rfl (fun h8 => ?_) (fun h8 => ?_)
              · try rw [h8]
                try simp only [decide_eq_true_eq, decide_eq_false_iff_not, beq_iff_eq, bne_iff_ne, ne_eq, Bool.not_eq_true', Bool.not_eq_false', beq_eq_false_iff_ne, bne_eq_false_iff_eq, Bool.not_eq_true, Bool.not_eq_false, Int.not_lt, Int.not_le, gt_iff_lt, ge_iff_le, Bool.and_eq_true, Bool.and_eq_false_iff, Bool.or_eq_true, Bool.or_eq_false_iff] at h8
                refine W_seq (fun K22 hK22 => ?_)
                refine W_region (WL_cons rfl (WX_q rfl rfl (q_assign rfl rfl) (?_)))
                refine WL_nil (hK22 _ ?_)
                clear hK22 K22
                refine W_ret (fin_one rfl (rc_v ?_))
                all_goals clear hK20 K20 hK6 K6 hK2 K2
                all_goals (first | (have e : allN xs.length (oneT xs) = false := allN_f (i := i) (by rw [oneT, anyN_t (f := sameN xs i) (i := k) (by simp only [sameN, beq_iff_eq]; assumption) (by omega)]; simp) (by omega); simp [goodT, e]; done) | (have e : allN xs.length (oneT xs) = true := allN_t hinv.2 (by omega); simp [goodT, e]; first | done | omega) | (have e : allN xs.length (oneT xs) = false := allN_f (i := i) (by first | (simp_all [oneT] <;> omega) | (cases hz : oneT xs i <;> simp_all [oneT] <;> omega)) (by omega); simp [goodT, e]; done))
              · try rw [h8]
                try simp only [decide_eq_true_eq, decide_eq_false_iff_not, beq_iff_eq, bne_iff_ne, ne_eq, Bool.not_eq_true', Bool.not_eq_false', beq_eq_false_iff_ne, bne_eq_false_iff_eq, Bool.not_eq_true, Bool.not_eq_false, Int.not_lt, Int.not_le, gt_iff_lt, ge_iff_le, Bool.and_eq_true, Bool.and_eq_false_iff, Bool.or_eq_true, Bool.or_eq_false_iff] at h8
                refine W_skip (hK20 _ ?_)
                clear hK20 K20
                refine W_region (WL_cons rfl (WX_q rfl rfl (q_move rfl rfl) (WL_cons rfl (?_))))
                first | refine WX_q rfl rfl (q_arith rfl rfl rfl rfl (by omega) (by omega)) ?_ | refine WX_q rfl rfl (q_wrap rfl rfl rfl rfl) ?_
                refine WL_cons rfl (WX_q rfl rfl (q_assign rfl rfl) (?_))
                refine WL_nil ⟨(k + 1), ?_, ?_, ⟨⟨_, rfl, by rfl⟩, rfl, trivial⟩, trivial, rfl, rfl, rfl⟩
                · exact ⟨by omega, upto_succ hk.2 (by simp only [sameN, beq_eq_false_iff_ne, ne_eq]; assumption)⟩
                · omega
            · try rw [h7]
              try simp only [decide_eq_true_eq, decide_eq_false_iff_not, beq_iff_eq, bne_iff_ne, ne_eq, Bool.not_eq_true', Bool.not_eq_false', beq_eq_false_iff_ne, bne_eq_false_iff_eq, Bool.not_eq_true, Bool.not_eq_false, Int.not_lt, Int.not_le, gt_iff_lt, ge_iff_le, Bool.and_eq_true, Bool.and_eq_false_iff, Bool.or_eq_true, Bool.or_eq_false_iff] at h7
              refine W_exit (hK6 _ ?_)
              clear hK18 K18 hK6 K6
              refine W_region (WL_cons rfl (WX_q rfl rfl (q_move rfl rfl) (WL_cons rfl (?_))))
              first | refine WX_q rfl rfl (q_arith rfl rfl rfl rfl (by omega) (by omega)) ?_ | refine WX_q rfl rfl (q_wrap rfl rfl rfl rfl) ?_
              refine WL_cons rfl (WX_q rfl rfl (q_assign rfl rfl) (?_))
              refine WL_nil ⟨(i + 1), ?_, ?_, ⟨⟨_, rfl, by rfl⟩, rfl, trivial⟩, trivial, rfl, rfl, rfl⟩
              · refine ⟨by omega, upto_succ hinv.2 ?_⟩; have hany : anyN i (sameN xs i) = false := anyN_f hk.2 (by omega); simp_all [oneT] <;> omega
              · omega
    · try rw [h1]
      try simp only [decide_eq_true_eq, decide_eq_false_iff_not, beq_iff_eq, bne_iff_ne, ne_eq, Bool.not_eq_true', Bool.not_eq_false', beq_eq_false_iff_ne, bne_eq_false_iff_eq, Bool.not_eq_true, Bool.not_eq_false, Int.not_lt, Int.not_le, gt_iff_lt, ge_iff_le, Bool.and_eq_true, Bool.and_eq_false_iff, Bool.or_eq_true, Bool.or_eq_false_iff] at h1
      refine W_exit (hK2 _ ?_)
      clear hK4 K4 hK2 K2
      refine W_seq (fun K23 hK23 => ?_)
      refine W_region (WL_cons rfl (WX_q rfl rfl (q_move rfl rfl) (WL_cons rfl (?_))))
      refine WX_q rfl rfl (q_call rfl (ArgsOK.of rfl) (c_spec_l24Sum xs hn (by have e : i = xs.length := (by omega); subst e; exact oneT_ok hinv.2)) rfl) ?_
      refine WL_cons rfl (WX_q rfl rfl (q_cmp rfl rfl rfl rfl) (WL_cons rfl (WX_q rfl rfl (q_assign rfl rfl) (?_))))
      refine WL_nil (hK23 _ ?_)
      clear hK23 K23
      refine W_ret (fin_one rfl (rc_v ?_))
      all_goals (first | (have e : allN xs.length (oneT xs) = false := allN_f (i := i) (by rw [oneT, anyN_t (f := sameN xs i) (i := k) (by simp only [sameN, beq_iff_eq]; assumption) (by omega)]; simp) (by omega); simp [goodT, e]; done) | (have e : allN xs.length (oneT xs) = true := allN_t hinv.2 (by omega); simp [goodT, e]; first | done | omega) | (have e : allN xs.length (oneT xs) = false := allN_f (i := i) (by first | (simp_all [oneT] <;> omega) | (cases hz : oneT xs i <;> simp_all [oneT] <;> omega)) (by omega); simp [goodT, e]; done))

theorem c_impl_AreSettings (xs : List Setting) (hn : xs.length ≤ 1048576) (hz : ∀ i, i < xs.length → (xs.getD i default).n.size ≤ 9223372036854775807) : Ctr Tryd.prog 35 [.lst 6 (xs.map encTc)] (.one (.v (.bool (goodT xs)))) := by
  refine Ctr.of (n := 41) G Tryd.func35 rfl (by kernel_rfl) rfl rfl rfl (fun w0 => ?_)
  refine W_seq (fun K1 hK1 => ?_)
  refine W_region (WL_cons rfl (WX_q rfl rfl (q_assign rfl rfl) (?_)))
  refine WL_nil (hK1 _ ?_)
  clear hK1 K1
  refine W_seq (fun K2 hK2 => ?_)
  refine W_seq (fun K3 hK3 => ?_)
  refine W_region (WL_cons rfl (WX_q rfl rfl (q_move rfl rfl) (WL_cons rfl (?_))))
  first | refine WX_q rfl rfl (q_len' G rfl rfl rfl rfl (List.length_map _)) ?_ | refine WX_q rfl rfl (q_len G rfl rfl rfl rfl) ?_
  refine WL_cons rfl (WX_q rfl rfl (q_move rfl rfl) (?_))
  refine WL_nil (hK3 _ ?_)
  clear hK3 K3
  refine W_block ?_
  refine W_loopK [0, 5, 6] [] (fun (i : Nat) => [(7, .v (.int .i64 (i : Int)))]) (fun (i : Nat) => []) (fun (i : Nat) => i ≤ xs.length ∧ ∀ j, j < i → oneT xs j = true) (fun (i : Nat) => xs.length - i) 0 rfl rfl ?_ ?_ ?_ ?_
  · exact ⟨Nat.zero_le _, fun j hj => by omega⟩
  · exact ⟨⟨_, rfl, by (first | rfl | (simp; done) | (simp; omega))⟩, rfl, trivial⟩
  · exact trivial
  · intro i hinv
    have ht : ((i : Int) - 1).toNat = i - 1 := by omega
    simp only [List.cons_append, List.nil_append]
    refine W_seq (fun K4 hK4 => ?_)
    refine W_region (WL_cons rfl (WX_q rfl rfl (q_cmp rfl rfl rfl rfl) (?_)))
    refine WL_nil (hK4 _ ?_)
    clear hK4 K4
    refine W_seq (fun K5 hK5 => ?_)
    refine W_cond rfl (fun h1 => ?_) (fun h1 => ?_)
    · try rw [h1]
      try simp only [decide_eq_true_eq, decide_eq_false_iff_not, beq_iff_eq, bne_iff_ne, ne_eq, Bool.not_eq_true', Bool.not_eq_false', beq_eq_false_iff_ne, bne_eq_false_iff_eq, Bool.not_eq_true, Bool.not_eq_false, Int.not_lt, Int.not_le, gt_iff_lt, ge_iff_le, Bool.and_eq_true, Bool.and_eq_false_iff, Bool.or_eq_true, Bool.or_eq_false_iff] at h1
      refine W_skip (hK5 _ ?_)
      clear hK5 K5
      refine W_seq (fun K6 hK6 => ?_)
      refine W_block ?_
      refine W_seq (fun K7 hK7 => ?_)
      refine W_region (WL_cons rfl (WX_q rfl rfl (q_move rfl rfl) (WL_cons rfl (?_))))
      first | refine WX_q rfl rfl (q_index_lst G rfl rfl rfl rfl (by omega) (getN (by omega))) ?_ | refine WX_q rfl rfl (q_index_lst G rfl rfl rfl rfl (by omega) (getNI (by omega) (by omega))) ?_
      refine WL_cons rfl (WX_q rfl rfl (q_load_ept_struct G rfl rfl rfl rfl) (WL_cons rfl (WX_alloc_s G 1 rfl rfl rfl rfl rfl (WL_cons rfl (WX_q rfl rfl (q_assign rfl rfl) (WL_cons rfl (WX_store G rfl rfl rfl rfl rfl rfl rfl rfl rfl rfl rfl (?_))))))))
      refine WL_nil (hK7 _ ?_)
      clear hK7 K7
      refine W_seq (fun K8 hK8 => ?_)
      refine W_draws mixed (by kernel_rfl) (QL_cons rfl (QX_q rfl rfl (q_load_box_struct G rfl rfl rfl rfl rfl rfl) (QL_cons rfl (?_))))
      refine QX_q rfl rfl (q_call rfl (ArgsOK.of rfl) (c_impl_IsSetting _ (hz i (by omega))) rfl) ?_
      refine QL_cons rfl (QX_q rfl rfl (q_not rfl rfl) (QL_cons rfl (QX_q rfl rfl (q_move rfl rfl) (QL_part rfl rfl rfl (fun h2 => ?_) (fun h2 => ?_)))))
      · try rw [h2]
        try simp only [decide_eq_true_eq, decide_eq_false_iff_not, beq_iff_eq, bne_iff_ne, ne_eq, Bool.not_eq_true', Bool.not_eq_false', beq_eq_false_iff_ne, bne_eq_false_iff_eq, Bool.not_eq_true, Bool.not_eq_false, Int.not_lt, Int.not_le, gt_iff_lt, ge_iff_le, Bool.and_eq_true, Bool.and_eq_false_iff, Bool.or_eq_true, Bool.or_eq_false_iff] at h2
        refine QL_skip rfl rfl rfl rfl rfl rfl (QL_skip rfl rfl rfl rfl rfl rfl (QL_skip rfl rfl rfl rfl rfl rfl (QL_skip_u rfl rfl rfl rfl rfl (QL_skip_u rfl rfl rfl rfl rfl (QL_skip_u rfl rfl rfl rfl rfl (QL_skip_u rfl rfl rfl rfl rfl (QL_skip_u rfl rfl rfl rfl rfl (QL_skip_u rfl rfl rfl rfl rfl (QL_skip_u rfl rfl rfl rfl rfl (QL_skip_u rfl rfl rfl rfl rfl (QL_skip_u rfl rfl rfl rfl rfl (QL_skip rfl rfl rfl rfl rfl rfl (QL_cons rfl (QX_q rfl rfl (q_pick_t rfl rfl rfl) (QL_cons rfl (QX_q rfl rfl (q_move rfl rfl) (QL_skip rfl rfl rfl rfl rfl rfl (QL_skip rfl rfl rfl rfl rfl rfl (QL_skip rfl rfl rfl rfl rfl rfl (QL_skip rfl rfl rfl rfl rfl rfl (QL_skip rfl rfl rfl rfl rfl rfl (QL_cons rfl (QX_q rfl rfl (q_pick_t rfl rfl rfl) (?_))))))))))))))))))))))))
        refine QL_nil (hK8 _ ?_)
        clear hK8 K8
        refine W_true rfl ?_
        refine W_seq (fun K9 hK9 => ?_)
        refine W_region (WL_cons rfl (WX_q rfl rfl (q_assign rfl rfl) (?_)))
        refine WL_nil (hK9 _ ?_)
        clear hK9 K9
        refine W_ret (fin_one rfl (rc_v ?_))
        all_goals clear hK6 K6 hK2 K2
        all_goals (first | (have e : allN xs.length (oneT xs) = true := allN_t hinv.2 (by omega); simp [goodT, e]; first | done | omega) | (have e : allN xs.length (oneT xs) = false := allN_f (i := i) (by first | (simp_all [oneT] <;> omega) | (cases hz : oneT xs i <;> simp_all [oneT] <;> omega)) (by omega); simp [goodT, e]; done))
      · try rw [h2]
        try simp only [decide_eq_true_eq, decide_eq_false_iff_not, beq_iff_eq, bne_iff_ne, ne_eq, Bool.not_eq_true', Bool.not_eq_false', beq_eq_false_iff_ne, bne_eq_false_iff_eq, Bool.not_eq_true, Bool.not_eq_false, Int.not_lt, Int.not_le, gt_iff_lt, ge_iff_le, Bool.and_eq_true, Bool.and_eq_false_iff, Bool.or_eq_true, Bool.or_eq_false_iff] at h2
        refine QL_run rfl rfl rfl (QX_q rfl rfl (q_move rfl rfl) (QL_run rfl rfl rfl (QX_q rfl rfl (q_cmp rfl rfl rfl rfl) (QL_run rfl rfl rfl (QX_q rfl rfl (q_move rfl rfl) (QL_part rfl rfl rfl (fun h3 => ?_) (fun h3 => ?_)))))))
        · try rw [h3]
          try simp only [decide_eq_true_eq, decide_eq_false_iff_not, beq_iff_eq, bne_iff_ne, ne_eq, Bool.not_eq_true', Bool.not_eq_false', beq_eq_false_iff_ne, bne_eq_false_iff_eq, Bool.not_eq_true, Bool.not_eq_false, Int.not_lt, Int.not_le, gt_iff_lt, ge_iff_le, Bool.and_eq_true, Bool.and_eq_false_iff, Bool.or_eq_true, Bool.or_eq_false_iff] at h3
          refine QL_run rfl rfl rfl (QX_q rfl rfl (q_move rfl rfl) (QL_run rfl rfl rfl (QX_q rfl rfl (q_move rfl rfl) (QL_run rfl rfl rfl (?_)))))
          first | refine QX_q rfl rfl (q_arith rfl rfl rfl rfl (by omega) (by omega)) ?_ | refine QX_q rfl rfl (q_wrap rfl rfl rfl rfl) ?_
          refine QL_run rfl rfl rfl (?_)
          first | refine QX_q rfl rfl (q_index_lst G rfl rfl rfl rfl (by omega) (getN (by omega))) ?_ | refine QX_q rfl rfl (q_index_lst G rfl rfl rfl rfl (by omega) (getNI (by omega) (by omega))) ?_
          refine QL_run rfl rfl rfl (QX_q rfl rfl (q_field_ept G rfl rfl rfl rfl) (QL_run rfl rfl rfl (QX_q rfl rfl (q_load_ept G rfl rfl rfl rfl rfl) (QL_run rfl rfl rfl (QX_q rfl rfl (q_field_ptr G rfl rfl rfl rfl) (QL_run rfl rfl rfl (QX_q rfl rfl (q_load_box G rfl rfl rfl rfl rfl rfl rfl) (QL_run rfl rfl rfl (QX_q rfl rfl (q_cmp rfl rfl rfl rfl) (QL_run rfl rfl rfl (QX_q rfl rfl (q_pick_t rfl rfl rfl) (QL_cons rfl (QX_q rfl rfl (q_pick_f rfl rfl rfl) (QL_cons rfl (QX_q rfl rfl (q_move rfl rfl) (QL_part rfl rfl rfl (fun h4 => ?_) (fun h4 => ?_)))))))))))))))))
          · try rw [h4]
            try simp only [decide_eq_true_eq, decide_eq_false_iff_not, beq_iff_eq, bne_iff_ne, ne_eq, Bool.not_eq_true', Bool.not_eq_false', beq_eq_false_iff_ne, bne_eq_false_iff_eq, Bool.not_eq_true, Bool.not_eq_false, Int.not_lt, Int.not_le, gt_iff_lt, ge_iff_le, Bool.and_eq_true, Bool.and_eq_false_iff, Bool.or_eq_true, Bool.or_eq_false_iff] at h4
            refine QL_skip rfl rfl rfl rfl rfl rfl (QL_skip rfl rfl rfl rfl rfl rfl (QL_skip rfl rfl rfl rfl rfl rfl (QL_skip rfl rfl rfl rfl rfl rfl (QL_skip rfl rfl rfl rfl rfl rfl (QL_cons rfl (QX_q rfl rfl (q_pick_t rfl rfl rfl) (?_)))))))
            refine QL_nil (hK8 _ ?_)
            clear hK8 K8
            refine W_true rfl ?_
            refine W_seq (fun K10 hK10 => ?_)
            refine W_region (WL_cons rfl (WX_q rfl rfl (q_assign rfl rfl) (?_)))
            refine WL_nil (hK10 _ ?_)
            clear hK10 K10
            refine W_ret (fin_one rfl (rc_v ?_))
            all_goals clear hK6 K6 hK2 K2
            all_goals (first | (have e : allN xs.length (oneT xs) = true := allN_t hinv.2 (by omega); simp [goodT, e]; first | done | omega) | (have e : allN xs.length (oneT xs) = false := allN_f (i := i) (by first | (simp_all [oneT] <;> omega) | (cases hz : oneT xs i <;> simp_all [oneT] <;> omega)) (by omega); simp [goodT, e]; done))
          · try rw [h4]
            try simp only [decide_eq_true_eq, decide_eq_false_iff_not, beq_iff_eq, bne_iff_ne, ne_eq, Bool.not_eq_true', Bool.not_eq_false', beq_eq_false_iff_ne, bne_eq_false_iff_eq, Bool.not_eq_true, Bool.not_eq_false, Int.not_lt, Int.not_le, gt_iff_lt, ge_iff_le, Bool.and_eq_true, Bool.and_eq_false_iff, Bool.or_eq_true, Bool.or_eq_false_iff] at h4
            refine QL_run rfl rfl rfl (QX_q rfl rfl (q_move rfl rfl) (QL_run rfl rfl rfl (QX_q rfl rfl (q_move rfl rfl) (QL_run rfl rfl rfl (?_)))))
            first | refine QX_q rfl rfl (q_cut_lst G rfl rfl rfl rfl rfl (by omega) (by omega) (by omega)) ?_ | refine QX_q rfl rfl (q_cut_lst G rfl rfl rfl rfl rfl (by omega) (by first | (simp; done) | (simp; omega)) (by first | (simp; done) | (simp; omega))) ?_
            refine QL_run rfl rfl rfl (QX_q rfl rfl (q_func rfl rfl) (QL_run rfl rfl rfl (?_)))
            refine QX_q rfl rfl (q_call rfl (ArgsOK.of (congrArg some (congrArg (fun z => [AV.lst 6 z, AV.fnc 57 [.ept (encTc (xs.getD i default))]]) (cut_take (xs := xs) (i := i))))) (Ctr.bool (c_slices_ContainsFunc_impl_Setting_impl_Setting (xs.take i) 57 (encTc (xs.getD i default)) (fun x => x.n.toList == (xs.getD i default).n.toList) (by simp; omega) (fun k hk => c_impl_AreSettings_1 _ _)) (take_any (by omega))) rfl) ?_
            refine QL_cons rfl (QX_q rfl rfl (q_pick_f rfl rfl rfl) (?_))
            refine QL_nil (hK8 _ ?_)
            clear hK8 K8
            refine W_cond rfl (fun h5 => ?_) (fun h5 => ?_)
            · try rw [h5]
              try simp only [decide_eq_true_eq, decide_eq_false_iff_not, beq_iff_eq, bne_iff_ne, ne_eq, Bool.not_eq_true', Bool.not_eq_false', beq_eq_false_iff_ne, bne_eq_false_iff_eq, Bool.not_eq_true, Bool.not_eq_false, Int.not_lt, Int.not_le, gt_iff_lt, ge_iff_le, Bool.and_eq_true, Bool.and_eq_false_iff, Bool.or_eq_true, Bool.or_eq_false_iff] at h5
              refine W_seq (fun K11 hK11 => ?_)
              refine W_region (WL_cons rfl (WX_q rfl rfl (q_assign rfl rfl) (?_)))
              refine WL_nil (hK11 _ ?_)
              clear hK11 K11
              refine W_ret (fin_one rfl (rc_v ?_))
              all_goals clear hK6 K6 hK2 K2
              all_goals (first | (have e : allN xs.length (oneT xs) = true := allN_t hinv.2 (by omega); simp [goodT, e]; first | done | omega) | (have e : allN xs.length (oneT xs) = false := allN_f (i := i) (by first | (simp_all [oneT] <;> omega) | (cases hz : oneT xs i <;> simp_all [oneT] <;> omega)) (by omega); simp [goodT, e]; done))
            · try rw [h5]
              try simp only [decide_eq_true_eq, decide_eq_false_iff_not, beq_iff_eq, bne_iff_ne, ne_eq, Bool.not_eq_true', Bool.not_eq_false', beq_eq_false_iff_ne, bne_eq_false_iff_eq, Bool.not_eq_true, Bool.not_eq_false, Int.not_lt, Int.not_le, gt_iff_lt, ge_iff_le, Bool.and_eq_true, Bool.and_eq_false_iff, Bool.or_eq_true, Bool.or_eq_false_iff] at h5
              refine W_skip (hK6 _ ?_)
              clear hK6 K6
              refine W_region (WL_cons rfl (?_))
              first | refine WX_q rfl rfl (q_arith rfl rfl rfl rfl (by omega) (by omega)) ?_ | refine WX_q rfl rfl (q_wrap rfl rfl rfl rfl) ?_
              refine WL_cons rfl (WX_q rfl rfl (q_move rfl rfl) (?_))
              refine WL_nil ⟨(i + 1), ?_, ?_, ⟨⟨_, rfl, by rfl⟩, rfl, trivial⟩, trivial, rfl, rfl, rfl⟩
              · refine ⟨by omega, upto_succ hinv.2 ?_⟩; simp_all [oneT] <;> omega
              · omega
        · try rw [h3]
          try simp only [decide_eq_true_eq, decide_eq_false_iff_not, beq_iff_eq, bne_iff_ne, ne_eq, Bool.not_eq_true', Bool.not_eq_false', beq_eq_false_iff_ne, bne_eq_false_iff_eq, Bool.not_eq_true, Bool.not_eq_false, Int.not_lt, Int.not_le, gt_iff_lt, ge_iff_le, Bool.and_eq_true, Bool.and_eq_false_iff, Bool.or_eq_true, Bool.or_eq_false_iff] at h3
          refine QL_skip rfl rfl rfl rfl rfl rfl (QL_skip rfl rfl rfl rfl rfl rfl (QL_skip rfl rfl rfl rfl rfl rfl (QL_skip rfl rfl rfl rfl rfl rfl (QL_skip rfl rfl rfl rfl rfl rfl (QL_skip rfl rfl rfl rfl rfl rfl (QL_skip rfl rfl rfl rfl rfl rfl (QL_skip rfl rfl rfl rfl rfl rfl (QL_skip rfl rfl rfl rfl rfl rfl (QL_run rfl rfl rfl (QX_q rfl rfl (q_pick_f rfl rfl rfl) (QL_cons rfl (QX_q rfl rfl (q_pick_f rfl rfl rfl) (QL_cons rfl (QX_q rfl rfl (q_move rfl rfl) (QL_run rfl rfl rfl (QX_q rfl rfl (q_move rfl rfl) (QL_run rfl rfl rfl (QX_q rfl rfl (q_move rfl rfl) (QL_run rfl rfl rfl (?_))))))))))))))))))))
          first | refine QX_q rfl rfl (q_cut_lst G rfl rfl rfl rfl rfl (by omega) (by omega) (by omega)) ?_ | refine QX_q rfl rfl (q_cut_lst G rfl rfl rfl rfl rfl (by omega) (by first | (simp; done) | (simp; omega)) (by first | (simp; done) | (simp; omega))) ?_
          refine QL_run rfl rfl rfl (QX_q rfl rfl (q_func rfl rfl) (QL_run rfl rfl rfl (?_)))
          refine QX_q rfl rfl (q_call rfl (ArgsOK.of (congrArg some (congrArg (fun z => [AV.lst 6 z, AV.fnc 57 [.ept (encTc (xs.getD i default))]]) (cut_take (xs := xs) (i := i))))) (Ctr.bool (c_slices_ContainsFunc_impl_Setting_impl_Setting (xs.take i) 57 (encTc (xs.getD i default)) (fun x => x.n.toList == (xs.getD i default).n.toList) (by simp; omega) (fun k hk => c_impl_AreSettings_1 _ _)) (take_any (by omega))) rfl) ?_
          refine QL_cons rfl (QX_q rfl rfl (q_pick_f rfl rfl rfl) (?_))
          refine QL_nil (hK8 _ ?_)
          clear hK8 K8
          refine W_cond rfl (fun h6 => ?_) (fun h6 => ?_)
          · try rw [h6]
            try simp only [decide_eq_true_eq, decide_eq_false_iff_not, beq_iff_eq, bne_iff_ne, ne_eq, Bool.not_eq_true', Bool.not_eq_false', beq_eq_false_iff_ne, bne_eq_false_iff_eq, Bool.not_eq_true, Bool.not_eq_false, Int.not_lt, Int.not_le, gt_iff_lt, ge_iff_le, Bool.and_eq_true, Bool.and_eq_false_iff, Bool.or_eq_true, Bool.or_eq_false_iff] at h6
            refine W_seq (fun K12 hK12 => ?_)
            refine W_region (WL_cons rfl (WX_q rfl rfl (q_assign rfl rfl) (?_)))
            refine WL_nil (hK12 _ ?_)
            clear hK12 K12
            refine W_ret (fin_one rfl (rc_v ?_))
            all_goals clear hK6 K6 hK2 K2
            all_goals (first | (have e : allN xs.length (oneT xs) = true := allN_t hinv.2 (by omega); simp [goodT, e]; first | done | omega) | (have e : allN xs.length (oneT xs) = false := allN_f (i := i) (by first | (simp_all [oneT] <;> omega) | (cases hz : oneT xs i <;> simp_all [oneT] <;> omega)) (by omega); simp [goodT, e]; done))
          · try rw [h6]
            try simp only [decide_eq_true_eq, decide_eq_false_iff_not, beq_iff_eq, bne_iff_ne, ne_eq, Bool.not_eq_true', Bool.not_eq_false', beq_eq_false_iff_ne, bne_eq_false_iff_eq, Bool.not_eq_true, Bool.not_eq_false, Int.not_lt, Int.not_le, gt_iff_lt, ge_iff_le, Bool.and_eq_true, Bool.and_eq_false_iff, Bool.or_eq_true, Bool.or_eq_false_iff] at h6
            refine W_skip (hK6 _ ?_)
            clear hK6 K6
            refine W_region (WL_cons rfl (?_))
            first | refine WX_q rfl rfl (q_arith rfl rfl rfl rfl (by omega) (by omega)) ?_ | refine WX_q rfl rfl (q_wrap rfl rfl rfl rfl) ?_
            refine WL_cons rfl (WX_q rfl rfl (q_move rfl rfl) (?_))
            refine WL_nil ⟨(i + 1), ?_, ?_, ⟨⟨_, rfl, by rfl⟩, rfl, trivial⟩, trivial, rfl, rfl, rfl⟩
            · refine ⟨by omega, upto_succ hinv.2 ?_⟩; simp_all [oneT] <;> omega
            · omega
    · try rw [h1]
      try simp only [decide_eq_true_eq, decide_eq_false_iff_not, beq_iff_eq, bne_iff_ne, ne_eq, Bool.not_eq_true', Bool.not_eq_false', beq_eq_false_iff_ne, bne_eq_false_iff_eq, Bool.not_eq_true, Bool.not_eq_false, Int.not_lt, Int.not_le, gt_iff_lt, ge_iff_le, Bool.and_eq_true, Bool.and_eq_false_iff, Bool.or_eq_true, Bool.or_eq_false_iff] at h1
      refine W_exit (hK2 _ ?_)
      clear hK5 K5 hK2 K2
      refine W_seq (fun K13 hK13 => ?_)
      refine W_region (WL_cons rfl (WX_q rfl rfl (q_move rfl rfl) (WL_cons rfl (?_))))
      refine WX_q rfl rfl (q_call rfl (ArgsOK.of rfl) (c_impl_allFrames xs hn (by have e : i = xs.length := (by omega); subst e; exact oneT_ok hinv.2)) rfl) ?_
      refine WL_cons rfl (WX_q rfl rfl (q_cmp rfl rfl rfl rfl) (WL_cons rfl (WX_q rfl rfl (q_assign rfl rfl) (?_))))
      refine WL_nil (hK13 _ ?_)
      clear hK13 K13
      refine W_ret (fin_one rfl (rc_v ?_))
      all_goals (first | (have e : allN xs.length (oneT xs) = true := allN_t hinv.2 (by omega); simp [goodT, e]; first | done | omega) | (have e : allN xs.length (oneT xs) = false := allN_f (i := i) (by first | (simp_all [oneT] <;> omega) | (cases hz : oneT xs i <;> simp_all [oneT] <;> omega)) (by omega); simp [goodT, e]; done))

end Go.Proofs.YtehijimgenicfaaDoor

/- Walks through functions of the program, one contract each (written by gen.py). -/
set_option maxRecDepth 20000
set_option linter.unusedVariables false
set_option linter.unusedSimpArgs false
namespace Go.Proofs.YtehijimgenicfaaDoor
open Go Go.Rf

theorem c_spec_PutSetting (xs : List Setting) (v : Setting) (hn : xs.length ≤ 1048576) (hz : ∀ i, i < xs.length → (xs.getD i default).n.size ≤ 9223372036854775807) (hv : v.n.size ≤ 9223372036854775807) : Ctr Tryd.prog 66 [.lst 6 (xs.map encTc), .v (encT v)] (.many [.fr 27 6 ((ptT xs v).map encTc), .v (.bool (ptOK xs v))]) := by
  refine Ctr.of (n := 61) G Tryd.func66 rfl (by kernel_rfl) rfl rfl rfl (fun w0 => ?_)
  refine W_seq (fun K1 hK1 => ?_)
  refine W_region (WL_cons rfl (WX_box 1 rfl rfl rfl rfl rfl rfl rfl (WL_cons rfl (WX_q rfl rfl (q_assign rfl rfl) (WL_cons rfl (WX_q rfl rfl (q_assign rfl rfl) (?_)))))))
  refine WL_nil (hK1 _ ?_)
  clear hK1 K1
  refine W_seq (fun K2 hK2 => ?_)
  refine W_seq (fun K3 hK3 => ?_)
  refine W_region (WL_cons rfl (WX_q rfl rfl (q_move rfl rfl) (WL_cons rfl (?_))))
  refine WX_q rfl rfl (q_call rfl (ArgsOK.of rfl) (c_spec_l24Good _ (by first | assumption | (have := putL_len (xs := xs) (s := v); omega)) (by first | assumption | exact putL_names hz hv)) rfl) ?_
  refine WL_cons rfl (WX_q rfl rfl (q_not rfl rfl) (?_))
  refine WL_nil (hK3 _ ?_)
  clear hK3 K3
  refine W_cond rfl (fun h1 => ?_) (fun h1 => ?_)
  · try rw [h1]
    try simp only [decide_eq_true_eq, decide_eq_false_iff_not, beq_iff_eq, bne_iff_ne, ne_eq, Bool.not_eq_true', Bool.not_eq_false', beq_eq_false_iff_ne, bne_eq_false_iff_eq, Bool.not_eq_true, Bool.not_eq_false, Int.not_lt, Int.not_le, gt_iff_lt, ge_iff_le, Bool.and_eq_true, Bool.and_eq_false_iff, Bool.or_eq_true, Bool.or_eq_false_iff] at h1
    refine W_seq (fun K4 hK4 => ?_)
    refine W_region (WL_cons rfl (WX_lit G 2 rfl rfl rfl rfl rfl rfl rfl rfl (WL_cons rfl (WX_q rfl rfl (q_assign rfl rfl) (WL_cons rfl (WX_q rfl rfl (q_assign rfl rfl) (?_)))))))
    refine WL_nil (hK4 _ ?_)
    clear hK4 K4
    refine W_ret (fin_many rfl rfl rfl rfl (rcs_cons (rc_own rfl ?_) (rcs_cons (rc_v ?_) rcs_nil)))
    all_goals clear hK2 K2
    all_goals (first | rfl | (simp [ptOK, ptT, h1]; done) | (have e : ptOK xs v = true := (by simp_all [ptOK]); simp [ptT, e]; done) | (have e : ptOK xs v = false := (by simp_all [ptOK]); simp [ptT, e]; done))
  · try rw [h1]
    try simp only [decide_eq_true_eq, decide_eq_false_iff_not, beq_iff_eq, bne_iff_ne, ne_eq, Bool.not_eq_true', Bool.not_eq_false', beq_eq_false_iff_ne, bne_eq_false_iff_eq, Bool.not_eq_true, Bool.not_eq_false, Int.not_lt, Int.not_le, gt_iff_lt, ge_iff_le, Bool.and_eq_true, Bool.and_eq_false_iff, Bool.or_eq_true, Bool.or_eq_false_iff] at h1
    have hlen := good_len h1
    refine W_skip (hK2 _ ?_)
    clear hK2 K2
    refine W_seq (fun K5 hK5 => ?_)
    refine W_region (WL_cons rfl (WX_q rfl rfl (q_assign rfl rfl) (?_)))
    refine WL_nil (hK5 _ ?_)
    clear hK5 K5
    refine W_seq (fun K6 hK6 => ?_)
    refine W_block ?_
    refine W_loopK [0, 3] [0] (fun (i : Nat) => [(6, .v (.int .i64 (i : Int)))]) (fun (i : Nat) => []) (fun (i : Nat) => i ≤ xs.length ∧ ∀ j, j < i → (xs.getD j default).g < v.g) (fun (i : Nat) => xs.length - i) 0 rfl rfl ?_ ?_ ?_ ?_
    · exact ⟨Nat.zero_le _, fun j hj => by omega⟩
    · exact ⟨⟨_, rfl, by (first | rfl | (simp; done) | (simp; omega))⟩, rfl, trivial⟩
    · exact trivial
    · intro i hinv
      have hi : i ≤ xs.length := hinv.1
      simp only [List.cons_append, List.nil_append]
      refine W_seq (fun K7 hK7 => ?_)
      refine W_seq (fun K8 hK8 => ?_)
      refine W_draws mixed (by kernel_rfl) (QL_cons rfl (QX_q rfl rfl (q_move rfl rfl) (QL_cons rfl (QX_q rfl rfl (q_move rfl rfl) (QL_cons rfl (?_))))))
      first | refine QX_q rfl rfl (q_len' G rfl rfl rfl rfl rest_len) ?_ | refine QX_q rfl rfl (q_len' G rfl rfl rfl rfl (List.length_map _)) ?_ | refine QX_q rfl rfl (q_len G rfl rfl rfl rfl) ?_
      refine QL_cons rfl (QX_q rfl rfl (q_cmp rfl rfl rfl rfl) (QL_cons rfl (QX_q rfl rfl (q_move rfl rfl) (QL_part rfl rfl rfl (fun h2 => ?_) (fun h2 => ?_)))))
      · try rw [h2]
        try simp only [decide_eq_true_eq, decide_eq_false_iff_not, beq_iff_eq, bne_iff_ne, ne_eq, Bool.not_eq_true', Bool.not_eq_false', beq_eq_false_iff_ne, bne_eq_false_iff_eq, Bool.not_eq_true, Bool.not_eq_false, Int.not_lt, Int.not_le, gt_iff_lt, ge_iff_le, Bool.and_eq_true, Bool.and_eq_false_iff, Bool.or_eq_true, Bool.or_eq_false_iff] at h2
        refine QL_run rfl rfl rfl (QX_q rfl rfl (q_move rfl rfl) (QL_run rfl rfl rfl (QX_q rfl rfl (q_move rfl rfl) (QL_run rfl rfl rfl (?_)))))
        first | refine QX_q rfl rfl (q_index_lst G rfl rfl rfl rfl (by omega) (getN (by omega))) ?_ | refine QX_q rfl rfl (q_index_lst G rfl rfl rfl rfl (by omega) (getRest (by omega))) ?_
        refine QL_run rfl rfl rfl (QX_q rfl rfl (q_field_ept G rfl rfl rfl rfl) (QL_run rfl rfl rfl (QX_q rfl rfl (q_load_ept G rfl rfl rfl rfl rfl) (QL_run rfl rfl rfl (QX_q rfl rfl (q_field_ptr G rfl rfl rfl rfl) (QL_run rfl rfl rfl (QX_q rfl rfl (q_load_box G rfl rfl rfl rfl rfl rfl rfl) (QL_run rfl rfl rfl (QX_q rfl rfl (q_cmp rfl rfl rfl rfl) (QL_cons rfl (QX_q rfl rfl (q_pick_t rfl rfl rfl) (?_))))))))))))
        refine QL_nil (hK8 _ ?_)
        clear hK8 K8
        refine W_cond rfl (fun h3 => ?_) (fun h3 => ?_)
        · try rw [h3]
          try simp only [decide_eq_true_eq, decide_eq_false_iff_not, beq_iff_eq, bne_iff_ne, ne_eq, Bool.not_eq_true', Bool.not_eq_false', beq_eq_false_iff_ne, bne_eq_false_iff_eq, Bool.not_eq_true, Bool.not_eq_false, Int.not_lt, Int.not_le, gt_iff_lt, ge_iff_le, Bool.and_eq_true, Bool.and_eq_false_iff, Bool.or_eq_true, Bool.or_eq_false_iff] at h3
          refine W_skip (hK7 _ ?_)
          clear hK7 K7
          refine W_block ?_
          refine W_region (WL_cons rfl (WX_q rfl rfl (q_move rfl rfl) (WL_cons rfl (?_))))
          first | refine WX_q rfl rfl (q_arith rfl rfl rfl rfl (by omega) (by omega)) ?_ | refine WX_q rfl rfl (q_wrap rfl rfl rfl rfl) ?_
          refine WL_cons rfl (WX_q rfl rfl (q_assign rfl rfl) (?_))
          refine WL_nil ⟨(i + 1), ?_, ?_, ⟨⟨_, rfl, by rfl⟩, rfl, trivial⟩, trivial, rfl, rfl, rfl⟩
          · exact ⟨by omega, upto_succ' hinv.2 (by assumption)⟩
          · omega
        · try rw [h3]
          try simp only [decide_eq_true_eq, decide_eq_false_iff_not, beq_iff_eq, bne_iff_ne, ne_eq, Bool.not_eq_true', Bool.not_eq_false', beq_eq_false_iff_ne, bne_eq_false_iff_eq, Bool.not_eq_true, Bool.not_eq_false, Int.not_lt, Int.not_le, gt_iff_lt, ge_iff_le, Bool.and_eq_true, Bool.and_eq_false_iff, Bool.or_eq_true, Bool.or_eq_false_iff] at h3
          refine W_exit (hK6 _ ?_)
          clear hK7 K7 hK6 K6
          refine W_seq (fun K9 hK9 => ?_)
          refine W_region (WL_cons rfl (WX_q rfl rfl (q_move rfl rfl) (WL_cons rfl (WX_q rfl rfl (q_move rfl rfl) (WL_cons rfl (?_))))))
          first | refine WX_q rfl rfl (q_cut_lst G rfl rfl rfl rfl rfl (by omega) (by omega) (by omega)) ?_ | refine WX_q rfl rfl (q_cut_lst G rfl rfl rfl rfl rfl (by omega) (by first | (simp; done) | (simp; omega)) (by first | (simp; done) | (simp; omega))) ?_
          refine WL_cons rfl (WX_q rfl rfl (q_assign rfl rfl) (?_))
          refine WL_nil (hK9 _ ?_)
          clear hK9 K9
          refine W_seq (fun K10 hK10 => ?_)
          refine W_seq (fun K11 hK11 => ?_)
          refine W_draws mixed (by kernel_rfl) (QL_cons rfl (QX_q rfl rfl (q_move rfl rfl) (QL_cons rfl (?_))))
          first | refine QX_q rfl rfl (q_len' G rfl rfl rfl rfl rest_len) ?_ | refine QX_q rfl rfl (q_len' G rfl rfl rfl rfl (List.length_map _)) ?_ | refine QX_q rfl rfl (q_len G rfl rfl rfl rfl) ?_
          refine QL_cons rfl (QX_q rfl rfl (q_cmp rfl rfl rfl rfl) (QL_cons rfl (QX_q rfl rfl (q_move rfl rfl) (QL_part rfl rfl rfl (fun h4 => ?_) (fun h4 => ?_)))))
          · try rw [h4]
            try simp only [decide_eq_true_eq, decide_eq_false_iff_not, beq_iff_eq, bne_iff_ne, ne_eq, Bool.not_eq_true', Bool.not_eq_false', beq_eq_false_iff_ne, bne_eq_false_iff_eq, Bool.not_eq_true, Bool.not_eq_false, Int.not_lt, Int.not_le, gt_iff_lt, ge_iff_le, Bool.and_eq_true, Bool.and_eq_false_iff, Bool.or_eq_true, Bool.or_eq_false_iff] at h4
            refine QL_run rfl rfl rfl (QX_q rfl rfl (q_move rfl rfl) (QL_run rfl rfl rfl (?_)))
            first | refine QX_q rfl rfl (q_index_lst G rfl rfl rfl rfl (by omega) (getN (by omega))) ?_ | refine QX_q rfl rfl (q_index_lst G rfl rfl rfl rfl (by omega) (getRest (by omega))) ?_
            refine QL_run rfl rfl rfl (QX_q rfl rfl (q_field_ept G rfl rfl rfl rfl) (QL_run rfl rfl rfl (QX_q rfl rfl (q_load_ept G rfl rfl rfl rfl rfl) (QL_run rfl rfl rfl (QX_q rfl rfl (q_field_ptr G rfl rfl rfl rfl) (QL_run rfl rfl rfl (QX_q rfl rfl (q_load_box G rfl rfl rfl rfl rfl rfl rfl) (QL_run rfl rfl rfl (QX_q rfl rfl (q_cmp rfl rfl rfl rfl) (QL_cons rfl (QX_q rfl rfl (q_pick_t rfl rfl rfl) (?_))))))))))))
            refine QL_nil (hK11 _ ?_)
            clear hK11 K11
            refine W_cond rfl (fun h5 => ?_) (fun h5 => ?_)
            · try rw [h5]
              try simp only [decide_eq_true_eq, decide_eq_false_iff_not, beq_iff_eq, bne_iff_ne, ne_eq, Bool.not_eq_true', Bool.not_eq_false', beq_eq_false_iff_ne, bne_eq_false_iff_eq, Bool.not_eq_true, Bool.not_eq_false, Int.not_lt, Int.not_le, gt_iff_lt, ge_iff_le, Bool.and_eq_true, Bool.and_eq_false_iff, Bool.or_eq_true, Bool.or_eq_false_iff] at h5
              refine W_region (WL_cons rfl (WX_q rfl rfl (q_move rfl rfl) (WL_cons rfl (?_))))
              first | refine WX_q rfl rfl (q_cut_lst G rfl rfl rfl rfl rfl (by omega) (by omega) (by omega)) ?_ | refine WX_q rfl rfl (q_cut_lst G rfl rfl rfl rfl rfl (by omega) (by first | (simp; done) | (simp; omega)) (by first | (simp; done) | (simp; omega))) ?_
              refine WL_cons rfl (WX_q rfl rfl (q_assign rfl rfl) (?_))
              refine WL_nil (hK10 _ ?_)
              clear hK10 K10
              refine W_seq (fun K12 hK12 => ?_)
              apply W_drawsJ [8] [3] 4 11 [0] mixed (by kernel_rfl) rfl rfl hK12
              · intro r0
                refine WA_take 1 rfl (by kernel_rfl) (by kernel_rfl) rfl rfl rfl rfl (q_move rfl rfl) (WA_take 2 rfl (by kernel_rfl) (by kernel_rfl) rfl rfl rfl rfl (q_move rfl rfl) (?_))
                first | refine WA_take 3 rfl (by kernel_rfl) (by kernel_rfl) rfl rfl rfl rfl (q_cut_lst G rfl rfl rfl rfl rfl (by omega) (by omega) (by omega)) ?_ | refine WA_take 3 rfl (by kernel_rfl) (by kernel_rfl) rfl rfl rfl rfl (q_cut_lst G rfl rfl rfl rfl rfl (by omega) (by first | (simp; done) | (simp; omega)) (by first | (simp; done) | (simp; omega))) ?_
                refine WA_take 5 rfl (by kernel_rfl) (by kernel_rfl) rfl rfl rfl rfl (q_load_box_struct G rfl rfl rfl rfl rfl rfl) (WA_take 8 rfl (by kernel_rfl) (by kernel_rfl) rfl rfl rfl rfl (q_move rfl rfl) (?_))
                refine WA_branch (rs := [0, 6]) (by kernel_rfl) rfl (AllB.cons ?_ (AllB.cons ?_ AllB.nil))
                · refine WB_run [0] rfl rfl (WX_lit G 2 rfl rfl rfl rfl rfl rfl rfl rfl (WL_nil ⟨rfl, ?_⟩))
                  refine WA_branch (rs := [4, 6]) (by kernel_rfl) rfl (AllB.cons ?_ (AllB.cons ?_ AllB.nil))
                  · refine WB_run [0] rfl rfl (WX_append G (by exact Nat.le_of_ble_eq_true rfl) rfl rfl rfl rfl rfl rfl rfl rfl rfl (by simp; omega) rfl rfl (WL_nil ⟨rfl, ?_⟩))
                    refine WA_branch (rs := [6]) (by kernel_rfl) rfl (AllB.cons ?_ AllB.nil)
                    refine WB_run [0] rfl rfl (WX_lit G 3 rfl rfl rfl rfl rfl rfl rfl rfl (WL_nil ⟨rfl, ?_⟩))
                    refine WA_branch (rs := [7]) (by kernel_rfl) rfl (AllB.cons ?_ AllB.nil)
                    refine WB_run [0] rfl rfl (WX_append G (by exact Nat.le_of_ble_eq_true rfl) rfl rfl rfl rfl rfl rfl rfl rfl rfl (by simp; omega) rfl rfl (WL_nil ⟨rfl, ?_⟩))
                    refine WA_branch (rs := [9]) (by kernel_rfl) rfl (AllB.cons ?_ AllB.nil)
                    refine WB_run [0] rfl rfl (WX_append G (by exact Nat.le_of_ble_eq_true rfl) rfl rfl rfl rfl rfl rfl rfl rfl rfl (by simp; omega) rfl rfl (WL_nil ⟨rfl, ?_⟩))
                    refine WA_take 10 rfl (by kernel_rfl) (by kernel_rfl) rfl rfl rfl rfl (q_assign rfl rfl) (?_)
                    refine WA_ren (tx := 8) 4 rfl rfl rfl rfl ?_
                    exact WA_end (by kernel_rfl) (Meet.mk rfl rfl rfl rfl)
                  · refine WB_run [0] rfl rfl (WX_lit G 3 rfl rfl rfl rfl rfl rfl rfl rfl (WL_nil ⟨rfl, ?_⟩))
                    refine WA_branch (rs := [4]) (by kernel_rfl) rfl (AllB.cons ?_ AllB.nil)
                    refine WB_run [0] rfl rfl (WX_append G (by exact Nat.le_of_ble_eq_true rfl) rfl rfl rfl rfl rfl rfl rfl rfl rfl (by simp; omega) rfl rfl (WL_nil ⟨rfl, ?_⟩))
                    refine WA_branch (rs := [7]) (by kernel_rfl) rfl (AllB.cons ?_ AllB.nil)
                    refine WB_run [0] rfl rfl (WX_append G (by exact Nat.le_of_ble_eq_true rfl) rfl rfl rfl rfl rfl rfl rfl rfl rfl (by simp; omega) rfl rfl (WL_nil ⟨rfl, ?_⟩))
                    refine WA_branch (rs := [9]) (by kernel_rfl) rfl (AllB.cons ?_ AllB.nil)
                    refine WB_run [0] rfl rfl (WX_append G (by exact Nat.le_of_ble_eq_true rfl) rfl rfl rfl rfl rfl rfl rfl rfl rfl (by simp; omega) rfl rfl (WL_nil ⟨rfl, ?_⟩))
                    refine WA_take 10 rfl (by kernel_rfl) (by kernel_rfl) rfl rfl rfl rfl (q_assign rfl rfl) (?_)
                    refine WA_ren (tx := 8) 4 rfl rfl rfl rfl ?_
                    exact WA_end (by kernel_rfl) (Meet.mk rfl rfl rfl rfl)
                · refine WB_run [0] rfl rfl (WX_lit G 2 rfl rfl rfl rfl rfl rfl rfl rfl (WL_nil ⟨rfl, ?_⟩))
                  refine WA_branch (rs := [0]) (by kernel_rfl) rfl (AllB.cons ?_ AllB.nil)
                  refine WB_run [0] rfl rfl (WX_lit G 3 rfl rfl rfl rfl rfl rfl rfl rfl (WL_nil ⟨rfl, ?_⟩))
                  refine WA_branch (rs := [4]) (by kernel_rfl) rfl (AllB.cons ?_ AllB.nil)
                  refine WB_run [0] rfl rfl (WX_append G (by exact Nat.le_of_ble_eq_true rfl) rfl rfl rfl rfl rfl rfl rfl rfl rfl (by simp; omega) rfl rfl (WL_nil ⟨rfl, ?_⟩))
                  refine WA_branch (rs := [7]) (by kernel_rfl) rfl (AllB.cons ?_ AllB.nil)
                  refine WB_run [0] rfl rfl (WX_append G (by exact Nat.le_of_ble_eq_true rfl) rfl rfl rfl rfl rfl rfl rfl rfl rfl (by simp; omega) rfl rfl (WL_nil ⟨rfl, ?_⟩))
                  refine WA_branch (rs := [9]) (by kernel_rfl) rfl (AllB.cons ?_ AllB.nil)
                  refine WB_run [0] rfl rfl (WX_append G (by exact Nat.le_of_ble_eq_true rfl) rfl rfl rfl rfl rfl rfl rfl rfl rfl (by simp; omega) rfl rfl (WL_nil ⟨rfl, ?_⟩))
                  refine WA_take 10 rfl (by kernel_rfl) (by kernel_rfl) rfl rfl rfl rfl (q_assign rfl rfl) (?_)
                  refine WA_ren (tx := 8) 4 rfl rfl rfl rfl ?_
                  exact WA_end (by kernel_rfl) (Meet.mk rfl rfl rfl rfl)
              · clear hK12 K12
                refine W_eqrow (id := 3) ((putL xs v).map encTc) rfl (by first | (rw [put_at, put_rest, put_rest1, ← xs_put1 h1 (by omega) hinv.2 (by omega)]; simp [encTc]; done) | (rw [put_at, put_rest, ← xs_put h1 (by omega) hinv.2 (fun hk => by omega)]; simp [encTc]; done)) ?_
                refine W_seq (fun K13 hK13 => ?_)
                refine W_seq (fun K14 hK14 => ?_)
                refine W_region (WL_cons rfl (WX_q rfl rfl (q_move rfl rfl) (WL_cons rfl (?_))))
                refine WX_q rfl rfl (q_call rfl (ArgsOK.of rfl) (c_spec_l24Good _ (by first | assumption | (have := putL_len (xs := xs) (s := v); omega)) (by first | assumption | exact putL_names hz hv)) rfl) ?_
                refine WL_cons rfl (WX_q rfl rfl (q_not rfl rfl) (?_))
                refine WL_nil (hK14 _ ?_)
                clear hK14 K14
                refine W_cond rfl (fun h6 => ?_) (fun h6 => ?_)
                · try rw [h6]
                  try simp only [decide_eq_true_eq, decide_eq_false_iff_not, beq_iff_eq, bne_iff_ne, ne_eq, Bool.not_eq_true', Bool.not_eq_false', beq_eq_false_iff_ne, bne_eq_false_iff_eq, Bool.not_eq_true, Bool.not_eq_false, Int.not_lt, Int.not_le, gt_iff_lt, ge_iff_le, Bool.and_eq_true, Bool.and_eq_false_iff, Bool.or_eq_true, Bool.or_eq_false_iff] at h6
                  refine W_seq (fun K15 hK15 => ?_)
                  refine W_region (WL_cons rfl (WX_lit G 5 rfl rfl rfl rfl rfl rfl rfl rfl (WL_cons rfl (WX_q rfl rfl (q_assign rfl rfl) (WL_cons rfl (WX_q rfl rfl (q_assign rfl rfl) (?_)))))))
                  refine WL_nil (hK15 _ ?_)
                  clear hK15 K15
                  refine W_ret (fin_many rfl rfl rfl rfl (rcs_cons (rc_own rfl ?_) (rcs_cons (rc_v ?_) rcs_nil)))
                  all_goals clear hK13 K13
                  all_goals (first | rfl | (simp [ptOK, ptT, h1]; done) | (have e : ptOK xs v = true := (by simp_all [ptOK]); simp [ptT, e]; done) | (have e : ptOK xs v = false := (by simp_all [ptOK]); simp [ptT, e]; done))
                · try rw [h6]
                  try simp only [decide_eq_true_eq, decide_eq_false_iff_not, beq_iff_eq, bne_iff_ne, ne_eq, Bool.not_eq_true', Bool.not_eq_false', beq_eq_false_iff_ne, bne_eq_false_iff_eq, Bool.not_eq_true, Bool.not_eq_false, Int.not_lt, Int.not_le, gt_iff_lt, ge_iff_le, Bool.and_eq_true, Bool.and_eq_false_iff, Bool.or_eq_true, Bool.or_eq_false_iff] at h6
                  refine W_skip (hK13 _ ?_)
                  clear hK13 K13
                  refine W_seq (fun K16 hK16 => ?_)
                  refine W_region (WL_cons rfl (WX_q rfl rfl (q_move rfl rfl) (WL_cons rfl (WX_q rfl rfl (q_assign rfl rfl) (WL_cons rfl (WX_q rfl rfl (q_assign rfl rfl) (?_)))))))
                  refine WL_nil (hK16 _ ?_)
                  clear hK16 K16
                  refine W_ret (fin_many rfl rfl rfl rfl (rcs_cons (rc_own rfl ?_) (rcs_cons (rc_v ?_) rcs_nil)))
                  all_goals (first | rfl | (simp [ptOK, ptT, h1]; done) | (have e : ptOK xs v = true := (by simp_all [ptOK]); simp [ptT, e]; done) | (have e : ptOK xs v = false := (by simp_all [ptOK]); simp [ptT, e]; done))
            · try rw [h5]
              try simp only [decide_eq_true_eq, decide_eq_false_iff_not, beq_iff_eq, bne_iff_ne, ne_eq, Bool.not_eq_true', Bool.not_eq_false', beq_eq_false_iff_ne, bne_eq_false_iff_eq, Bool.not_eq_true, Bool.not_eq_false, Int.not_lt, Int.not_le, gt_iff_lt, ge_iff_le, Bool.and_eq_true, Bool.and_eq_false_iff, Bool.or_eq_true, Bool.or_eq_false_iff] at h5
              refine W_skip (hK10 _ ?_)
              clear hK10 K10
              refine W_seq (fun K17 hK17 => ?_)
              apply W_drawsJ [8] [3] 4 11 [0] mixed (by kernel_rfl) rfl rfl hK17
              · intro r0
                refine WA_take 1 rfl (by kernel_rfl) (by kernel_rfl) rfl rfl rfl rfl (q_move rfl rfl) (WA_take 2 rfl (by kernel_rfl) (by kernel_rfl) rfl rfl rfl rfl (q_move rfl rfl) (?_))
                first | refine WA_take 3 rfl (by kernel_rfl) (by kernel_rfl) rfl rfl rfl rfl (q_cut_lst G rfl rfl rfl rfl rfl (by omega) (by omega) (by omega)) ?_ | refine WA_take 3 rfl (by kernel_rfl) (by kernel_rfl) rfl rfl rfl rfl (q_cut_lst G rfl rfl rfl rfl rfl (by omega) (by first | (simp; done) | (simp; omega)) (by first | (simp; done) | (simp; omega))) ?_
                refine WA_take 5 rfl (by kernel_rfl) (by kernel_rfl) rfl rfl rfl rfl (q_load_box_struct G rfl rfl rfl rfl rfl rfl) (WA_take 8 rfl (by kernel_rfl) (by kernel_rfl) rfl rfl rfl rfl (q_move rfl rfl) (?_))
                refine WA_branch (rs := [0, 6]) (by kernel_rfl) rfl (AllB.cons ?_ (AllB.cons ?_ AllB.nil))
                · refine WB_run [0] rfl rfl (WX_lit G 2 rfl rfl rfl rfl rfl rfl rfl rfl (WL_nil ⟨rfl, ?_⟩))
                  refine WA_branch (rs := [4, 6]) (by kernel_rfl) rfl (AllB.cons ?_ (AllB.cons ?_ AllB.nil))
                  · refine WB_run [0] rfl rfl (WX_append G (by exact Nat.le_of_ble_eq_true rfl) rfl rfl rfl rfl rfl rfl rfl rfl rfl (by simp; omega) rfl rfl (WL_nil ⟨rfl, ?_⟩))
                    refine WA_branch (rs := [6]) (by kernel_rfl) rfl (AllB.cons ?_ AllB.nil)
                    refine WB_run [0] rfl rfl (WX_lit G 3 rfl rfl rfl rfl rfl rfl rfl rfl (WL_nil ⟨rfl, ?_⟩))
                    refine WA_branch (rs := [7]) (by kernel_rfl) rfl (AllB.cons ?_ AllB.nil)
                    refine WB_run [0] rfl rfl (WX_append G (by exact Nat.le_of_ble_eq_true rfl) rfl rfl rfl rfl rfl rfl rfl rfl rfl (by simp; omega) rfl rfl (WL_nil ⟨rfl, ?_⟩))
                    refine WA_branch (rs := [9]) (by kernel_rfl) rfl (AllB.cons ?_ AllB.nil)
                    refine WB_run [0] rfl rfl (WX_append G (by exact Nat.le_of_ble_eq_true rfl) rfl rfl rfl rfl rfl rfl rfl rfl rfl (by simp; omega) rfl rfl (WL_nil ⟨rfl, ?_⟩))
                    refine WA_take 10 rfl (by kernel_rfl) (by kernel_rfl) rfl rfl rfl rfl (q_assign rfl rfl) (?_)
                    refine WA_ren (tx := 8) 4 rfl rfl rfl rfl ?_
                    exact WA_end (by kernel_rfl) (Meet.mk rfl rfl rfl rfl)
                  · refine WB_run [0] rfl rfl (WX_lit G 3 rfl rfl rfl rfl rfl rfl rfl rfl (WL_nil ⟨rfl, ?_⟩))
                    refine WA_branch (rs := [4]) (by kernel_rfl) rfl (AllB.cons ?_ AllB.nil)
                    refine WB_run [0] rfl rfl (WX_append G (by exact Nat.le_of_ble_eq_true rfl) rfl rfl rfl rfl rfl rfl rfl rfl rfl (by simp; omega) rfl rfl (WL_nil ⟨rfl, ?_⟩))
                    refine WA_branch (rs := [7]) (by kernel_rfl) rfl (AllB.cons ?_ AllB.nil)
                    refine WB_run [0] rfl rfl (WX_append G (by exact Nat.le_of_ble_eq_true rfl) rfl rfl rfl rfl rfl rfl rfl rfl rfl (by simp; omega) rfl rfl (WL_nil ⟨rfl, ?_⟩))
                    refine WA_branch (rs := [9]) (by kernel_rfl) rfl (AllB.cons ?_ AllB.nil)
                    refine WB_run [0] rfl rfl (WX_append G (by exact Nat.le_of_ble_eq_true rfl) rfl rfl rfl rfl rfl rfl rfl rfl rfl (by simp; omega) rfl rfl (WL_nil ⟨rfl, ?_⟩))
                    refine WA_take 10 rfl (by kernel_rfl) (by kernel_rfl) rfl rfl rfl rfl (q_assign rfl rfl) (?_)
                    refine WA_ren (tx := 8) 4 rfl rfl rfl rfl ?_
                    exact WA_end (by kernel_rfl) (Meet.mk rfl rfl rfl rfl)
                · refine WB_run [0] rfl rfl (WX_lit G 2 rfl rfl rfl rfl rfl rfl rfl rfl (WL_nil ⟨rfl, ?_⟩))
                  refine WA_branch (rs := [0]) (by kernel_rfl) rfl (AllB.cons ?_ AllB.nil)
                  refine WB_run [0] rfl rfl (WX_lit G 3 rfl rfl rfl rfl rfl rfl rfl rfl (WL_nil ⟨rfl, ?_⟩))
                  refine WA_branch (rs := [4]) (by kernel_rfl) rfl (AllB.cons ?_ AllB.nil)
                  refine WB_run [0] rfl rfl (WX_append G (by exact Nat.le_of_ble_eq_true rfl) rfl rfl rfl rfl rfl rfl rfl rfl rfl (by simp; omega) rfl rfl (WL_nil ⟨rfl, ?_⟩))
                  refine WA_branch (rs := [7]) (by kernel_rfl) rfl (AllB.cons ?_ AllB.nil)
                  refine WB_run [0] rfl rfl (WX_append G (by exact Nat.le_of_ble_eq_true rfl) rfl rfl rfl rfl rfl rfl rfl rfl rfl (by simp; omega) rfl rfl (WL_nil ⟨rfl, ?_⟩))
                  refine WA_branch (rs := [9]) (by kernel_rfl) rfl (AllB.cons ?_ AllB.nil)
                  refine WB_run [0] rfl rfl (WX_append G (by exact Nat.le_of_ble_eq_true rfl) rfl rfl rfl rfl rfl rfl rfl rfl rfl (by simp; omega) rfl rfl (WL_nil ⟨rfl, ?_⟩))
                  refine WA_take 10 rfl (by kernel_rfl) (by kernel_rfl) rfl rfl rfl rfl (q_assign rfl rfl) (?_)
                  refine WA_ren (tx := 8) 4 rfl rfl rfl rfl ?_
                  exact WA_end (by kernel_rfl) (Meet.mk rfl rfl rfl rfl)
              · clear hK17 K17
                refine W_eqrow (id := 3) ((putL xs v).map encTc) rfl (by first | (rw [put_at, put_rest, put_rest1, ← xs_put1 h1 (by omega) hinv.2 (by omega)]; simp [encTc]; done) | (rw [put_at, put_rest, ← xs_put h1 (by omega) hinv.2 (fun hk => by omega)]; simp [encTc]; done)) ?_
                refine W_seq (fun K18 hK18 => ?_)
                refine W_seq (fun K19 hK19 => ?_)
                refine W_region (WL_cons rfl (WX_q rfl rfl (q_move rfl rfl) (WL_cons rfl (?_))))
                refine WX_q rfl rfl (q_call rfl (ArgsOK.of rfl) (c_spec_l24Good _ (by first | assumption | (have := putL_len (xs := xs) (s := v); omega)) (by first | assumption | exact putL_names hz hv)) rfl) ?_
                refine WL_cons rfl (WX_q rfl rfl (q_not rfl rfl) (?_))
                refine WL_nil (hK19 _ ?_)
                clear hK19 K19
                refine W_cond rfl (fun h7 => ?_) (fun h7 => ?_)
                · try rw [h7]
                  try simp only [decide_eq_true_eq, decide_eq_false_iff_not, beq_iff_eq, bne_iff_ne, ne_eq, Bool.not_eq_true', Bool.not_eq_false', beq_eq_false_iff_ne, bne_eq_false_iff_eq, Bool.not_eq_true, Bool.not_eq_false, Int.not_lt, Int.not_le, gt_iff_lt, ge_iff_le, Bool.and_eq_true, Bool.and_eq_false_iff, Bool.or_eq_true, Bool.or_eq_false_iff] at h7
                  refine W_seq (fun K20 hK20 => ?_)
                  refine W_region (WL_cons rfl (WX_lit G 5 rfl rfl rfl rfl rfl rfl rfl rfl (WL_cons rfl (WX_q rfl rfl (q_assign rfl rfl) (WL_cons rfl (WX_q rfl rfl (q_assign rfl rfl) (?_)))))))
                  refine WL_nil (hK20 _ ?_)
                  clear hK20 K20
                  refine W_ret (fin_many rfl rfl rfl rfl (rcs_cons (rc_own rfl ?_) (rcs_cons (rc_v ?_) rcs_nil)))
                  all_goals clear hK18 K18
                  all_goals (first | rfl | (simp [ptOK, ptT, h1]; done) | (have e : ptOK xs v = true := (by simp_all [ptOK]); simp [ptT, e]; done) | (have e : ptOK xs v = false := (by simp_all [ptOK]); simp [ptT, e]; done))
                · try rw [h7]
                  try simp only [decide_eq_true_eq, decide_eq_false_iff_not, beq_iff_eq, bne_iff_ne, ne_eq, Bool.not_eq_true', Bool.not_eq_false', beq_eq_false_iff_ne, bne_eq_false_iff_eq, Bool.not_eq_true, Bool.not_eq_false, Int.not_lt, Int.not_le, gt_iff_lt, ge_iff_le, Bool.and_eq_true, Bool.and_eq_false_iff, Bool.or_eq_true, Bool.or_eq_false_iff] at h7
                  refine W_skip (hK18 _ ?_)
                  clear hK18 K18
                  refine W_seq (fun K21 hK21 => ?_)
                  refine W_region (WL_cons rfl (WX_q rfl rfl (q_move rfl rfl) (WL_cons rfl (WX_q rfl rfl (q_assign rfl rfl) (WL_cons rfl (WX_q rfl rfl (q_assign rfl rfl) (?_)))))))
                  refine WL_nil (hK21 _ ?_)
                  clear hK21 K21
                  refine W_ret (fin_many rfl rfl rfl rfl (rcs_cons (rc_own rfl ?_) (rcs_cons (rc_v ?_) rcs_nil)))
                  all_goals (first | rfl | (simp [ptOK, ptT, h1]; done) | (have e : ptOK xs v = true := (by simp_all [ptOK]); simp [ptT, e]; done) | (have e : ptOK xs v = false := (by simp_all [ptOK]); simp [ptT, e]; done))
          · try rw [h4]
            try simp only [decide_eq_true_eq, decide_eq_false_iff_not, beq_iff_eq, bne_iff_ne, ne_eq, Bool.not_eq_true', Bool.not_eq_false', beq_eq_false_iff_ne, bne_eq_false_iff_eq, Bool.not_eq_true, Bool.not_eq_false, Int.not_lt, Int.not_le, gt_iff_lt, ge_iff_le, Bool.and_eq_true, Bool.and_eq_false_iff, Bool.or_eq_true, Bool.or_eq_false_iff] at h4
            refine QL_skip rfl rfl rfl rfl rfl rfl (QL_skip rfl rfl rfl rfl rfl rfl (QL_skip rfl rfl rfl rfl rfl rfl (QL_skip rfl rfl rfl rfl rfl rfl (QL_skip rfl rfl rfl rfl rfl rfl (QL_skip rfl rfl rfl rfl rfl rfl (QL_skip rfl rfl rfl rfl rfl rfl (QL_cons rfl (QX_q rfl rfl (q_pick_f rfl rfl rfl) (?_)))))))))
            refine QL_nil (hK11 _ ?_)
            clear hK11 K11
            refine W_false rfl ?_
            refine W_skip (hK10 _ ?_)
            clear hK10 K10
            refine W_seq (fun K22 hK22 => ?_)
            apply W_drawsJ [8] [3] 4 11 [0] mixed (by kernel_rfl) rfl rfl hK22
            · intro r0
              refine WA_take 1 rfl (by kernel_rfl) (by kernel_rfl) rfl rfl rfl rfl (q_move rfl rfl) (WA_take 2 rfl (by kernel_rfl) (by kernel_rfl) rfl rfl rfl rfl (q_move rfl rfl) (?_))
              first | refine WA_take 3 rfl (by kernel_rfl) (by kernel_rfl) rfl rfl rfl rfl (q_cut_lst G rfl rfl rfl rfl rfl (by omega) (by omega) (by omega)) ?_ | refine WA_take 3 rfl (by kernel_rfl) (by kernel_rfl) rfl rfl rfl rfl (q_cut_lst G rfl rfl rfl rfl rfl (by omega) (by first | (simp; done) | (simp; omega)) (by first | (simp; done) | (simp; omega))) ?_
              refine WA_take 5 rfl (by kernel_rfl) (by kernel_rfl) rfl rfl rfl rfl (q_load_box_struct G rfl rfl rfl rfl rfl rfl) (WA_take 8 rfl (by kernel_rfl) (by kernel_rfl) rfl rfl rfl rfl (q_move rfl rfl) (?_))
              refine WA_branch (rs := [0, 6]) (by kernel_rfl) rfl (AllB.cons ?_ (AllB.cons ?_ AllB.nil))
              · refine WB_run [0] rfl rfl (WX_lit G 2 rfl rfl rfl rfl rfl rfl rfl rfl (WL_nil ⟨rfl, ?_⟩))
                refine WA_branch (rs := [4, 6]) (by kernel_rfl) rfl (AllB.cons ?_ (AllB.cons ?_ AllB.nil))
                · refine WB_run [0] rfl rfl (WX_append G (by exact Nat.le_of_ble_eq_true rfl) rfl rfl rfl rfl rfl rfl rfl rfl rfl (by simp; omega) rfl rfl (WL_nil ⟨rfl, ?_⟩))
                  refine WA_branch (rs := [6]) (by kernel_rfl) rfl (AllB.cons ?_ AllB.nil)
                  refine WB_run [0] rfl rfl (WX_lit G 3 rfl rfl rfl rfl rfl rfl rfl rfl (WL_nil ⟨rfl, ?_⟩))
                  refine WA_branch (rs := [7]) (by kernel_rfl) rfl (AllB.cons ?_ AllB.nil)
                  refine WB_run [0] rfl rfl (WX_append G (by exact Nat.le_of_ble_eq_true rfl) rfl rfl rfl rfl rfl rfl rfl rfl rfl (by simp; omega) rfl rfl (WL_nil ⟨rfl, ?_⟩))
                  refine WA_branch (rs := [9]) (by kernel_rfl) rfl (AllB.cons ?_ AllB.nil)
                  refine WB_run [0] rfl rfl (WX_append G (by exact Nat.le_of_ble_eq_true rfl) rfl rfl rfl rfl rfl rfl rfl rfl rfl (by simp; omega) rfl rfl (WL_nil ⟨rfl, ?_⟩))
                  refine WA_take 10 rfl (by kernel_rfl) (by kernel_rfl) rfl rfl rfl rfl (q_assign rfl rfl) (?_)
                  refine WA_ren (tx := 8) 4 rfl rfl rfl rfl ?_
                  exact WA_end (by kernel_rfl) (Meet.mk rfl rfl rfl rfl)
                · refine WB_run [0] rfl rfl (WX_lit G 3 rfl rfl rfl rfl rfl rfl rfl rfl (WL_nil ⟨rfl, ?_⟩))
                  refine WA_branch (rs := [4]) (by kernel_rfl) rfl (AllB.cons ?_ AllB.nil)
                  refine WB_run [0] rfl rfl (WX_append G (by exact Nat.le_of_ble_eq_true rfl) rfl rfl rfl rfl rfl rfl rfl rfl rfl (by simp; omega) rfl rfl (WL_nil ⟨rfl, ?_⟩))
                  refine WA_branch (rs := [7]) (by kernel_rfl) rfl (AllB.cons ?_ AllB.nil)
                  refine WB_run [0] rfl rfl (WX_append G (by exact Nat.le_of_ble_eq_true rfl) rfl rfl rfl rfl rfl rfl rfl rfl rfl (by simp; omega) rfl rfl (WL_nil ⟨rfl, ?_⟩))
                  refine WA_branch (rs := [9]) (by kernel_rfl) rfl (AllB.cons ?_ AllB.nil)
                  refine WB_run [0] rfl rfl (WX_append G (by exact Nat.le_of_ble_eq_true rfl) rfl rfl rfl rfl rfl rfl rfl rfl rfl (by simp; omega) rfl rfl (WL_nil ⟨rfl, ?_⟩))
                  refine WA_take 10 rfl (by kernel_rfl) (by kernel_rfl) rfl rfl rfl rfl (q_assign rfl rfl) (?_)
                  refine WA_ren (tx := 8) 4 rfl rfl rfl rfl ?_
                  exact WA_end (by kernel_rfl) (Meet.mk rfl rfl rfl rfl)
              · refine WB_run [0] rfl rfl (WX_lit G 2 rfl rfl rfl rfl rfl rfl rfl rfl (WL_nil ⟨rfl, ?_⟩))
                refine WA_branch (rs := [0]) (by kernel_rfl) rfl (AllB.cons ?_ AllB.nil)
                refine WB_run [0] rfl rfl (WX_lit G 3 rfl rfl rfl rfl rfl rfl rfl rfl (WL_nil ⟨rfl, ?_⟩))
                refine WA_branch (rs := [4]) (by kernel_rfl) rfl (AllB.cons ?_ AllB.nil)
                refine WB_run [0] rfl rfl (WX_append G (by exact Nat.le_of_ble_eq_true rfl) rfl rfl rfl rfl rfl rfl rfl rfl rfl (by simp; omega) rfl rfl (WL_nil ⟨rfl, ?_⟩))
                refine WA_branch (rs := [7]) (by kernel_rfl) rfl (AllB.cons ?_ AllB.nil)
                refine WB_run [0] rfl rfl (WX_append G (by exact Nat.le_of_ble_eq_true rfl) rfl rfl rfl rfl rfl rfl rfl rfl rfl (by simp; omega) rfl rfl (WL_nil ⟨rfl, ?_⟩))
                refine WA_branch (rs := [9]) (by kernel_rfl) rfl (AllB.cons ?_ AllB.nil)
                refine WB_run [0] rfl rfl (WX_append G (by exact Nat.le_of_ble_eq_true rfl) rfl rfl rfl rfl rfl rfl rfl rfl rfl (by simp; omega) rfl rfl (WL_nil ⟨rfl, ?_⟩))
                refine WA_take 10 rfl (by kernel_rfl) (by kernel_rfl) rfl rfl rfl rfl (q_assign rfl rfl) (?_)
                refine WA_ren (tx := 8) 4 rfl rfl rfl rfl ?_
                exact WA_end (by kernel_rfl) (Meet.mk rfl rfl rfl rfl)
            · clear hK22 K22
              refine W_eqrow (id := 3) ((putL xs v).map encTc) rfl (by first | (rw [put_at, put_rest, put_rest1, ← xs_put1 h1 (by omega) hinv.2 (by omega)]; simp [encTc]; done) | (rw [put_at, put_rest, ← xs_put h1 (by omega) hinv.2 (fun hk => by omega)]; simp [encTc]; done)) ?_
              refine W_seq (fun K23 hK23 => ?_)
              refine W_seq (fun K24 hK24 => ?_)
              refine W_region (WL_cons rfl (WX_q rfl rfl (q_move rfl rfl) (WL_cons rfl (?_))))
              refine WX_q rfl rfl (q_call rfl (ArgsOK.of rfl) (c_spec_l24Good _ (by first | assumption | (have := putL_len (xs := xs) (s := v); omega)) (by first | assumption | exact putL_names hz hv)) rfl) ?_
              refine WL_cons rfl (WX_q rfl rfl (q_not rfl rfl) (?_))
              refine WL_nil (hK24 _ ?_)
              clear hK24 K24
              refine W_cond rfl (fun h8 => ?_) (fun h8 => ?_)
              · try rw [h8]
                try simp only [decide_eq_true_eq, decide_eq_false_iff_not, beq_iff_eq, bne_iff_ne, ne_eq, Bool.not_eq_true', Bool.not_eq_false', beq_eq_false_iff_ne, bne_eq_false_iff_eq, Bool.not_eq_true, Bool.not_eq_false, Int.not_lt, Int.not_le, gt_iff_lt, ge_iff_le, Bool.and_eq_true, Bool.and_eq_false_iff, Bool.or_eq_true, Bool.or_eq_false_iff] at h8
                refine W_seq (fun K25 hK25 => ?_)
                refine W_region (WL_cons rfl (WX_lit G 5 rfl rfl rfl rfl rfl rfl rfl rfl (WL_cons rfl (WX_q rfl rfl (q_assign rfl rfl) (WL_cons rfl (WX_q rfl rfl (q_assign rfl rfl) (?_)))))))
                refine WL_nil (hK25 _ ?_)
                clear hK25 K25
                refine W_ret (fin_many rfl rfl rfl rfl (rcs_cons (rc_own rfl ?_) (rcs_cons (rc_v ?_) rcs_nil)))
                all_goals clear hK23 K23
                all_goals (first | rfl | (simp [ptOK, ptT, h1]; done) | (have e : ptOK xs v = true := (by simp_all [ptOK]); simp [ptT, e]; done) | (have e : ptOK xs v = false := (by simp_all [ptOK]); simp [ptT, e]; done))
              · try rw [h8]
                try simp only [decide_eq_true_eq, decide_eq_false_iff_not, beq_iff_eq, bne_iff_ne, ne_eq, Bool.not_eq_true', Bool.not_eq_false', beq_eq_false_iff_ne, bne_eq_false_iff_eq, Bool.not_eq_true, Bool.not_eq_false, Int.not_lt, Int.not_le, gt_iff_lt, ge_iff_le, Bool.and_eq_true, Bool.and_eq_false_iff, Bool.or_eq_true, Bool.or_eq_false_iff] at h8
                refine W_skip (hK23 _ ?_)
                clear hK23 K23
                refine W_seq (fun K26 hK26 => ?_)
                refine W_region (WL_cons rfl (WX_q rfl rfl (q_move rfl rfl) (WL_cons rfl (WX_q rfl rfl (q_assign rfl rfl) (WL_cons rfl (WX_q rfl rfl (q_assign rfl rfl) (?_)))))))
                refine WL_nil (hK26 _ ?_)
                clear hK26 K26
                refine W_ret (fin_many rfl rfl rfl rfl (rcs_cons (rc_own rfl ?_) (rcs_cons (rc_v ?_) rcs_nil)))
                all_goals (first | rfl | (simp [ptOK, ptT, h1]; done) | (have e : ptOK xs v = true := (by simp_all [ptOK]); simp [ptT, e]; done) | (have e : ptOK xs v = false := (by simp_all [ptOK]); simp [ptT, e]; done))
      · try rw [h2]
        try simp only [decide_eq_true_eq, decide_eq_false_iff_not, beq_iff_eq, bne_iff_ne, ne_eq, Bool.not_eq_true', Bool.not_eq_false', beq_eq_false_iff_ne, bne_eq_false_iff_eq, Bool.not_eq_true, Bool.not_eq_false, Int.not_lt, Int.not_le, gt_iff_lt, ge_iff_le, Bool.and_eq_true, Bool.and_eq_false_iff, Bool.or_eq_true, Bool.or_eq_false_iff] at h2
        refine QL_skip rfl rfl rfl rfl rfl rfl (QL_skip rfl rfl rfl rfl rfl rfl (QL_skip rfl rfl rfl rfl rfl rfl (QL_skip rfl rfl rfl rfl rfl rfl (QL_skip rfl rfl rfl rfl rfl rfl (QL_skip rfl rfl rfl rfl rfl rfl (QL_skip rfl rfl rfl rfl rfl rfl (QL_skip rfl rfl rfl rfl rfl rfl (QL_cons rfl (QX_q rfl rfl (q_pick_f rfl rfl rfl) (?_))))))))))
        refine QL_nil (hK8 _ ?_)
        clear hK8 K8
        refine W_false rfl ?_
        refine W_exit (hK6 _ ?_)
        clear hK7 K7 hK6 K6
        refine W_seq (fun K27 hK27 => ?_)
        refine W_region (WL_cons rfl (WX_q rfl rfl (q_move rfl rfl) (WL_cons rfl (WX_q rfl rfl (q_move rfl rfl) (WL_cons rfl (?_))))))
        first | refine WX_q rfl rfl (q_cut_lst G rfl rfl rfl rfl rfl (by omega) (by omega) (by omega)) ?_ | refine WX_q rfl rfl (q_cut_lst G rfl rfl rfl rfl rfl (by omega) (by first | (simp; done) | (simp; omega)) (by first | (simp; done) | (simp; omega))) ?_
        refine WL_cons rfl (WX_q rfl rfl (q_assign rfl rfl) (?_))
        refine WL_nil (hK27 _ ?_)
        clear hK27 K27
        refine W_seq (fun K28 hK28 => ?_)
        refine W_seq (fun K29 hK29 => ?_)
        refine W_draws mixed (by kernel_rfl) (QL_cons rfl (QX_q rfl rfl (q_move rfl rfl) (QL_cons rfl (?_))))
        first | refine QX_q rfl rfl (q_len' G rfl rfl rfl rfl rest_len) ?_ | refine QX_q rfl rfl (q_len' G rfl rfl rfl rfl (List.length_map _)) ?_ | refine QX_q rfl rfl (q_len G rfl rfl rfl rfl) ?_
        refine QL_cons rfl (QX_q rfl rfl (q_cmp rfl rfl rfl rfl) (QL_cons rfl (QX_q rfl rfl (q_move rfl rfl) (QL_part rfl rfl rfl (fun h9 => ?_) (fun h9 => ?_)))))
        · try rw [h9]
          try simp only [decide_eq_true_eq, decide_eq_false_iff_not, beq_iff_eq, bne_iff_ne, ne_eq, Bool.not_eq_true', Bool.not_eq_false', beq_eq_false_iff_ne, bne_eq_false_iff_eq, Bool.not_eq_true, Bool.not_eq_false, Int.not_lt, Int.not_le, gt_iff_lt, ge_iff_le, Bool.and_eq_true, Bool.and_eq_false_iff, Bool.or_eq_true, Bool.or_eq_false_iff] at h9
          refine QL_run rfl rfl rfl (QX_q rfl rfl (q_move rfl rfl) (QL_run rfl rfl rfl (?_)))
          first | refine QX_q rfl rfl (q_index_lst G rfl rfl rfl rfl (by omega) (getN (by omega))) ?_ | refine QX_q rfl rfl (q_index_lst G rfl rfl rfl rfl (by omega) (getRest (by omega))) ?_
          refine QL_run rfl rfl rfl (QX_q rfl rfl (q_field_ept G rfl rfl rfl rfl) (QL_run rfl rfl rfl (QX_q rfl rfl (q_load_ept G rfl rfl rfl rfl rfl) (QL_run rfl rfl rfl (QX_q rfl rfl (q_field_ptr G rfl rfl rfl rfl) (QL_run rfl rfl rfl (QX_q rfl rfl (q_load_box G rfl rfl rfl rfl rfl rfl rfl) (QL_run rfl rfl rfl (QX_q rfl rfl (q_cmp rfl rfl rfl rfl) (QL_cons rfl (QX_q rfl rfl (q_pick_t rfl rfl rfl) (?_))))))))))))
          refine QL_nil (hK29 _ ?_)
          clear hK29 K29
          refine W_cond rfl (fun h10 => ?_) (fun h10 => ?_)
          · try rw [h10]
            try simp only [decide_eq_true_eq, decide_eq_false_iff_not, beq_iff_eq, bne_iff_ne, ne_eq, Bool.not_eq_true', Bool.not_eq_false', beq_eq_false_iff_ne, bne_eq_false_iff_eq, Bool.not_eq_true, Bool.not_eq_false, Int.not_lt, Int.not_le, gt_iff_lt, ge_iff_le, Bool.and_eq_true, Bool.and_eq_false_iff, Bool.or_eq_true, Bool.or_eq_false_iff] at h10
            refine W_region (WL_cons rfl (WX_q rfl rfl (q_move rfl rfl) (WL_cons rfl (?_))))
            first | refine WX_q rfl rfl (q_cut_lst G rfl rfl rfl rfl rfl (by omega) (by omega) (by omega)) ?_ | refine WX_q rfl rfl (q_cut_lst G rfl rfl rfl rfl rfl (by omega) (by first | (simp; done) | (simp; omega)) (by first | (simp; done) | (simp; omega))) ?_
            refine WL_cons rfl (WX_q rfl rfl (q_assign rfl rfl) (?_))
            refine WL_nil (hK28 _ ?_)
            clear hK28 K28
            refine W_seq (fun K30 hK30 => ?_)
            apply W_drawsJ [8] [3] 4 11 [0] mixed (by kernel_rfl) rfl rfl hK30
            · intro r0
              refine WA_take 1 rfl (by kernel_rfl) (by kernel_rfl) rfl rfl rfl rfl (q_move rfl rfl) (WA_take 2 rfl (by kernel_rfl) (by kernel_rfl) rfl rfl rfl rfl (q_move rfl rfl) (?_))
              first | refine WA_take 3 rfl (by kernel_rfl) (by kernel_rfl) rfl rfl rfl rfl (q_cut_lst G rfl rfl rfl rfl rfl (by omega) (by omega) (by omega)) ?_ | refine WA_take 3 rfl (by kernel_rfl) (by kernel_rfl) rfl rfl rfl rfl (q_cut_lst G rfl rfl rfl rfl rfl (by omega) (by first | (simp; done) | (simp; omega)) (by first | (simp; done) | (simp; omega))) ?_
              refine WA_take 5 rfl (by kernel_rfl) (by kernel_rfl) rfl rfl rfl rfl (q_load_box_struct G rfl rfl rfl rfl rfl rfl) (WA_take 8 rfl (by kernel_rfl) (by kernel_rfl) rfl rfl rfl rfl (q_move rfl rfl) (?_))
              refine WA_branch (rs := [0, 6]) (by kernel_rfl) rfl (AllB.cons ?_ (AllB.cons ?_ AllB.nil))
              · refine WB_run [0] rfl rfl (WX_lit G 2 rfl rfl rfl rfl rfl rfl rfl rfl (WL_nil ⟨rfl, ?_⟩))
                refine WA_branch (rs := [4, 6]) (by kernel_rfl) rfl (AllB.cons ?_ (AllB.cons ?_ AllB.nil))
                · refine WB_run [0] rfl rfl (WX_append G (by exact Nat.le_of_ble_eq_true rfl) rfl rfl rfl rfl rfl rfl rfl rfl rfl (by simp; omega) rfl rfl (WL_nil ⟨rfl, ?_⟩))
                  refine WA_branch (rs := [6]) (by kernel_rfl) rfl (AllB.cons ?_ AllB.nil)
                  refine WB_run [0] rfl rfl (WX_lit G 3 rfl rfl rfl rfl rfl rfl rfl rfl (WL_nil ⟨rfl, ?_⟩))
                  refine WA_branch (rs := [7]) (by kernel_rfl) rfl (AllB.cons ?_ AllB.nil)
                  refine WB_run [0] rfl rfl (WX_append G (by exact Nat.le_of_ble_eq_true rfl) rfl rfl rfl rfl rfl rfl rfl rfl rfl (by simp; omega) rfl rfl (WL_nil ⟨rfl, ?_⟩))
                  refine WA_branch (rs := [9]) (by kernel_rfl) rfl (AllB.cons ?_ AllB.nil)
                  refine WB_run [0] rfl rfl (WX_append G (by exact Nat.le_of_ble_eq_true rfl) rfl rfl rfl rfl rfl rfl rfl rfl rfl (by simp; omega) rfl rfl (WL_nil ⟨rfl, ?_⟩))
                  refine WA_take 10 rfl (by kernel_rfl) (by kernel_rfl) rfl rfl rfl rfl (q_assign rfl rfl) (?_)
                  refine WA_ren (tx := 8) 4 rfl rfl rfl rfl ?_
                  exact WA_end (by kernel_rfl) (Meet.mk rfl rfl rfl rfl)
                · refine WB_run [0] rfl rfl (WX_lit G 3 rfl rfl rfl rfl rfl rfl rfl rfl (WL_nil ⟨rfl, ?_⟩))
                  refine WA_branch (rs := [4]) (by kernel_rfl) rfl (AllB.cons ?_ AllB.nil)
                  refine WB_run [0] rfl rfl (WX_append G (by exact Nat.le_of_ble_eq_true rfl) rfl rfl rfl rfl rfl rfl rfl rfl rfl (by simp; omega) rfl rfl (WL_nil ⟨rfl, ?_⟩))
                  refine WA_branch (rs := [7]) (by kernel_rfl) rfl (AllB.cons ?_ AllB.nil)
                  refine WB_run [0] rfl rfl (WX_append G (by exact Nat.le_of_ble_eq_true rfl) rfl rfl rfl rfl rfl rfl rfl rfl rfl (by simp; omega) rfl rfl (WL_nil ⟨rfl, ?_⟩))
                  refine WA_branch (rs := [9]) (by kernel_rfl) rfl (AllB.cons ?_ AllB.nil)
                  refine WB_run [0] rfl rfl (WX_append G (by exact Nat.le_of_ble_eq_true rfl) rfl rfl rfl rfl rfl rfl rfl rfl rfl (by simp; omega) rfl rfl (WL_nil ⟨rfl, ?_⟩))
                  refine WA_take 10 rfl (by kernel_rfl) (by kernel_rfl) rfl rfl rfl rfl (q_assign rfl rfl) (?_)
                  refine WA_ren (tx := 8) 4 rfl rfl rfl rfl ?_
                  exact WA_end (by kernel_rfl) (Meet.mk rfl rfl rfl rfl)
              · refine WB_run [0] rfl rfl (WX_lit G 2 rfl rfl rfl rfl rfl rfl rfl rfl (WL_nil ⟨rfl, ?_⟩))
                refine WA_branch (rs := [0]) (by kernel_rfl) rfl (AllB.cons ?_ AllB.nil)
                refine WB_run [0] rfl rfl (WX_lit G 3 rfl rfl rfl rfl rfl rfl rfl rfl (WL_nil ⟨rfl, ?_⟩))
                refine WA_branch (rs := [4]) (by kernel_rfl) rfl (AllB.cons ?_ AllB.nil)
                refine WB_run [0] rfl rfl (WX_append G (by exact Nat.le_of_ble_eq_true rfl) rfl rfl rfl rfl rfl rfl rfl rfl rfl (by simp; omega) rfl rfl (WL_nil ⟨rfl, ?_⟩))
                refine WA_branch (rs := [7]) (by kernel_rfl) rfl (AllB.cons ?_ AllB.nil)
                refine WB_run [0] rfl rfl (WX_append G (by exact Nat.le_of_ble_eq_true rfl) rfl rfl rfl rfl rfl rfl rfl rfl rfl (by simp; omega) rfl rfl (WL_nil ⟨rfl, ?_⟩))
                refine WA_branch (rs := [9]) (by kernel_rfl) rfl (AllB.cons ?_ AllB.nil)
                refine WB_run [0] rfl rfl (WX_append G (by exact Nat.le_of_ble_eq_true rfl) rfl rfl rfl rfl rfl rfl rfl rfl rfl (by simp; omega) rfl rfl (WL_nil ⟨rfl, ?_⟩))
                refine WA_take 10 rfl (by kernel_rfl) (by kernel_rfl) rfl rfl rfl rfl (q_assign rfl rfl) (?_)
                refine WA_ren (tx := 8) 4 rfl rfl rfl rfl ?_
                exact WA_end (by kernel_rfl) (Meet.mk rfl rfl rfl rfl)
            · clear hK30 K30
              refine W_eqrow (id := 3) ((putL xs v).map encTc) rfl (by first | (rw [put_at, put_rest, put_rest1, ← xs_put1 h1 (by omega) hinv.2 (by omega)]; simp [encTc]; done) | (rw [put_at, put_rest, ← xs_put h1 (by omega) hinv.2 (fun hk => by omega)]; simp [encTc]; done)) ?_
              refine W_seq (fun K31 hK31 => ?_)
              refine W_seq (fun K32 hK32 => ?_)
              refine W_region (WL_cons rfl (WX_q rfl rfl (q_move rfl rfl) (WL_cons rfl (?_))))
              refine WX_q rfl rfl (q_call rfl (ArgsOK.of rfl) (c_spec_l24Good _ (by first | assumption | (have := putL_len (xs := xs) (s := v); omega)) (by first | assumption | exact putL_names hz hv)) rfl) ?_
              refine WL_cons rfl (WX_q rfl rfl (q_not rfl rfl) (?_))
              refine WL_nil (hK32 _ ?_)
              clear hK32 K32
              refine W_cond rfl (fun h11 => ?_) (fun h11 => ?_)
              · try rw [h11]
                try simp only [decide_eq_true_eq, decide_eq_false_iff_not, beq_iff_eq, bne_iff_ne, ne_eq, Bool.not_eq_true', Bool.not_eq_false', beq_eq_false_iff_ne, bne_eq_false_iff_eq, Bool.not_eq_true, Bool.not_eq_false, Int.not_lt, Int.not_le, gt_iff_lt, ge_iff_le, Bool.and_eq_true, Bool.and_eq_false_iff, Bool.or_eq_true, Bool.or_eq_false_iff] at h11
                refine W_seq (fun K33 hK33 => ?_)
                refine W_region (WL_cons rfl (WX_lit G 5 rfl rfl rfl rfl rfl rfl rfl rfl (WL_cons rfl (WX_q rfl rfl (q_assign rfl rfl) (WL_cons rfl (WX_q rfl rfl (q_assign rfl rfl) (?_)))))))
                refine WL_nil (hK33 _ ?_)
                clear hK33 K33
                refine W_ret (fin_many rfl rfl rfl rfl (rcs_cons (rc_own rfl ?_) (rcs_cons (rc_v ?_) rcs_nil)))
                all_goals clear hK31 K31
                all_goals (first | rfl | (simp [ptOK, ptT, h1]; done) | (have e : ptOK xs v = true := (by simp_all [ptOK]); simp [ptT, e]; done) | (have e : ptOK xs v = false := (by simp_all [ptOK]); simp [ptT, e]; done))
              · try rw [h11]
                try simp only [decide_eq_true_eq, decide_eq_false_iff_not, beq_iff_eq, bne_iff_ne, ne_eq, Bool.not_eq_true', Bool.not_eq_false', beq_eq_false_iff_ne, bne_eq_false_iff_eq, Bool.not_eq_true, Bool.not_eq_false, Int.not_lt, Int.not_le, gt_iff_lt, ge_iff_le, Bool.and_eq_true, Bool.and_eq_false_iff, Bool.or_eq_true, Bool.or_eq_false_iff] at h11
                refine W_skip (hK31 _ ?_)
                clear hK31 K31
                refine W_seq (fun K34 hK34 => ?_)
                refine W_region (WL_cons rfl (WX_q rfl rfl (q_move rfl rfl) (WL_cons rfl (WX_q rfl rfl (q_assign rfl rfl) (WL_cons rfl (WX_q rfl rfl (q_assign rfl rfl) (?_)))))))
                refine WL_nil (hK34 _ ?_)
                clear hK34 K34
                refine W_ret (fin_many rfl rfl rfl rfl (rcs_cons (rc_own rfl ?_) (rcs_cons (rc_v ?_) rcs_nil)))
                all_goals (first | rfl | (simp [ptOK, ptT, h1]; done) | (have e : ptOK xs v = true := (by simp_all [ptOK]); simp [ptT, e]; done) | (have e : ptOK xs v = false := (by simp_all [ptOK]); simp [ptT, e]; done))
          · try rw [h10]
            try simp only [decide_eq_true_eq, decide_eq_false_iff_not, beq_iff_eq, bne_iff_ne, ne_eq, Bool.not_eq_true', Bool.not_eq_false', beq_eq_false_iff_ne, bne_eq_false_iff_eq, Bool.not_eq_true, Bool.not_eq_false, Int.not_lt, Int.not_le, gt_iff_lt, ge_iff_le, Bool.and_eq_true, Bool.and_eq_false_iff, Bool.or_eq_true, Bool.or_eq_false_iff] at h10
            refine W_skip (hK28 _ ?_)
            clear hK28 K28
            refine W_seq (fun K35 hK35 => ?_)
            apply W_drawsJ [8] [3] 4 11 [0] mixed (by kernel_rfl) rfl rfl hK35
            · intro r0
              refine WA_take 1 rfl (by kernel_rfl) (by kernel_rfl) rfl rfl rfl rfl (q_move rfl rfl) (WA_take 2 rfl (by kernel_rfl) (by kernel_rfl) rfl rfl rfl rfl (q_move rfl rfl) (?_))
              first | refine WA_take 3 rfl (by kernel_rfl) (by kernel_rfl) rfl rfl rfl rfl (q_cut_lst G rfl rfl rfl rfl rfl (by omega) (by omega) (by omega)) ?_ | refine WA_take 3 rfl (by kernel_rfl) (by kernel_rfl) rfl rfl rfl rfl (q_cut_lst G rfl rfl rfl rfl rfl (by omega) (by first | (simp; done) | (simp; omega)) (by first | (simp; done) | (simp; omega))) ?_
              refine WA_take 5 rfl (by kernel_rfl) (by kernel_rfl) rfl rfl rfl rfl (q_load_box_struct G rfl rfl rfl rfl rfl rfl) (WA_take 8 rfl (by kernel_rfl) (by kernel_rfl) rfl rfl rfl rfl (q_move rfl rfl) (?_))
              refine WA_branch (rs := [0, 6]) (by kernel_rfl) rfl (AllB.cons ?_ (AllB.cons ?_ AllB.nil))
              · refine WB_run [0] rfl rfl (WX_lit G 2 rfl rfl rfl rfl rfl rfl rfl rfl (WL_nil ⟨rfl, ?_⟩))
                refine WA_branch (rs := [4, 6]) (by kernel_rfl) rfl (AllB.cons ?_ (AllB.cons ?_ AllB.nil))
                · refine WB_run [0] rfl rfl (WX_append G (by exact Nat.le_of_ble_eq_true rfl) rfl rfl rfl rfl rfl rfl rfl rfl rfl (by simp; omega) rfl rfl (WL_nil ⟨rfl, ?_⟩))
                  refine WA_branch (rs := [6]) (by kernel_rfl) rfl (AllB.cons ?_ AllB.nil)
                  refine WB_run [0] rfl rfl (WX_lit G 3 rfl rfl rfl rfl rfl rfl rfl rfl (WL_nil ⟨rfl, ?_⟩))
                  refine WA_branch (rs := [7]) (by kernel_rfl) rfl (AllB.cons ?_ AllB.nil)
                  refine WB_run [0] rfl rfl (WX_append G (by exact Nat.le_of_ble_eq_true rfl) rfl rfl rfl rfl rfl rfl rfl rfl rfl (by simp; omega) rfl rfl (WL_nil ⟨rfl, ?_⟩))
                  refine WA_branch (rs := [9]) (by kernel_rfl) rfl (AllB.cons ?_ AllB.nil)
                  refine WB_run [0] rfl rfl (WX_append G (by exact Nat.le_of_ble_eq_true rfl) rfl rfl rfl rfl rfl rfl rfl rfl rfl (by simp; omega) rfl rfl (WL_nil ⟨rfl, ?_⟩))
                  refine WA_take 10 rfl (by kernel_rfl) (by kernel_rfl) rfl rfl rfl rfl (q_assign rfl rfl) (?_)
                  refine WA_ren (tx := 8) 4 rfl rfl rfl rfl ?_
                  exact WA_end (by kernel_rfl) (Meet.mk rfl rfl rfl rfl)
                · refine WB_run [0] rfl rfl (WX_lit G 3 rfl rfl rfl rfl rfl rfl rfl rfl (WL_nil ⟨rfl, ?_⟩))
                  refine WA_branch (rs := [4]) (by kernel_rfl) rfl (AllB.cons ?_ AllB.nil)
                  refine WB_run [0] rfl rfl (WX_append G (by exact Nat.le_of_ble_eq_true rfl) rfl rfl rfl rfl rfl rfl rfl rfl rfl (by simp; omega) rfl rfl (WL_nil ⟨rfl, ?_⟩))
                  refine WA_branch (rs := [7]) (by kernel_rfl) rfl (AllB.cons ?_ AllB.nil)
                  refine WB_run [0] rfl rfl (WX_append G (by exact Nat.le_of_ble_eq_true rfl) rfl rfl rfl rfl rfl rfl rfl rfl rfl (by simp; omega) rfl rfl (WL_nil ⟨rfl, ?_⟩))
                  refine WA_branch (rs := [9]) (by kernel_rfl) rfl (AllB.cons ?_ AllB.nil)
                  refine WB_run [0] rfl rfl (WX_append G (by exact Nat.le_of_ble_eq_true rfl) rfl rfl rfl rfl rfl rfl rfl rfl rfl (by simp; omega) rfl rfl (WL_nil ⟨rfl, ?_⟩))
                  refine WA_take 10 rfl (by kernel_rfl) (by kernel_rfl) rfl rfl rfl rfl (q_assign rfl rfl) (?_)
                  refine WA_ren (tx := 8) 4 rfl rfl rfl rfl ?_
                  exact WA_end (by kernel_rfl) (Meet.mk rfl rfl rfl rfl)
              · refine WB_run [0] rfl rfl (WX_lit G 2 rfl rfl rfl rfl rfl rfl rfl rfl (WL_nil ⟨rfl, ?_⟩))
                refine WA_branch (rs := [0]) (by kernel_rfl) rfl (AllB.cons ?_ AllB.nil)
                refine WB_run [0] rfl rfl (WX_lit G 3 rfl rfl rfl rfl rfl rfl rfl rfl (WL_nil ⟨rfl, ?_⟩))
                refine WA_branch (rs := [4]) (by kernel_rfl) rfl (AllB.cons ?_ AllB.nil)
                refine WB_run [0] rfl rfl (WX_append G (by exact Nat.le_of_ble_eq_true rfl) rfl rfl rfl rfl rfl rfl rfl rfl rfl (by simp; omega) rfl rfl (WL_nil ⟨rfl, ?_⟩))
                refine WA_branch (rs := [7]) (by kernel_rfl) rfl (AllB.cons ?_ AllB.nil)
                refine WB_run [0] rfl rfl (WX_append G (by exact Nat.le_of_ble_eq_true rfl) rfl rfl rfl rfl rfl rfl rfl rfl rfl (by simp; omega) rfl rfl (WL_nil ⟨rfl, ?_⟩))
                refine WA_branch (rs := [9]) (by kernel_rfl) rfl (AllB.cons ?_ AllB.nil)
                refine WB_run [0] rfl rfl (WX_append G (by exact Nat.le_of_ble_eq_true rfl) rfl rfl rfl rfl rfl rfl rfl rfl rfl (by simp; omega) rfl rfl (WL_nil ⟨rfl, ?_⟩))
                refine WA_take 10 rfl (by kernel_rfl) (by kernel_rfl) rfl rfl rfl rfl (q_assign rfl rfl) (?_)
                refine WA_ren (tx := 8) 4 rfl rfl rfl rfl ?_
                exact WA_end (by kernel_rfl) (Meet.mk rfl rfl rfl rfl)
            · clear hK35 K35
              refine W_eqrow (id := 3) ((putL xs v).map encTc) rfl (by first | (rw [put_at, put_rest, put_rest1, ← xs_put1 h1 (by omega) hinv.2 (by omega)]; simp [encTc]; done) | (rw [put_at, put_rest, ← xs_put h1 (by omega) hinv.2 (fun hk => by omega)]; simp [encTc]; done)) ?_
              refine W_seq (fun K36 hK36 => ?_)
              refine W_seq (fun K37 hK37 => ?_)
              refine W_region (WL_cons rfl (WX_q rfl rfl (q_move rfl rfl) (WL_cons rfl (?_))))
              refine WX_q rfl rfl (q_call rfl (ArgsOK.of rfl) (c_spec_l24Good _ (by first | assumption | (have := putL_len (xs := xs) (s := v); omega)) (by first | assumption | exact putL_names hz hv)) rfl) ?_
              refine WL_cons rfl (WX_q rfl rfl (q_not rfl rfl) (?_))
              refine WL_nil (hK37 _ ?_)
              clear hK37 K37
              refine W_cond rfl (fun h12 => ?_) (fun h12 => ?_)
              · try rw [h12]
                try simp only [decide_eq_true_eq, decide_eq_false_iff_not, beq_iff_eq, bne_iff_ne, ne_eq, Bool.not_eq_true', Bool.not_eq_false', beq_eq_false_iff_ne, bne_eq_false_iff_eq, Bool.not_eq_true, Bool.not_eq_false, Int.not_lt, Int.not_le, gt_iff_lt, ge_iff_le, Bool.and_eq_true, Bool.and_eq_false_iff, Bool.or_eq_true, Bool.or_eq_false_iff] at h12
                refine W_seq (fun K38 hK38 => ?_)
                refine W_region (WL_cons rfl (WX_lit G 5 rfl rfl rfl rfl rfl rfl rfl rfl (WL_cons rfl (WX_q rfl rfl (q_assign rfl rfl) (WL_cons rfl (WX_q rfl rfl (q_assign rfl rfl) (?_)))))))
                refine WL_nil (hK38 _ ?_)
                clear hK38 K38
                refine W_ret (fin_many rfl rfl rfl rfl (rcs_cons (rc_own rfl ?_) (rcs_cons (rc_v ?_) rcs_nil)))
                all_goals clear hK36 K36
                all_goals (first | rfl | (simp [ptOK, ptT, h1]; done) | (have e : ptOK xs v = true := (by simp_all [ptOK]); simp [ptT, e]; done) | (have e : ptOK xs v = false := (by simp_all [ptOK]); simp [ptT, e]; done))
              · try rw [h12]
                try simp only [decide_eq_true_eq, decide_eq_false_iff_not, beq_iff_eq, bne_iff_ne, ne_eq, Bool.not_eq_true', Bool.not_eq_false', beq_eq_false_iff_ne, bne_eq_false_iff_eq, Bool.not_eq_true, Bool.not_eq_false, Int.not_lt, Int.not_le, gt_iff_lt, ge_iff_le, Bool.and_eq_true, Bool.and_eq_false_iff, Bool.or_eq_true, Bool.or_eq_false_iff] at h12
                refine W_skip (hK36 _ ?_)
                clear hK36 K36
                refine W_seq (fun K39 hK39 => ?_)
                refine W_region (WL_cons rfl (WX_q rfl rfl (q_move rfl rfl) (WL_cons rfl (WX_q rfl rfl (q_assign rfl rfl) (WL_cons rfl (WX_q rfl rfl (q_assign rfl rfl) (?_)))))))
                refine WL_nil (hK39 _ ?_)
                clear hK39 K39
                refine W_ret (fin_many rfl rfl rfl rfl (rcs_cons (rc_own rfl ?_) (rcs_cons (rc_v ?_) rcs_nil)))
                all_goals (first | rfl | (simp [ptOK, ptT, h1]; done) | (have e : ptOK xs v = true := (by simp_all [ptOK]); simp [ptT, e]; done) | (have e : ptOK xs v = false := (by simp_all [ptOK]); simp [ptT, e]; done))
        · try rw [h9]
          try simp only [decide_eq_true_eq, decide_eq_false_iff_not, beq_iff_eq, bne_iff_ne, ne_eq, Bool.not_eq_true', Bool.not_eq_false', beq_eq_false_iff_ne, bne_eq_false_iff_eq, Bool.not_eq_true, Bool.not_eq_false, Int.not_lt, Int.not_le, gt_iff_lt, ge_iff_le, Bool.and_eq_true, Bool.and_eq_false_iff, Bool.or_eq_true, Bool.or_eq_false_iff] at h9
          refine QL_skip rfl rfl rfl rfl rfl rfl (QL_skip rfl rfl rfl rfl rfl rfl (QL_skip rfl rfl rfl rfl rfl rfl (QL_skip rfl rfl rfl rfl rfl rfl (QL_skip rfl rfl rfl rfl rfl rfl (QL_skip rfl rfl rfl rfl rfl rfl (QL_skip rfl rfl rfl rfl rfl rfl (QL_cons rfl (QX_q rfl rfl (q_pick_f rfl rfl rfl) (?_)))))))))
          refine QL_nil (hK29 _ ?_)
          clear hK29 K29
          refine W_false rfl ?_
          refine W_skip (hK28 _ ?_)
          clear hK28 K28
          refine W_seq (fun K40 hK40 => ?_)
          apply W_drawsJ [8] [3] 4 11 [0] mixed (by kernel_rfl) rfl rfl hK40
          · intro r0
            refine WA_take 1 rfl (by kernel_rfl) (by kernel_rfl) rfl rfl rfl rfl (q_move rfl rfl) (WA_take 2 rfl (by kernel_rfl) (by kernel_rfl) rfl rfl rfl rfl (q_move rfl rfl) (?_))
            first | refine WA_take 3 rfl (by kernel_rfl) (by kernel_rfl) rfl rfl rfl rfl (q_cut_lst G rfl rfl rfl rfl rfl (by omega) (by omega) (by omega)) ?_ | refine WA_take 3 rfl (by kernel_rfl) (by kernel_rfl) rfl rfl rfl rfl (q_cut_lst G rfl rfl rfl rfl rfl (by omega) (by first | (simp; done) | (simp; omega)) (by first | (simp; done) | (simp; omega))) ?_
            refine WA_take 5 rfl (by kernel_rfl) (by kernel_rfl) rfl rfl rfl rfl (q_load_box_struct G rfl rfl rfl rfl rfl rfl) (WA_take 8 rfl (by kernel_rfl) (by kernel_rfl) rfl rfl rfl rfl (q_move rfl rfl) (?_))
            refine WA_branch (rs := [0, 6]) (by kernel_rfl) rfl (AllB.cons ?_ (AllB.cons ?_ AllB.nil))
            · refine WB_run [0] rfl rfl (WX_lit G 2 rfl rfl rfl rfl rfl rfl rfl rfl (WL_nil ⟨rfl, ?_⟩))
              refine WA_branch (rs := [4, 6]) (by kernel_rfl) rfl (AllB.cons ?_ (AllB.cons ?_ AllB.nil))
              · refine WB_run [0] rfl rfl (WX_append G (by exact Nat.le_of_ble_eq_true rfl) rfl rfl rfl rfl rfl rfl rfl rfl rfl (by simp; omega) rfl rfl (WL_nil ⟨rfl, ?_⟩))
                refine WA_branch (rs := [6]) (by kernel_rfl) rfl (AllB.cons ?_ AllB.nil)
                refine WB_run [0] rfl rfl (WX_lit G 3 rfl rfl rfl rfl rfl rfl rfl rfl (WL_nil ⟨rfl, ?_⟩))
                refine WA_branch (rs := [7]) (by kernel_rfl) rfl (AllB.cons ?_ AllB.nil)
                refine WB_run [0] rfl rfl (WX_append G (by exact Nat.le_of_ble_eq_true rfl) rfl rfl rfl rfl rfl rfl rfl rfl rfl (by simp; omega) rfl rfl (WL_nil ⟨rfl, ?_⟩))
                refine WA_branch (rs := [9]) (by kernel_rfl) rfl (AllB.cons ?_ AllB.nil)
                refine WB_run [0] rfl rfl (WX_append G (by exact Nat.le_of_ble_eq_true rfl) rfl rfl rfl rfl rfl rfl rfl rfl rfl (by simp; omega) rfl rfl (WL_nil ⟨rfl, ?_⟩))
                refine WA_take 10 rfl (by kernel_rfl) (by kernel_rfl) rfl rfl rfl rfl (q_assign rfl rfl) (?_)
                refine WA_ren (tx := 8) 4 rfl rfl rfl rfl ?_
                exact WA_end (by kernel_rfl) (Meet.mk rfl rfl rfl rfl)
              · refine WB_run [0] rfl rfl (WX_lit G 3 rfl rfl rfl rfl rfl rfl rfl rfl (WL_nil ⟨rfl, ?_⟩))
                refine WA_branch (rs := [4]) (by kernel_rfl) rfl (AllB.cons ?_ AllB.nil)
                refine WB_run [0] rfl rfl (WX_append G (by exact Nat.le_of_ble_eq_true rfl) rfl rfl rfl rfl rfl rfl rfl rfl rfl (by simp; omega) rfl rfl (WL_nil ⟨rfl, ?_⟩))
                refine WA_branch (rs := [7]) (by kernel_rfl) rfl (AllB.cons ?_ AllB.nil)
                refine WB_run [0] rfl rfl (WX_append G (by exact Nat.le_of_ble_eq_true rfl) rfl rfl rfl rfl rfl rfl rfl rfl rfl (by simp; omega) rfl rfl (WL_nil ⟨rfl, ?_⟩))
                refine WA_branch (rs := [9]) (by kernel_rfl) rfl (AllB.cons ?_ AllB.nil)
                refine WB_run [0] rfl rfl (WX_append G (by exact Nat.le_of_ble_eq_true rfl) rfl rfl rfl rfl rfl rfl rfl rfl rfl (by simp; omega) rfl rfl (WL_nil ⟨rfl, ?_⟩))
                refine WA_take 10 rfl (by kernel_rfl) (by kernel_rfl) rfl rfl rfl rfl (q_assign rfl rfl) (?_)
                refine WA_ren (tx := 8) 4 rfl rfl rfl rfl ?_
                exact WA_end (by kernel_rfl) (Meet.mk rfl rfl rfl rfl)
            · refine WB_run [0] rfl rfl (WX_lit G 2 rfl rfl rfl rfl rfl rfl rfl rfl (WL_nil ⟨rfl, ?_⟩))
              refine WA_branch (rs := [0]) (by kernel_rfl) rfl (AllB.cons ?_ AllB.nil)
              refine WB_run [0] rfl rfl (WX_lit G 3 rfl rfl rfl rfl rfl rfl rfl rfl (WL_nil ⟨rfl, ?_⟩))
              refine WA_branch (rs := [4]) (by kernel_rfl) rfl (AllB.cons ?_ AllB.nil)
              refine WB_run [0] rfl rfl (WX_append G (by exact Nat.le_of_ble_eq_true rfl) rfl rfl rfl rfl rfl rfl rfl rfl rfl (by simp; omega) rfl rfl (WL_nil ⟨rfl, ?_⟩))
              refine WA_branch (rs := [7]) (by kernel_rfl) rfl (AllB.cons ?_ AllB.nil)
              refine WB_run [0] rfl rfl (WX_append G (by exact Nat.le_of_ble_eq_true rfl) rfl rfl rfl rfl rfl rfl rfl rfl rfl (by simp; omega) rfl rfl (WL_nil ⟨rfl, ?_⟩))
              refine WA_branch (rs := [9]) (by kernel_rfl) rfl (AllB.cons ?_ AllB.nil)
              refine WB_run [0] rfl rfl (WX_append G (by exact Nat.le_of_ble_eq_true rfl) rfl rfl rfl rfl rfl rfl rfl rfl rfl (by simp; omega) rfl rfl (WL_nil ⟨rfl, ?_⟩))
              refine WA_take 10 rfl (by kernel_rfl) (by kernel_rfl) rfl rfl rfl rfl (q_assign rfl rfl) (?_)
              refine WA_ren (tx := 8) 4 rfl rfl rfl rfl ?_
              exact WA_end (by kernel_rfl) (Meet.mk rfl rfl rfl rfl)
          · clear hK40 K40
            refine W_eqrow (id := 3) ((putL xs v).map encTc) rfl (by first | (rw [put_at, put_rest, put_rest1, ← xs_put1 h1 (by omega) hinv.2 (by omega)]; simp [encTc]; done) | (rw [put_at, put_rest, ← xs_put h1 (by omega) hinv.2 (fun hk => by omega)]; simp [encTc]; done)) ?_
            refine W_seq (fun K41 hK41 => ?_)
            refine W_seq (fun K42 hK42 => ?_)
            refine W_region (WL_cons rfl (WX_q rfl rfl (q_move rfl rfl) (WL_cons rfl (?_))))
            refine WX_q rfl rfl (q_call rfl (ArgsOK.of rfl) (c_spec_l24Good _ (by first | assumption | (have := putL_len (xs := xs) (s := v); omega)) (by first | assumption | exact putL_names hz hv)) rfl) ?_
            refine WL_cons rfl (WX_q rfl rfl (q_not rfl rfl) (?_))
            refine WL_nil (hK42 _ ?_)
            clear hK42 K42
            refine W_cond rfl (fun h13 => ?_) (fun h13 => ?_)
            · try rw [h13]
              try simp only [decide_eq_true_eq, decide_eq_false_iff_not, beq_iff_eq, bne_iff_ne, ne_eq, Bool.not_eq_true', Bool.not_eq_false', beq_eq_false_iff_ne, bne_eq_false_iff_eq, Bool.not_eq_true, Bool.not_eq_false, Int.not_lt, Int.not_le, gt_iff_lt, ge_iff_le, Bool.and_eq_true, Bool.and_eq_false_iff, Bool.or_eq_true, Bool.or_eq_false_iff] at h13
              refine W_seq (fun K43 hK43 => ?_)
              refine W_region (WL_cons rfl (WX_lit G 5 rfl rfl rfl rfl rfl rfl rfl rfl (WL_cons rfl (WX_q rfl rfl (q_assign rfl rfl) (WL_cons rfl (WX_q rfl rfl (q_assign rfl rfl) (?_)))))))
              refine WL_nil (hK43 _ ?_)
              clear hK43 K43
              refine W_ret (fin_many rfl rfl rfl rfl (rcs_cons (rc_own rfl ?_) (rcs_cons (rc_v ?_) rcs_nil)))
              all_goals clear hK41 K41
              all_goals (first | rfl | (simp [ptOK, ptT, h1]; done) | (have e : ptOK xs v = true := (by simp_all [ptOK]); simp [ptT, e]; done) | (have e : ptOK xs v = false := (by simp_all [ptOK]); simp [ptT, e]; done))
            · try rw [h13]
              try simp only [decide_eq_true_eq, decide_eq_false_iff_not, beq_iff_eq, bne_iff_ne, ne_eq, Bool.not_eq_true', Bool.not_eq_false', beq_eq_false_iff_ne, bne_eq_false_iff_eq, Bool.not_eq_true, Bool.not_eq_false, Int.not_lt, Int.not_le, gt_iff_lt, ge_iff_le, Bool.and_eq_true, Bool.and_eq_false_iff, Bool.or_eq_true, Bool.or_eq_false_iff] at h13
              refine W_skip (hK41 _ ?_)
              clear hK41 K41
              refine W_seq (fun K44 hK44 => ?_)
              refine W_region (WL_cons rfl (WX_q rfl rfl (q_move rfl rfl) (WL_cons rfl (WX_q rfl rfl (q_assign rfl rfl) (WL_cons rfl (WX_q rfl rfl (q_assign rfl rfl) (?_)))))))
              refine WL_nil (hK44 _ ?_)
              clear hK44 K44
              refine W_ret (fin_many rfl rfl rfl rfl (rcs_cons (rc_own rfl ?_) (rcs_cons (rc_v ?_) rcs_nil)))
              all_goals (first | rfl | (simp [ptOK, ptT, h1]; done) | (have e : ptOK xs v = true := (by simp_all [ptOK]); simp [ptT, e]; done) | (have e : ptOK xs v = false := (by simp_all [ptOK]); simp [ptT, e]; done))

end Go.Proofs.YtehijimgenicfaaDoor

/- Walks through functions of the program, one contract each (written by gen.py). -/
set_option maxRecDepth 20000
set_option linter.unusedVariables false
set_option linter.unusedSimpArgs false
namespace Go.Proofs.YtehijimgenicfaaDoor
open Go Go.Rf

set_option maxHeartbeats 1600000 in
theorem c_spec_l1Cur_settings {x : Cur} {n : Int} (h : okC n x) (hn : n ≤ 800000000000) : CtrX (α := List Setting × Cur) Tryd.prog 50 [.ptr 0 0] [.box [.lst 1 (x.c.map encU), .v (.int .i64 x.a), .v (.int .u64 x.s)]] (fun y => (y.1.length ≤ 34 ∧ namesOK y.1) ∧ okC (n + 200) y.2) (fun y => .one (.fr 27 6 (y.1.map encTc))) (fun y => [some (.box [.lst 1 (y.2.c.map encU), .v (.int .i64 y.2.a), .v (.int .u64 y.2.s)])]) := by
  refine CtrX.of (n := 32) (k := 1) G Tryd.func50 rfl (by kernel_rfl) rfl rfl rfl rfl (fun _ => rfl) rfl rfl (fun w0 _ hpin => ?_)
  refine W_seq (fun K1 hK1 => ?_)
  refine W_region (WL_cons rfl (WX_q rfl rfl (q_assign rfl rfl) (?_)))
  refine WL_nil (hK1 _ ?_)
  clear hK1 K1
  refine W_seq (fun K2 hK2 => ?_)
  refine W_region (WL_cons rfl (WX_lit G 2 rfl rfl rfl rfl rfl rfl rfl rfl (WL_cons rfl (WX_q rfl rfl (q_assign rfl rfl) (?_)))))
  refine WL_nil (hK2 _ ?_)
  clear hK2 K2
  refine W_seq (fun K3 hK3 => ?_)
  refine W_seq (fun K4 hK4 => ?_)
  refine W_region (WL_cons rfl (WX_q rfl rfl (q_assign rfl rfl) (?_)))
  refine WL_nil (hK4 _ ?_)
  clear hK4 K4
  refine W_block ?_
  refine W_loopK [0] [] (fun (z : Nat × Cur × List Setting) => [(3, .own 1), (4, .v (.int .i64 (1 + z.1)))]) (fun (z : Nat × Cur × List Setting) => [(0, some (.box [.lst 1 (z.2.1.c.map encU), .v (.int .i64 z.2.1.a), .v (.int .u64 z.2.1.s)])), (1, some (.row 27 6 (z.2.2.map encTc)))]) (fun (z : Nat × Cur × List Setting) => z.1 ≤ 4 ∧ z.2.2.length ≤ 33 ∧ namesOK z.2.2 ∧ okC (n + 30 * z.1) z.2.1) (fun (z : Nat × Cur × List Setting) => 4 - z.1) (0, x, []) rfl rfl ?_ ?_ ?_ ?_
  · exact ⟨Nat.zero_le _, Nat.zero_le _, (fun i hi => absurd hi (Nat.not_lt_zero i)), h.mono (by simp)⟩
  · exact ⟨⟨_, rfl, by (first | rfl | simp)⟩, rfl, ⟨⟨_, rfl, by (first | rfl | simp)⟩, rfl, trivial⟩⟩
  · exact ⟨⟨_, rfl, by rfl⟩, rfl, rfl, ⟨⟨_, rfl, by rfl⟩, rfl, rfl, trivial⟩⟩
  · intro z hinv
    obtain ⟨hz1, hz2, hz3, hz⟩ := hinv
    simp only [List.cons_append, List.nil_append]
    refine W_seq (fun K5 hK5 => ?_)
    refine W_seq (fun K6 hK6 => ?_)
    refine W_region (WL_cons rfl (WX_q rfl rfl (q_move rfl rfl) (WL_cons rfl (WX_q rfl rfl (q_cmp rfl rfl rfl rfl) (?_)))))
    refine WL_nil (hK6 _ ?_)
    clear hK6 K6
    refine W_cond rfl (fun h1 => ?_) (fun h1 => ?_)
    · try rw [h1]
      try simp only [decide_eq_true_eq, decide_eq_false_iff_not, beq_iff_eq, bne_iff_ne, ne_eq, Bool.not_eq_true', Bool.not_eq_false', beq_eq_false_iff_ne, bne_eq_false_iff_eq, Bool.not_eq_true, Bool.not_eq_false, Int.not_lt, Int.not_le, gt_iff_lt, ge_iff_le, Bool.and_eq_true, Bool.and_eq_false_iff, Bool.or_eq_true, Bool.or_eq_false_iff] at h1
      refine W_skip (hK5 _ ?_)
      clear hK5 K5
      refine W_seq (fun K7 hK7 => ?_)
      refine W_block ?_
      refine W_seq (fun K8 hK8 => ?_)
      refine W_region (WL_cons rfl (WX_q rfl rfl (q_move rfl rfl) (WL_cons rfl (?_))))
      refine WX_callx 2 [0] rfl rfl rfl (x_one hz (by omega) (2)) rfl (RowsIn.cons rfl RowsIn.nil) rfl (fun _ => rfl) rfl (fun x1 ⟨hv1, hc1⟩ => ?_)
      refine WL_nil (hK8 _ ?_)
      clear hK8 K8
      refine W_cond rfl (fun h2 => ?_) (fun h2 => ?_)
      · try rw [h2]
        try simp only [decide_eq_true_eq, decide_eq_false_iff_not, beq_iff_eq, bne_iff_ne, ne_eq, Bool.not_eq_true', Bool.not_eq_false', beq_eq_false_iff_ne, bne_eq_false_iff_eq, Bool.not_eq_true, Bool.not_eq_false, Int.not_lt, Int.not_le, gt_iff_lt, ge_iff_le, Bool.and_eq_true, Bool.and_eq_false_iff, Bool.or_eq_true, Bool.or_eq_false_iff] at h2
        refine W_seq (fun K9 hK9 => ?_)
        refine W_region (WL_cons rfl (WX_q rfl rfl (q_move rfl rfl) (WL_cons rfl (WX_q rfl rfl (q_move rfl rfl) (WL_cons rfl (WX_q rfl rfl (q_move rfl rfl) (WL_cons rfl (?_))))))))
        refine WX_callx 2 [0] rfl rfl rfl (c_spec_l1Cur_setting hc1 (by omega) _) rfl (RowsIn.cons rfl RowsIn.nil) rfl (fun _ => rfl) rfl (fun x2 ⟨hv2, hc2⟩ => ?_)
        refine WL_cons rfl (?_)
        refine WX_call 3 rfl rfl rfl (ArgsOK.of rfl) (c_spec_PutSetting z.2.2 x2.1 (by omega) hz3 (by omega)) rfl rfl ?_
        refine WL_cons rfl (WX_q rfl rfl (q_move rfl rfl) (WL_cons rfl (WX_q rfl rfl (q_extract rfl rfl rfl) (WL_cons rfl (WX_q rfl rfl (q_extract rfl rfl rfl) (WL_cons rfl (WX_q rfl rfl (q_assign rfl rfl) (WL_cons rfl (WX_q rfl rfl (q_assign rfl rfl) (?_))))))))))
        refine WL_nil (hK9 _ ?_)
        clear hK9 K9
        refine W_seq (fun K10 hK10 => ?_)
        refine W_region (WL_cons rfl (WX_q rfl rfl (q_move rfl rfl) (?_)))
        refine WL_nil (hK10 _ ?_)
        clear hK10 K10
        refine W_cond rfl (fun h3 => ?_) (fun h3 => ?_)
        · try rw [h3]
          try simp only [decide_eq_true_eq, decide_eq_false_iff_not, beq_iff_eq, bne_iff_ne, ne_eq, Bool.not_eq_true', Bool.not_eq_false', beq_eq_false_iff_ne, bne_eq_false_iff_eq, Bool.not_eq_true, Bool.not_eq_false, Int.not_lt, Int.not_le, gt_iff_lt, ge_iff_le, Bool.and_eq_true, Bool.and_eq_false_iff, Bool.or_eq_true, Bool.or_eq_false_iff] at h3
          refine W_region (WL_cons rfl (WX_q rfl rfl (q_move rfl rfl) (WL_cons rfl (WX_q rfl rfl (q_assign rfl rfl) (?_)))))
          refine WL_nil (hK7 _ ?_)
          clear hK7 K7
          refine W_rento (tx := 3) (id := 2) (id' := 1) (by rw [hpin]; decide) rfl rfl rfl rfl rfl rfl rfl ?_
          refine W_region (WL_cons rfl (WX_q rfl rfl (q_move rfl rfl) (WL_cons rfl (?_))))
          first | refine WX_q rfl rfl (q_arith rfl rfl rfl rfl (by omega) (by omega)) ?_ | refine WX_q rfl rfl (q_wrap rfl rfl rfl rfl) ?_
          refine WL_cons rfl (WX_q rfl rfl (q_assign rfl rfl) (?_))
          refine WL_nil ⟨(z.1 + 1, x2.2, putL z.2.2 x2.1), ?_, ?_, ⟨⟨_, rfl, by (first | rfl | (congr 2; simp; omega))⟩, rfl, ⟨⟨_, rfl, by (first | rfl | (congr 2; simp; omega))⟩, rfl, trivial⟩⟩, ⟨⟨_, rfl, by (first | rfl | (simp only [ptT]; rw [if_pos h3]; done))⟩, rfl, rfl, ⟨⟨_, rfl, by (first | rfl | (simp only [ptT]; rw [if_pos h3]; done))⟩, rfl, rfl, trivial⟩⟩, rfl, rfl, rfl⟩
          · first | exact ⟨by show z.1 + 1 ≤ 4; omega, put_len h3, put_names hz3 hv2, hc2.mono (by simp; omega)⟩ | exact ⟨by show z.1 + 1 ≤ 4; omega, hz2, hz3, hc2.mono (by simp; omega)⟩ | exact ⟨by show z.1 + 1 ≤ 4; omega, hz2, hz3, hc1.mono (by simp; omega)⟩
          · (show 4 - (z.1 + 1) < 4 - z.1; omega)
        · try rw [h3]
          try simp only [decide_eq_true_eq, decide_eq_false_iff_not, beq_iff_eq, bne_iff_ne, ne_eq, Bool.not_eq_true', Bool.not_eq_false', beq_eq_false_iff_ne, bne_eq_false_iff_eq, Bool.not_eq_true, Bool.not_eq_false, Int.not_lt, Int.not_le, gt_iff_lt, ge_iff_le, Bool.and_eq_true, Bool.and_eq_false_iff, Bool.or_eq_true, Bool.or_eq_false_iff] at h3
          refine W_skip (hK7 _ ?_)
          clear hK7 K7
          refine W_region (WL_cons rfl (WX_q rfl rfl (q_move rfl rfl) (WL_cons rfl (?_))))
          first | refine WX_q rfl rfl (q_arith rfl rfl rfl rfl (by omega) (by omega)) ?_ | refine WX_q rfl rfl (q_wrap rfl rfl rfl rfl) ?_
          refine WL_cons rfl (WX_q rfl rfl (q_assign rfl rfl) (?_))
          refine WL_nil ⟨(z.1 + 1, x2.2, z.2.2), ?_, ?_, ⟨⟨_, rfl, by (first | rfl | (congr 2; simp; omega))⟩, rfl, ⟨⟨_, rfl, by (first | rfl | (congr 2; simp; omega))⟩, rfl, trivial⟩⟩, ⟨⟨_, rfl, by (first | rfl | (simp only [ptT]; rw [if_pos h3]; done))⟩, rfl, rfl, ⟨⟨_, rfl, by (first | rfl | (simp only [ptT]; rw [if_pos h3]; done))⟩, rfl, rfl, trivial⟩⟩, rfl, rfl, rfl⟩
          · first | exact ⟨by show z.1 + 1 ≤ 4; omega, put_len h3, put_names hz3 hv2, hc2.mono (by simp; omega)⟩ | exact ⟨by show z.1 + 1 ≤ 4; omega, hz2, hz3, hc2.mono (by simp; omega)⟩ | exact ⟨by show z.1 + 1 ≤ 4; omega, hz2, hz3, hc1.mono (by simp; omega)⟩
          · (show 4 - (z.1 + 1) < 4 - z.1; omega)
      · try rw [h2]
        try simp only [decide_eq_true_eq, decide_eq_false_iff_not, beq_iff_eq, bne_iff_ne, ne_eq, Bool.not_eq_true', Bool.not_eq_false', beq_eq_false_iff_ne, bne_eq_false_iff_eq, Bool.not_eq_true, Bool.not_eq_false, Int.not_lt, Int.not_le, gt_iff_lt, ge_iff_le, Bool.and_eq_true, Bool.and_eq_false_iff, Bool.or_eq_true, Bool.or_eq_false_iff] at h2
        refine W_skip (hK7 _ ?_)
        clear hK7 K7
        refine W_region (WL_cons rfl (WX_q rfl rfl (q_move rfl rfl) (WL_cons rfl (?_))))
        first | refine WX_q rfl rfl (q_arith rfl rfl rfl rfl (by omega) (by omega)) ?_ | refine WX_q rfl rfl (q_wrap rfl rfl rfl rfl) ?_
        refine WL_cons rfl (WX_q rfl rfl (q_assign rfl rfl) (?_))
        refine WL_nil ⟨(z.1 + 1, x1.2, z.2.2), ?_, ?_, ⟨⟨_, rfl, by (first | rfl | (congr 2; simp; omega))⟩, rfl, ⟨⟨_, rfl, by (first | rfl | (congr 2; simp; omega))⟩, rfl, trivial⟩⟩, ⟨⟨_, rfl, by (first | rfl | (simp only [ptT]; rw [if_pos h3]; done))⟩, rfl, rfl, ⟨⟨_, rfl, by (first | rfl | (simp only [ptT]; rw [if_pos h3]; done))⟩, rfl, rfl, trivial⟩⟩, rfl, rfl, rfl⟩
        · first | exact ⟨by show z.1 + 1 ≤ 4; omega, put_len h3, put_names hz3 hv2, hc2.mono (by simp; omega)⟩ | exact ⟨by show z.1 + 1 ≤ 4; omega, hz2, hz3, hc2.mono (by simp; omega)⟩ | exact ⟨by show z.1 + 1 ≤ 4; omega, hz2, hz3, hc1.mono (by simp; omega)⟩
        · (show 4 - (z.1 + 1) < 4 - z.1; omega)
    · try rw [h1]
      try simp only [decide_eq_true_eq, decide_eq_false_iff_not, beq_iff_eq, bne_iff_ne, ne_eq, Bool.not_eq_true', Bool.not_eq_false', beq_eq_false_iff_ne, bne_eq_false_iff_eq, Bool.not_eq_true, Bool.not_eq_false, Int.not_lt, Int.not_le, gt_iff_lt, ge_iff_le, Bool.and_eq_true, Bool.and_eq_false_iff, Bool.or_eq_true, Bool.or_eq_false_iff] at h1
      refine W_exit (hK3 _ ?_)
      clear hK5 K5 hK3 K3
      refine W_seq (fun K11 hK11 => ?_)
      refine W_seq (fun K12 hK12 => ?_)
      refine W_region (WL_cons rfl (WX_q rfl rfl (q_move rfl rfl) (WL_cons rfl (?_))))
      refine WX_callx 2 [0] rfl rfl rfl (x_one hz (by omega) (12)) rfl (RowsIn.cons rfl RowsIn.nil) rfl (fun _ => rfl) rfl (fun x3 ⟨hv3, hc3⟩ => ?_)
      refine WL_nil (hK12 _ ?_)
      clear hK12 K12
      refine W_cond rfl (fun h4 => ?_) (fun h4 => ?_)
      · try rw [h4]
        try simp only [decide_eq_true_eq, decide_eq_false_iff_not, beq_iff_eq, bne_iff_ne, ne_eq, Bool.not_eq_true', Bool.not_eq_false', beq_eq_false_iff_ne, bne_eq_false_iff_eq, Bool.not_eq_true, Bool.not_eq_false, Int.not_lt, Int.not_le, gt_iff_lt, ge_iff_le, Bool.and_eq_true, Bool.and_eq_false_iff, Bool.or_eq_true, Bool.or_eq_false_iff] at h4
        refine W_region (WL_cons rfl (WX_q rfl rfl (q_move rfl rfl) (WL_cons rfl (WX_q rfl rfl (q_move rfl rfl) (WL_cons rfl (?_))))))
        refine WX_callx 2 [0] rfl rfl rfl (c_spec_l1Cur_setting hc3 (by omega) _) rfl (RowsIn.cons rfl RowsIn.nil) rfl (fun _ => rfl) rfl (fun x4 ⟨hv4, hc4⟩ => ?_)
        refine WL_cons rfl (WX_lit G 3 rfl rfl rfl rfl rfl rfl rfl rfl (WL_cons rfl (?_)))
        refine WX_append G (by rw [hpin]; decide) rfl rfl rfl rfl rfl rfl rfl rfl rfl (by simp; omega) rfl rfl ?_
        refine WL_cons rfl (WX_q rfl rfl (q_assign rfl rfl) (?_))
        refine WL_nil (hK11 _ ?_)
        clear hK11 K11
        refine W_seq (fun K13 hK13 => ?_)
        refine W_region (WL_cons rfl (WX_q rfl rfl (q_move rfl rfl) (WL_cons rfl (WX_q rfl rfl (q_assign rfl rfl) (?_)))))
        refine WL_nil (hK13 _ ?_)
        clear hK13 K13
        refine W_ret (finx ((z.2.2 ++ [x4.1], x4.2)) (finm_one rfl (rc_own rfl ?_) rfl (AftOK.stays rfl ?_ rfl AftOK.nil)) (⟨?_, ?_⟩))
        all_goals (first | rfl | exact hc4.mono (by omega) | (rw [List.map_append]; rfl) | exact ⟨by show _ ≤ 34; (try simp); omega, hz3⟩ | exact ⟨by show (z.2.2 ++ [_]).length ≤ 34; simp; omega, names_snoc hz3 (by omega)⟩)
      · try rw [h4]
        try simp only [decide_eq_true_eq, decide_eq_false_iff_not, beq_iff_eq, bne_iff_ne, ne_eq, Bool.not_eq_true', Bool.not_eq_false', beq_eq_false_iff_ne, bne_eq_false_iff_eq, Bool.not_eq_true, Bool.not_eq_false, Int.not_lt, Int.not_le, gt_iff_lt, ge_iff_le, Bool.and_eq_true, Bool.and_eq_false_iff, Bool.or_eq_true, Bool.or_eq_false_iff] at h4
        refine W_skip (hK11 _ ?_)
        clear hK11 K11
        refine W_seq (fun K14 hK14 => ?_)
        refine W_region (WL_cons rfl (WX_q rfl rfl (q_move rfl rfl) (WL_cons rfl (WX_q rfl rfl (q_assign rfl rfl) (?_)))))
        refine WL_nil (hK14 _ ?_)
        clear hK14 K14
        refine W_ret (finx ((z.2.2, x3.2)) (finm_one rfl (rc_own rfl ?_) rfl (AftOK.stays rfl ?_ rfl AftOK.nil)) (⟨?_, ?_⟩))
        all_goals (first | rfl | exact hc3.mono (by omega) | (rw [List.map_append]; rfl) | exact ⟨by show _ ≤ 34; (try simp); omega, hz3⟩ | exact ⟨by show (z.2.2 ++ [_]).length ≤ 34; simp; omega, names_snoc hz3 (by omega)⟩)

end Go.Proofs.YtehijimgenicfaaDoor

/- Walks through functions of the program, one contract each (written by gen.py). -/
set_option maxRecDepth 20000
set_option linter.unusedVariables false
set_option linter.unusedSimpArgs false
namespace Go.Proofs.YtehijimgenicfaaDoor
open Go Go.Rf

set_option maxHeartbeats 1600000 in
theorem c_spec_l1Cur_spoilt {x : Cur} {n : Int} (h : okC n x) (hn : n ≤ 900000000000) (t w : ByteArray) (ht : t.size ≤ 1048576) (hw : 1 ≤ w.size ∧ w.size ≤ 10) : CtrX (α := ByteArray × Cur) Tryd.prog 48 [.ptr 0 0, .v (.string t), .v (.string w)] [.box [.lst 1 (x.c.map encU), .v (.int .i64 x.a), .v (.int .u64 x.s)]] (fun y => y.1.size ≤ 2 * t.size + 10 ∧ okC (n + 6) y.2) (fun y => .one (.v (.string y.1))) (fun y => [some (.box [.lst 1 (y.2.c.map encU), .v (.int .i64 y.2.a), .v (.int .u64 y.2.s)])]) := by
  refine CtrX.of (n := 57) (k := 1) G Tryd.func48 rfl (by kernel_rfl) rfl rfl rfl rfl (fun _ => rfl) rfl rfl (fun w0 _ hpin => ?_)
  refine W_seq (fun K1 hK1 => ?_)
  refine W_region (WL_cons rfl (WX_q rfl rfl (q_assign rfl rfl) (?_)))
  refine WL_nil (hK1 _ ?_)
  clear hK1 K1
  refine W_seq (fun K2 hK2 => ?_)
  refine W_seq (fun K3 hK3 => ?_)
  refine W_region (WL_cons rfl (WX_q rfl rfl (q_move rfl rfl) (WL_cons rfl (WX_q rfl rfl (q_cmp_str rfl rfl rfl rfl) (?_)))))
  refine WL_nil (hK3 _ ?_)
  clear hK3 K3
  refine W_cond rfl (fun h1 => ?_) (fun h1 => ?_)
  · try rw [h1]
    try simp only [decide_eq_true_eq, decide_eq_false_iff_not, beq_iff_eq, bne_iff_ne, ne_eq, Bool.not_eq_true', Bool.not_eq_false', beq_eq_false_iff_ne, bne_eq_false_iff_eq, Bool.not_eq_true, Bool.not_eq_false, Int.not_lt, Int.not_le, gt_iff_lt, ge_iff_le, Bool.and_eq_true, Bool.and_eq_false_iff, Bool.or_eq_true, Bool.or_eq_false_iff] at h1
    refine W_seq (fun K4 hK4 => ?_)
    refine W_region (WL_cons rfl (WX_q rfl rfl (q_move rfl rfl) (WL_cons rfl (?_))))
    refine WX_q rfl rfl (q_cut_str G rfl rfl rfl rfl rfl (by omega) (by omega) (by (try simp only [ByteArray.size_extract]); omega)) ?_
    refine WL_cons rfl (WX_q rfl rfl (q_assign rfl rfl) (?_))
    refine WL_nil (hK4 _ ?_)
    clear hK4 K4
    refine W_ret (finx ((w.extract ((0 : Int)).toNat ((1 : Int)).toNat, ⟨_, _, _⟩)) (finm_one rfl (rc_v rfl) rfl (AftOK.stays rfl rfl rfl AftOK.nil)) (⟨?_, ?_⟩))
    all_goals clear hK2 K2
    all_goals (try dsimp only at *)
    all_goals (first | rfl | exact h.mono (by omega) | (simp only [ByteArray.size_append, ByteArray.size_extract]; omega))
  · try rw [h1]
    try simp only [decide_eq_true_eq, decide_eq_false_iff_not, beq_iff_eq, bne_iff_ne, ne_eq, Bool.not_eq_true', Bool.not_eq_false', beq_eq_false_iff_ne, bne_eq_false_iff_eq, Bool.not_eq_true, Bool.not_eq_false, Int.not_lt, Int.not_le, gt_iff_lt, ge_iff_le, Bool.and_eq_true, Bool.and_eq_false_iff, Bool.or_eq_true, Bool.or_eq_false_iff] at h1
    have ht1 : 0 < t.size := size_pos h1
    refine W_skip (hK2 _ ?_)
    clear hK2 K2
    refine W_seq (fun K5 hK5 => ?_)
    refine W_region (WL_cons rfl (WX_q rfl rfl (q_move rfl rfl) (WL_cons rfl (WX_q rfl rfl (q_move rfl rfl) (WL_cons rfl (WX_q rfl rfl (q_len_str G rfl rfl rfl) (WL_cons rfl (?_))))))))
    refine WX_callx 1 [0] rfl rfl rfl (x_pick h (by omega) (t.size : Int)) rfl (RowsIn.cons rfl RowsIn.nil) rfl (fun _ => rfl) rfl (fun x1 ⟨hv1, hc1⟩ => ?_)
    refine WL_cons rfl (WX_q rfl rfl (q_assign rfl rfl) (?_))
    refine WL_nil (hK5 _ ?_)
    clear hK5 K5
    refine W_seq (fun K6 hK6 => ?_)
    refine W_region (WL_cons rfl (WX_q rfl rfl (q_move rfl rfl) (WL_cons rfl (WX_q rfl rfl (q_move rfl rfl) (WL_cons rfl (WX_q rfl rfl (q_move rfl rfl) (WL_cons rfl (WX_q rfl rfl (q_len_str G rfl rfl rfl) (WL_cons rfl (?_))))))))))
    refine WX_callx 1 [0] rfl rfl rfl (x_pick hc1 (by omega) (w.size : Int)) rfl (RowsIn.cons rfl RowsIn.nil) rfl (fun _ => rfl) rfl (fun x2 ⟨hv2, hc2⟩ => ?_)
    refine WL_cons rfl (?_)
    refine WX_q rfl rfl (q_cut_str G rfl rfl rfl rfl rfl (by omega) (by omega) (by (try simp only [ByteArray.size_extract]); omega)) ?_
    refine WL_cons rfl (?_)
    refine WX_q rfl rfl (q_cut_str G rfl rfl rfl rfl rfl (by omega) (by omega) (by (try simp only [ByteArray.size_extract]); omega)) ?_
    refine WL_cons rfl (WX_q rfl rfl (q_assign rfl rfl) (?_))
    refine WL_nil (hK6 _ ?_)
    clear hK6 K6
    refine W_seq (fun K7 hK7 => ?_)
    refine W_seq (fun K8 hK8 => ?_)
    refine W_region (WL_cons rfl (WX_q rfl rfl (q_move rfl rfl) (WL_cons rfl (?_))))
    refine WX_callx 1 [0] rfl rfl rfl (x_pick hc2 (by omega) (3)) rfl (RowsIn.cons rfl RowsIn.nil) rfl (fun _ => rfl) rfl (fun x3 ⟨hv3, hc3⟩ => ?_)
    refine WL_nil (hK8 _ ?_)
    clear hK8 K8
    refine W_block ?_
    refine W_seq (fun K9 hK9 => ?_)
    refine W_region (WL_cons rfl (WX_q rfl rfl (q_cmp rfl rfl rfl rfl) (WL_cons rfl (WX_q rfl rfl (q_assign rfl rfl) (?_)))))
    refine WL_nil (hK9 _ ?_)
    clear hK9 K9
    refine W_cond rfl (fun h2 => ?_) (fun h2 => ?_)
    · try rw [h2]
      try simp only [decide_eq_true_eq, decide_eq_false_iff_not, beq_iff_eq, bne_iff_ne, ne_eq, Bool.not_eq_true', Bool.not_eq_false', beq_eq_false_iff_ne, bne_eq_false_iff_eq, Bool.not_eq_true, Bool.not_eq_false, Int.not_lt, Int.not_le, gt_iff_lt, ge_iff_le, Bool.and_eq_true, Bool.and_eq_false_iff, Bool.or_eq_true, Bool.or_eq_false_iff] at h2
      refine W_seq (fun K10 hK10 => ?_)
      refine W_draws mixed (by kernel_rfl) (QL_cons rfl (QX_q rfl rfl (q_move rfl rfl) (QL_cons rfl (QX_q rfl rfl (q_move rfl rfl) (QL_cons rfl (?_))))))
      refine QX_q rfl rfl (q_cut_str G rfl rfl rfl rfl rfl (by omega) (by omega) (by (try simp only [ByteArray.size_extract]); omega)) ?_
      refine QL_cons rfl (QX_q rfl rfl (q_move rfl rfl) (QL_cons rfl (?_)))
      refine QX_q rfl rfl (q_cat rfl rfl rfl (by (try simp only [ByteArray.size_append, ByteArray.size_extract]); omega)) ?_
      refine QL_cons rfl (QX_q rfl rfl (q_move rfl rfl) (QL_cons rfl (QX_q rfl rfl (q_move rfl rfl) (QL_cons rfl (?_)))))
      refine QX_q rfl rfl (q_cut_str G rfl rfl rfl rfl rfl (by omega) (by omega) (by (try simp only [ByteArray.size_extract]); omega)) ?_
      refine QL_cons rfl (?_)
      refine QX_q rfl rfl (q_cat rfl rfl rfl (by (try simp only [ByteArray.size_append, ByteArray.size_extract]); omega)) ?_
      refine QL_cons rfl (QX_q rfl rfl (q_assign rfl rfl) (?_))
      refine QL_nil (hK10 _ ?_)
      clear hK10 K10
      refine W_ret (finx ((_, ⟨_, _, _⟩)) (finm_one rfl (rc_v rfl) rfl (AftOK.stays rfl rfl rfl AftOK.nil)) (⟨?_, ?_⟩))
      all_goals clear hK7 K7
      all_goals (try rcases x1 with ⟨_, _⟩)
      all_goals (try rcases x2 with ⟨_, _⟩)
      all_goals (try rcases x3 with ⟨_, _⟩)
      all_goals (try dsimp only at *)
      all_goals (first | rfl | exact hc3.mono (by omega) | (simp only [ByteArray.size_append, ByteArray.size_extract]; omega))
    · try rw [h2]
      try simp only [decide_eq_true_eq, decide_eq_false_iff_not, beq_iff_eq, bne_iff_ne, ne_eq, Bool.not_eq_true', Bool.not_eq_false', beq_eq_false_iff_ne, bne_eq_false_iff_eq, Bool.not_eq_true, Bool.not_eq_false, Int.not_lt, Int.not_le, gt_iff_lt, ge_iff_le, Bool.and_eq_true, Bool.and_eq_false_iff, Bool.or_eq_true, Bool.or_eq_false_iff] at h2
      refine W_seq (fun K11 hK11 => ?_)
      refine W_region (WL_cons rfl (WX_q rfl rfl (q_cmp rfl rfl rfl rfl) (WL_cons rfl (WX_q rfl rfl (q_assign rfl rfl) (?_)))))
      refine WL_nil (hK11 _ ?_)
      clear hK11 K11
      refine W_cond rfl (fun h3 => ?_) (fun h3 => ?_)
      · try rw [h3]
        try simp only [decide_eq_true_eq, decide_eq_false_iff_not, beq_iff_eq, bne_iff_ne, ne_eq, Bool.not_eq_true', Bool.not_eq_false', beq_eq_false_iff_ne, bne_eq_false_iff_eq, Bool.not_eq_true, Bool.not_eq_false, Int.not_lt, Int.not_le, gt_iff_lt, ge_iff_le, Bool.and_eq_true, Bool.and_eq_false_iff, Bool.or_eq_true, Bool.or_eq_false_iff] at h3
        refine W_seq (fun K12 hK12 => ?_)
        refine W_draws mixed (by kernel_rfl) (QL_cons rfl (QX_q rfl rfl (q_move rfl rfl) (QL_cons rfl (QX_q rfl rfl (q_move rfl rfl) (QL_cons rfl (?_))))))
        refine QX_q rfl rfl (q_cut_str G rfl rfl rfl rfl rfl (by omega) (by omega) (by (try simp only [ByteArray.size_extract]); omega)) ?_
        refine QL_cons rfl (QX_q rfl rfl (q_move rfl rfl) (QL_cons rfl (?_)))
        refine QX_q rfl rfl (q_cat rfl rfl rfl (by (try simp only [ByteArray.size_append, ByteArray.size_extract]); omega)) ?_
        refine QL_cons rfl (QX_q rfl rfl (q_move rfl rfl) (QL_cons rfl (QX_q rfl rfl (q_move rfl rfl) (QL_cons rfl (?_)))))
        first | refine QX_q rfl rfl (q_arith rfl rfl rfl rfl (by omega) (by omega)) ?_ | refine QX_q rfl rfl (q_wrap rfl rfl rfl rfl) ?_
        refine QL_cons rfl (?_)
        refine QX_q rfl rfl (q_cut_str G rfl rfl rfl rfl rfl (by omega) (by omega) (by (try simp only [ByteArray.size_extract]); omega)) ?_
        refine QL_cons rfl (?_)
        refine QX_q rfl rfl (q_cat rfl rfl rfl (by (try simp only [ByteArray.size_append, ByteArray.size_extract]); omega)) ?_
        refine QL_cons rfl (QX_q rfl rfl (q_assign rfl rfl) (?_))
        refine QL_nil (hK12 _ ?_)
        clear hK12 K12
        refine W_ret (finx ((_, ⟨_, _, _⟩)) (finm_one rfl (rc_v rfl) rfl (AftOK.stays rfl rfl rfl AftOK.nil)) (⟨?_, ?_⟩))
        all_goals clear hK7 K7
        all_goals (try rcases x1 with ⟨_, _⟩)
        all_goals (try rcases x2 with ⟨_, _⟩)
        all_goals (try rcases x3 with ⟨_, _⟩)
        all_goals (try dsimp only at *)
        all_goals (first | rfl | exact hc3.mono (by omega) | (simp only [ByteArray.size_append, ByteArray.size_extract]; omega))
      · try rw [h3]
        try simp only [decide_eq_true_eq, decide_eq_false_iff_not, beq_iff_eq, bne_iff_ne, ne_eq, Bool.not_eq_true', Bool.not_eq_false', beq_eq_false_iff_ne, bne_eq_false_iff_eq, Bool.not_eq_true, Bool.not_eq_false, Int.not_lt, Int.not_le, gt_iff_lt, ge_iff_le, Bool.and_eq_true, Bool.and_eq_false_iff, Bool.or_eq_true, Bool.or_eq_false_iff] at h3
        refine W_skip (hK7 _ ?_)
        clear hK7 K7
        refine W_seq (fun K13 hK13 => ?_)
        refine W_draws mixed (by kernel_rfl) (QL_cons rfl (QX_q rfl rfl (q_move rfl rfl) (QL_cons rfl (QX_q rfl rfl (q_move rfl rfl) (QL_cons rfl (?_))))))
        refine QX_q rfl rfl (q_cut_str G rfl rfl rfl rfl rfl (by omega) (by omega) (by (try simp only [ByteArray.size_extract]); omega)) ?_
        refine QL_cons rfl (QX_q rfl rfl (q_move rfl rfl) (QL_cons rfl (QX_q rfl rfl (q_move rfl rfl) (QL_cons rfl (?_)))))
        first | refine QX_q rfl rfl (q_arith rfl rfl rfl rfl (by omega) (by omega)) ?_ | refine QX_q rfl rfl (q_wrap rfl rfl rfl rfl) ?_
        refine QL_cons rfl (?_)
        refine QX_q rfl rfl (q_cut_str G rfl rfl rfl rfl rfl (by omega) (by omega) (by (try simp only [ByteArray.size_extract]); omega)) ?_
        refine QL_cons rfl (?_)
        refine QX_q rfl rfl (q_cat rfl rfl rfl (by (try simp only [ByteArray.size_append, ByteArray.size_extract]); omega)) ?_
        refine QL_cons rfl (QX_q rfl rfl (q_assign rfl rfl) (?_))
        refine QL_nil (hK13 _ ?_)
        clear hK13 K13
        refine W_ret (finx ((_, ⟨_, _, _⟩)) (finm_one rfl (rc_v rfl) rfl (AftOK.stays rfl rfl rfl AftOK.nil)) (⟨?_, ?_⟩))
        all_goals (try rcases x1 with ⟨_, _⟩)
        all_goals (try rcases x2 with ⟨_, _⟩)
        all_goals (try rcases x3 with ⟨_, _⟩)
        all_goals (try dsimp only at *)
        all_goals (first | rfl | exact hc3.mono (by omega) | (simp only [ByteArray.size_append, ByteArray.size_extract]; omega))

end Go.Proofs.YtehijimgenicfaaDoor

/- Walks through functions of the program, one contract each (written by gen.py). -/
set_option maxRecDepth 20000
set_option linter.unusedVariables false
set_option linter.unusedSimpArgs false
namespace Go.Proofs.YtehijimgenicfaaDoor
open Go Go.Rf

theorem c_spec_DrawIsSetting (l : List Int) (hl : bytesOK l) : CtrX (α := Setting) Tryd.prog 41 [.lst 1 (l.map encU)] [] (fun y => (y.n.size ≤ 9) ∧ True) (fun y => .one (.v (encT y))) (fun y => []) := by
  have h : okC 0 (⟨l, 0, 0⟩ : Cur) := ⟨hl, Int.le_refl _, Int.le_refl _⟩
  refine CtrX.of (n := 12) (k := 0) G Tryd.func41 rfl (by kernel_rfl) rfl rfl rfl rfl (fun _ => rfl) rfl rfl (fun w0 _ hpin => ?_)
  refine W_seq (fun K1 hK1 => ?_)
  refine W_region (WL_cons rfl (WX_alloc_s G 1 rfl rfl rfl rfl rfl (?_)))
  refine WL_nil (hK1 _ ?_)
  clear hK1 K1
  refine W_pinT (t := 0) rfl (fun y => ?_)
  refine W_seq (fun K2 hK2 => ?_)
  refine W_region (WL_cons rfl (WX_q rfl rfl (q_move rfl rfl) (WL_cons rfl (WX_q rfl rfl (q_build G rfl rfl rfl rfl) (WL_cons rfl (WX_box 2 rfl rfl rfl rfl rfl rfl rfl (WL_cons rfl (WX_q rfl rfl (q_assign rfl rfl) (?_)))))))))
  refine WL_nil (hK2 _ ?_)
  clear hK2 K2
  refine W_unpin (id := 1) rfl ?_
  refine W_seq (fun K3 hK3 => ?_)
  refine W_region (WL_cons rfl (WX_q rfl rfl (q_move rfl rfl) (WL_cons rfl (WX_q rfl rfl (q_move rfl rfl) (WL_cons rfl (?_))))))
  refine WX_callx 2 [1] rfl rfl rfl (x_pick h (by omega) (4)) rfl (RowsIn.cons rfl RowsIn.nil) rfl (fun _ => rfl) rfl (fun x1 ⟨hv1, hc1⟩ => ?_)
  refine WL_cons rfl (?_)
  first | refine WX_q rfl rfl (q_arith rfl rfl rfl rfl (by omega) (by omega)) ?_ | refine WX_q rfl rfl (q_wrap rfl rfl rfl rfl) ?_
  refine WL_cons rfl (?_)
  refine WX_callx 2 [1] rfl rfl rfl (c_spec_l1Cur_setting hc1 (by omega) _) rfl (RowsIn.cons rfl RowsIn.nil) rfl (fun _ => rfl) rfl (fun x2 ⟨hv2, hc2⟩ => ?_)
  refine WL_cons rfl (WX_store G rfl rfl rfl rfl rfl rfl rfl rfl rfl rfl rfl (?_))
  refine WL_nil (hK3 _ ?_)
  clear hK3 K3
  refine W_ret (finx (x2.1) (finm_one rfl (rc_agg rfl ?_) rfl AftOK.nil) (⟨?_, ?_⟩))
  all_goals (first | rfl | trivial | assumption)

theorem c_spec_DrawSettingText (l : List Int) (hl : bytesOK l) : CtrX (α := Setting) Tryd.prog 25 [.lst 1 (l.map encU)] [] (fun y => (y.n.size ≤ 9) ∧ True) (fun y => .one (.v (encT y))) (fun y => []) := by
  have h : okC 0 (⟨l, 0, 0⟩ : Cur) := ⟨hl, Int.le_refl _, Int.le_refl _⟩
  refine CtrX.of (n := 5) (k := 0) G Tryd.func25 rfl (by kernel_rfl) rfl rfl rfl rfl (fun _ => rfl) rfl rfl (fun w0 _ hpin => ?_)
  refine W_seq (fun K1 hK1 => ?_)
  refine W_region (WL_cons rfl (WX_alloc_s G 1 rfl rfl rfl rfl rfl (?_)))
  refine WL_nil (hK1 _ ?_)
  clear hK1 K1
  refine W_seq (fun K2 hK2 => ?_)
  refine W_region (WL_cons rfl (WX_q rfl rfl (q_move rfl rfl) (WL_cons rfl (?_))))
  refine WX_callx 1 [] rfl rfl rfl (c_spec_DrawIsSetting l hl) rfl RowsIn.nil rfl (fun _ => rfl) rfl (fun x1 ⟨hv1, hc1⟩ => ?_)
  refine WL_cons rfl (WX_store G rfl rfl rfl rfl rfl rfl rfl rfl rfl rfl rfl (?_))
  refine WL_nil (hK2 _ ?_)
  clear hK2 K2
  refine W_ret (finx (x1) (finm_one rfl (rc_agg rfl ?_) rfl AftOK.nil) (⟨?_, ?_⟩))
  all_goals (first | rfl | trivial | assumption)

theorem c_spec_DrawAreSettings (l : List Int) (hl : bytesOK l) : CtrX (α := List Setting) Tryd.prog 49 [.lst 1 (l.map encU)] [] (fun y => (y.length ≤ 34 ∧ namesOK y) ∧ True) (fun y => .one (.fr 27 6 (y.map encTc))) (fun y => []) := by
  have h : okC 0 (⟨l, 0, 0⟩ : Cur) := ⟨hl, Int.le_refl _, Int.le_refl _⟩
  refine CtrX.of (n := 9) (k := 0) G Tryd.func49 rfl (by kernel_rfl) rfl rfl rfl rfl (fun _ => rfl) rfl rfl (fun w0 _ hpin => ?_)
  refine W_seq (fun K1 hK1 => ?_)
  refine W_region (WL_cons rfl (WX_q rfl rfl (q_assign rfl rfl) (?_)))
  refine WL_nil (hK1 _ ?_)
  clear hK1 K1
  refine W_pinT (t := 0) rfl (fun y => ?_)
  refine W_seq (fun K2 hK2 => ?_)
  refine W_region (WL_cons rfl (WX_q rfl rfl (q_move rfl rfl) (WL_cons rfl (WX_q rfl rfl (q_build G rfl rfl rfl rfl) (WL_cons rfl (WX_box 1 rfl rfl rfl rfl rfl rfl rfl (WL_cons rfl (WX_q rfl rfl (q_assign rfl rfl) (?_)))))))))
  refine WL_nil (hK2 _ ?_)
  clear hK2 K2
  refine W_unpin (id := 0) rfl ?_
  refine W_seq (fun K3 hK3 => ?_)
  refine W_region (WL_cons rfl (WX_q rfl rfl (q_move rfl rfl) (WL_cons rfl (?_))))
  refine WX_callx 2 [0] rfl rfl rfl (c_spec_l1Cur_settings h (by omega)) rfl (RowsIn.cons rfl RowsIn.nil) rfl (fun _ => rfl) rfl (fun x1 ⟨hv1, hc1⟩ => ?_)
  refine WL_cons rfl (WX_q rfl rfl (q_assign rfl rfl) (?_))
  refine WL_nil (hK3 _ ?_)
  clear hK3 K3
  refine W_ret (finx (x1.1) (finm_one rfl (rc_own rfl ?_) rfl AftOK.nil) (⟨?_, ?_⟩))
  all_goals (first | rfl | trivial | assumption)

theorem c_spec_DrawSettingsText (l : List Int) (hl : bytesOK l) : CtrX (α := List Setting) Tryd.prog 28 [.lst 1 (l.map encU)] [] (fun y => (y.length ≤ 34 ∧ namesOK y) ∧ True) (fun y => .one (.fr 27 6 (y.map encTc))) (fun y => []) := by
  have h : okC 0 (⟨l, 0, 0⟩ : Cur) := ⟨hl, Int.le_refl _, Int.le_refl _⟩
  refine CtrX.of (n := 5) (k := 0) G Tryd.func28 rfl (by kernel_rfl) rfl rfl rfl rfl (fun _ => rfl) rfl rfl (fun w0 _ hpin => ?_)
  refine W_seq (fun K1 hK1 => ?_)
  refine W_region (WL_cons rfl (WX_q rfl rfl (q_assign rfl rfl) (?_)))
  refine WL_nil (hK1 _ ?_)
  clear hK1 K1
  refine W_seq (fun K2 hK2 => ?_)
  refine W_region (WL_cons rfl (WX_q rfl rfl (q_move rfl rfl) (WL_cons rfl (?_))))
  refine WX_callx 1 [] rfl rfl rfl (c_spec_DrawAreSettings l hl) rfl RowsIn.nil rfl (fun _ => rfl) rfl (fun x1 ⟨hv1, hc1⟩ => ?_)
  refine WL_cons rfl (WX_q rfl rfl (q_assign rfl rfl) (?_))
  refine WL_nil (hK2 _ ?_)
  clear hK2 K2
  refine W_ret (finx (x1) (finm_one rfl (rc_own rfl ?_) rfl AftOK.nil) (⟨?_, ?_⟩))
  all_goals (first | rfl | trivial | assumption)

end Go.Proofs.YtehijimgenicfaaDoor

/- A setting of a text: what both readers compute. -/
set_option linter.unusedVariables false
set_option linter.unusedSimpArgs false
namespace Go.Proofs.YtehijimgenicfaaDoor
open Go Go.Rf
def wd (s : ByteArray) (i : Nat) : ByteArray := (splitL s 32).getD i default
def wdN (s : ByteArray) : Nat := (splitL s 32).length
def psX (s : ByteArray) : Setting := ⟨nmN (wd s 1), wd s 2, nmN (wd s 4), nmN (wd s 6), nmN (wd s 8), decide ((wdN s : Int) = 10)⟩
def psOK (s : ByteArray) : Bool := decide (wdN s = 9 ∨ wdN s = 10) && isSet (psX s) && (setT (psX s)).toList == s.toList
def psE (s : ByteArray) : Setting := if psOK s then psX s else ⟨0, ⟨#[]⟩, 0, 0, 0, false⟩
theorem piece_le {s : ByteArray} {b : Int} : ∀ i, ∀ x ∈ (spO s b i).1, x.size ≤ s.size
  | 0 => fun x hx => by cases hx
  | i + 1 => fun x hx => by
    by_cases hb : byteN s i = b
    · rw [spO_t hb] at hx
      rcases List.mem_append.1 hx with h | h
      · exact piece_le i x h
      · rw [List.mem_singleton.1 h]; exact ext_le
    · rw [spO_f hb] at hx
      exact piece_le i x hx
theorem words_le {s : ByteArray} {b : Int} {x : ByteArray} (hx : x ∈ splitL s b) : x.size ≤ s.size := by
  rcases List.mem_append.1 hx with h | h
  · exact piece_le _ x h
  · rw [List.mem_singleton.1 h]; exact ext_le
theorem word_sz {s : ByteArray} {b : Int} {i : Nat} : ((splitL s b).getD i default).size ≤ s.size := by
  rw [List.getD_eq_getElem?_getD]
  cases h : (splitL s b)[i]? with
  | none => exact Nat.zero_le _
  | some x => exact words_le (List.mem_of_getElem? h)
theorem getW {s : ByteArray} (i : Nat) {k : Int} (hk : k = (i : Int)) (h : i < (splitL s 32).length) : ((splitL s 32).map encW)[k.toNat]? = some (encW (wd s i)) := by
  subst hk
  simp [wd, h]
theorem wd_sz {s : ByteArray} (hs : s.size ≤ 1048576) {i : Nat} : (wd s i).size ≤ 9223372036854775807 := Nat.le_trans word_sz (by omega)
theorem ps_f {s : ByteArray} (h : psOK s = false) : psE s = ⟨0, ⟨#[]⟩, 0, 0, 0, false⟩ ∧ psOK s = false := ⟨by rw [psE, h]; rfl, h⟩
theorem ps_t {s : ByteArray} (h : psOK s = true) : psE s = psX s ∧ psOK s = true := ⟨by rw [psE, h]; rfl, h⟩
theorem num_small {n : Int} {k : Nat} (h0 : 0 ≤ n) (h : n < 10 ^ (k + 1)) : (numT n).size ≤ k + 1 := by
  obtain ⟨m, rfl⟩ : ∃ m : Nat, n = (m : Int) := ⟨n.toNat, by omega⟩
  exact (num_digits m).2.2.2 k (by exact_mod_cast h)
theorem setT_70 {x : Setting} (h : isSet x = true) : (setT x).size ≤ 70 := by
  have ho := isSet_ok h
  have z1 := num_small (n := x.g) (k := 0) (by omega) (by omega)
  have z2 := num_small (n := x.c) (k := 0) (by omega) (by omega)
  have z3 := num_small (n := x.f) (k := 1) (by omega) (by omega)
  have z4 := num_small (n := x.w) (k := 2) (by omega) (by omega)
  unfold setT setT0
  split <;> simp only [ByteArray.size_append, size_lit, List.size_toArray, List.length_cons, List.length_nil] <;> omega
theorem ps_out {s : ByteArray} (h : ¬ wdN s = 9) (h2 : ¬ wdN s = 10) : psE s = ⟨0, ⟨#[]⟩, 0, 0, 0, false⟩ ∧ psOK s = false :=
  ps_f (by rw [psOK, decide_eq_false (by omega)]; rfl)
theorem ps_parts {s : ByteArray} (h : psOK s = true) : isSet (psX s) = true ∧ (setT (psX s)).toList = s.toList := by
  simp only [psOK, Bool.and_eq_true, beq_iff_eq] at h
  exact ⟨h.1.2, h.2⟩
theorem ps_big {s : ByteArray} (h : 70 < s.size) : psE s = ⟨0, ⟨#[]⟩, 0, 0, 0, false⟩ ∧ psOK s = false :=
  ps_f (by
    cases hp : psOK s with
    | false => rfl
    | true =>
      obtain ⟨h1, h2⟩ := ps_parts hp
      have h3 := setT_70 h1
      rw [toList_inj' h2] at h3
      omega)
theorem ps_set {s : ByteArray} (h : isSet (psX s) = false) : psE s = ⟨0, ⟨#[]⟩, 0, 0, 0, false⟩ ∧ psOK s = false :=
  ps_f (by rw [psOK, h, Bool.and_false]; rfl)
theorem ps_text {s : ByteArray} (h : ¬ (setT (psX s)).toList = s.toList) : psE s = ⟨0, ⟨#[]⟩, 0, 0, 0, false⟩ ∧ psOK s = false :=
  ps_f (by rw [psOK, beq_eq_false_iff_ne.mpr h, Bool.and_false])
theorem ps_num {s : ByteArray} (h : nmK (wd s 1) = false ∨ nmK (wd s 4) = false ∨ nmK (wd s 6) = false ∨ nmK (wd s 8) = false) : psE s = ⟨0, ⟨#[]⟩, 0, 0, 0, false⟩ ∧ psOK s = false :=
  ps_set (by
    cases hp : isSet (psX s) with
    | false => rfl
    | true =>
      have ho := isSet_ok hp
      simp only [psX] at ho
      rcases h with h | h | h | h
      · have := (nm_f h).1; omega
      · have := (nm_f h).1; omega
      · have := (nm_f h).1; omega
      · have := (nm_f h).1; omega)
theorem ps_yes {s : ByteArray} (h : wdN s = 9 ∨ wdN s = 10) (h2 : isSet (psX s) = true) (h3 : (setT (psX s)).toList = s.toList) : psE s = psX s ∧ psOK s = true :=
  ps_t (by simp [psOK, h, h2, h3])
end Go.Proofs.YtehijimgenicfaaDoor

/- Sizes of settings' texts. -/
set_option linter.unusedVariables false
namespace Go.Proofs.YtehijimgenicfaaDoor
open Go Go.Rf
def stT (x : Setting) : ByteArray := if isSet x then setT x else ⟨#[]⟩
theorem stT_size {x : Setting} : (stT x).size ≤ 70 := by
  unfold stT
  split
  · exact setT_70 (by assumption)
  · exact Nat.zero_le _
theorem setsT_size {xs : List Setting} (h : xs.length ≤ 34) : (setsT xs).size ≤ 6834 := by
  unfold setsT
  split
  · rename_i hg
    have := setsF_size (goodT_set hg) xs.length (Nat.le_refl _)
    omega
  · exact Nat.zero_le _
end Go.Proofs.YtehijimgenicfaaDoor

/- Walks through functions of the program, one contract each (written by gen.py). -/
set_option maxRecDepth 20000
set_option linter.unusedVariables false
set_option linter.unusedSimpArgs false
namespace Go.Proofs.YtehijimgenicfaaDoor
open Go Go.Rf

theorem c_spec_DrawParseSetting (l : List Int) (hl : bytesOK l) : CtrX (α := ByteArray) Tryd.prog 27 [.lst 1 (l.map encU)] [] (fun y => (y.size ≤ 100000) ∧ True) (fun y => .one (.v (.string y))) (fun y => []) := by
  have h : okC 0 (⟨l, 0, 0⟩ : Cur) := ⟨hl, Int.le_refl _, Int.le_refl _⟩
  refine CtrX.of (n := 24) (k := 0) G Tryd.func27 rfl (by kernel_rfl) rfl rfl rfl rfl (fun _ => rfl) rfl rfl (fun w0 _ hpin => ?_)
  refine W_seq (fun K1 hK1 => ?_)
  refine W_region (WL_cons rfl (WX_q rfl rfl (q_assign rfl rfl) (?_)))
  refine WL_nil (hK1 _ ?_)
  clear hK1 K1
  refine W_pinT (t := 0) rfl (fun y => ?_)
  refine W_seq (fun K2 hK2 => ?_)
  refine W_region (WL_cons rfl (WX_q rfl rfl (q_move rfl rfl) (WL_cons rfl (WX_q rfl rfl (q_build G rfl rfl rfl rfl) (WL_cons rfl (WX_box 1 rfl rfl rfl rfl rfl rfl rfl (WL_cons rfl (WX_q rfl rfl (q_assign rfl rfl) (?_)))))))))
  refine WL_nil (hK2 _ ?_)
  clear hK2 K2
  refine W_unpin (id := 0) rfl ?_
  refine W_seq (fun K3 hK3 => ?_)
  refine W_region (WL_cons rfl (WX_q rfl rfl (q_move rfl rfl) (WL_cons rfl (WX_q rfl rfl (q_move rfl rfl) (WL_cons rfl (?_))))))
  refine WX_callx 1 [0] rfl rfl rfl (x_pick h (by omega) (4)) rfl (RowsIn.cons rfl RowsIn.nil) rfl (fun _ => rfl) rfl (fun x1 ⟨hv1, hc1⟩ => ?_)
  refine WL_cons rfl (?_)
  first | refine WX_q rfl rfl (q_arith rfl rfl rfl rfl (by omega) (by omega)) ?_ | refine WX_q rfl rfl (q_wrap rfl rfl rfl rfl) ?_
  refine WL_cons rfl (?_)
  refine WX_callx 1 [0] rfl rfl rfl (c_spec_l1Cur_setting hc1 (by omega) _) rfl (RowsIn.cons rfl RowsIn.nil) rfl (fun _ => rfl) rfl (fun x2 ⟨hv2, hc2⟩ => ?_)
  have hst := stT_size (x := x2.1)
  refine WL_cons rfl (?_)
  refine WX_q rfl rfl (q_call rfl (ArgsOK.of rfl) (c_spec_SettingText x2.1 (by omega)) rfl) ?_
  refine WL_cons rfl (WX_q rfl rfl (q_move rfl rfl) (WL_cons rfl (WX_q rfl rfl (q_extract rfl rfl rfl) (WL_cons rfl (WX_q rfl rfl (q_extract rfl rfl rfl) (WL_cons rfl (WX_q rfl rfl (q_assign rfl rfl) (WL_cons rfl (WX_q rfl rfl (q_assign rfl rfl) (?_))))))))))
  refine WL_nil (hK3 _ ?_)
  clear hK3 K3
  refine W_seq (fun K4 hK4 => ?_)
  refine W_seq (fun K5 hK5 => ?_)
  refine W_region (WL_cons rfl (WX_q rfl rfl (q_move rfl rfl) (WL_cons rfl (?_))))
  refine WX_callx 1 [0] rfl rfl rfl (x_one hc2 (by omega) (4)) rfl (RowsIn.cons rfl RowsIn.nil) rfl (fun _ => rfl) rfl (fun x3 ⟨hv3, hc3⟩ => ?_)
  refine WL_nil (hK5 _ ?_)
  clear hK5 K5
  refine W_cond rfl (fun h1 => ?_) (fun h1 => ?_)
  · try rw [h1]
    try simp only [decide_eq_true_eq, decide_eq_false_iff_not, beq_iff_eq, bne_iff_ne, ne_eq, Bool.not_eq_true', Bool.not_eq_false', beq_eq_false_iff_ne, bne_eq_false_iff_eq, Bool.not_eq_true, Bool.not_eq_false, Int.not_lt, Int.not_le, gt_iff_lt, ge_iff_le, Bool.and_eq_true, Bool.and_eq_false_iff, Bool.or_eq_true, Bool.or_eq_false_iff] at h1
    refine W_region (WL_cons rfl (WX_q rfl rfl (q_move rfl rfl) (WL_cons rfl (WX_q rfl rfl (q_move rfl rfl) (WL_cons rfl (?_))))))
    refine WX_callx 1 [0] rfl rfl rfl (c_spec_l1Cur_spoilt hc3 (by omega) (stT x2.1) ⟨#[48, 32, 103, 116, 49, 115]⟩ (by omega) (by decide)) rfl (RowsIn.cons rfl RowsIn.nil) rfl (fun _ => rfl) rfl (fun x4 ⟨hv4, hc4⟩ => ?_)
    refine WL_cons rfl (WX_q rfl rfl (q_assign rfl rfl) (?_))
    refine WL_nil (hK4 _ ?_)
    clear hK4 K4
    refine W_seq (fun K6 hK6 => ?_)
    refine W_region (WL_cons rfl (WX_q rfl rfl (q_move rfl rfl) (WL_cons rfl (WX_q rfl rfl (q_assign rfl rfl) (?_)))))
    refine WL_nil (hK6 _ ?_)
    clear hK6 K6
    refine W_ret (finx (x4.1) (finm_one rfl (rc_v ?_) rfl AftOK.nil) (⟨?_, ?_⟩))
    all_goals (first | rfl | trivial | assumption | (show x4.1.size ≤ 100000; omega) | (show (stT x2.1).size ≤ 100000; omega))
  · try rw [h1]
    try simp only [decide_eq_true_eq, decide_eq_false_iff_not, beq_iff_eq, bne_iff_ne, ne_eq, Bool.not_eq_true', Bool.not_eq_false', beq_eq_false_iff_ne, bne_eq_false_iff_eq, Bool.not_eq_true, Bool.not_eq_false, Int.not_lt, Int.not_le, gt_iff_lt, ge_iff_le, Bool.and_eq_true, Bool.and_eq_false_iff, Bool.or_eq_true, Bool.or_eq_false_iff] at h1
    refine W_skip (hK4 _ ?_)
    clear hK4 K4
    refine W_seq (fun K7 hK7 => ?_)
    refine W_region (WL_cons rfl (WX_q rfl rfl (q_move rfl rfl) (WL_cons rfl (WX_q rfl rfl (q_assign rfl rfl) (?_)))))
    refine WL_nil (hK7 _ ?_)
    clear hK7 K7
    refine W_ret (finx (stT x2.1) (finm_one rfl (rc_v ?_) rfl AftOK.nil) (⟨?_, ?_⟩))
    all_goals (first | rfl | trivial | assumption | (show x4.1.size ≤ 100000; omega) | (show (stT x2.1).size ≤ 100000; omega))

end Go.Proofs.YtehijimgenicfaaDoor

/- Walks through functions of the program, one contract each (written by gen.py). -/
set_option maxRecDepth 20000
set_option linter.unusedVariables false
set_option linter.unusedSimpArgs false
namespace Go.Proofs.YtehijimgenicfaaDoor
open Go Go.Rf

theorem c_laws_eqSettingS (xs ys : List Setting) (hn : xs.length ≤ 9223372036854775807) : Ctr Tryd.prog 16 [.lst 6 (xs.map encTc), .lst 6 (ys.map encTc)] (.one (.v (.bool (@decide (xs = ys) (Classical.propDecidable _))))) := by
  refine Ctr.of (n := 27) G Tryd.func16 rfl (by kernel_rfl) rfl rfl rfl (fun w0 => ?_)
  refine W_seq (fun K1 hK1 => ?_)
  refine W_region (WL_cons rfl (WX_q rfl rfl (q_assign rfl rfl) (?_)))
  refine WL_nil (hK1 _ ?_)
  clear hK1 K1
  refine W_seq (fun K2 hK2 => ?_)
  refine W_seq (fun K3 hK3 => ?_)
  refine W_region (WL_cons rfl (WX_q rfl rfl (q_move rfl rfl) (WL_cons rfl (?_))))
  first | refine WX_q rfl rfl (q_len' G rfl rfl rfl rfl (List.length_map _)) ?_ | refine WX_q rfl rfl (q_len G rfl rfl rfl rfl) ?_
  refine WL_cons rfl (WX_q rfl rfl (q_move rfl rfl) (WL_cons rfl (?_)))
  first | refine WX_q rfl rfl (q_len' G rfl rfl rfl rfl (List.length_map _)) ?_ | refine WX_q rfl rfl (q_len G rfl rfl rfl rfl) ?_
  refine WL_cons rfl (WX_q rfl rfl (q_cmp rfl rfl rfl rfl) (?_))
  refine WL_nil (hK3 _ ?_)
  clear hK3 K3
  refine W_cond rfl (fun h1 => ?_) (fun h1 => ?_)
  · try rw [h1]
    try simp only [decide_eq_true_eq, decide_eq_false_iff_not, beq_iff_eq, bne_iff_ne, ne_eq, Bool.not_eq_true', Bool.not_eq_false', beq_eq_false_iff_ne, bne_eq_false_iff_eq, Bool.not_eq_true, Bool.not_eq_false, Int.not_lt, Int.not_le, gt_iff_lt, ge_iff_le, Bool.and_eq_true, Bool.and_eq_false_iff, Bool.or_eq_true, Bool.or_eq_false_iff] at h1
    refine W_seq (fun K4 hK4 => ?_)
    refine W_region (WL_cons rfl (WX_q rfl rfl (q_assign rfl rfl) (?_)))
    refine WL_nil (hK4 _ ?_)
    clear hK4 K4
    refine W_ret (fin_one rfl (rc_v ?_))
    all_goals clear hK2 K2
    all_goals (first | (have e : xs ≠ ys := fun e => (by (subst e; simp_all [eqT]; done)); simp [e]; done) | (have e : xs = ys := eq_true_of (by omega) hinv.2 (by omega); simp [e]; done) | (have e : xs ≠ ys := eq_false_of (i := i) (fun e => (by simp_all [eqT])); simp [e]; done))
  · try rw [h1]
    try simp only [decide_eq_true_eq, decide_eq_false_iff_not, beq_iff_eq, bne_iff_ne, ne_eq, Bool.not_eq_true', Bool.not_eq_false', beq_eq_false_iff_ne, bne_eq_false_iff_eq, Bool.not_eq_true, Bool.not_eq_false, Int.not_lt, Int.not_le, gt_iff_lt, ge_iff_le, Bool.and_eq_true, Bool.and_eq_false_iff, Bool.or_eq_true, Bool.or_eq_false_iff] at h1
    refine W_skip (hK2 _ ?_)
    clear hK2 K2
    refine W_seq (fun K5 hK5 => ?_)
    refine W_seq (fun K6 hK6 => ?_)
    refine W_region (WL_cons rfl (WX_q rfl rfl (q_assign rfl rfl) (?_)))
    refine WL_nil (hK6 _ ?_)
    clear hK6 K6
    refine W_block ?_
    refine W_loopK [0, 1] [] (fun (i : Nat) => [(5, .v (.int .i64 (i : Int)))]) (fun (i : Nat) => []) (fun (i : Nat) => i ≤ xs.length ∧ ∀ j, j < i → xs.getD j default = ys.getD j default) (fun (i : Nat) => xs.length - i) 0 rfl rfl ?_ ?_ ?_ ?_
    · exact ⟨Nat.zero_le _, fun j hj => by omega⟩
    · exact ⟨⟨_, rfl, by (first | rfl | (simp; done) | (simp; omega))⟩, rfl, trivial⟩
    · exact trivial
    · intro i hinv
      simp only [List.cons_append, List.nil_append]
      refine W_seq (fun K7 hK7 => ?_)
      refine W_seq (fun K8 hK8 => ?_)
      refine W_region (WL_cons rfl (WX_q rfl rfl (q_move rfl rfl) (WL_cons rfl (WX_q rfl rfl (q_move rfl rfl) (WL_cons rfl (?_))))))
      first | refine WX_q rfl rfl (q_len' G rfl rfl rfl rfl (List.length_map _)) ?_ | refine WX_q rfl rfl (q_len G rfl rfl rfl rfl) ?_
      refine WL_cons rfl (WX_q rfl rfl (q_cmp rfl rfl rfl rfl) (?_))
      refine WL_nil (hK8 _ ?_)
      clear hK8 K8
      refine W_cond rfl (fun h2 => ?_) (fun h2 => ?_)
      · try rw [h2]
        try simp only [decide_eq_true_eq, decide_eq_false_iff_not, beq_iff_eq, bne_iff_ne, ne_eq, Bool.not_eq_true', Bool.not_eq_false', beq_eq_false_iff_ne, bne_eq_false_iff_eq, Bool.not_eq_true, Bool.not_eq_false, Int.not_lt, Int.not_le, gt_iff_lt, ge_iff_le, Bool.and_eq_true, Bool.and_eq_false_iff, Bool.or_eq_true, Bool.or_eq_false_iff] at h2
        refine W_skip (hK7 _ ?_)
        clear hK7 K7
        refine W_seq (fun K9 hK9 => ?_)
        refine W_block ?_
        refine W_seq (fun K10 hK10 => ?_)
        refine W_draws mixed (by kernel_rfl) (QL_cons rfl (QX_q rfl rfl (q_move rfl rfl) (QL_cons rfl (QX_q rfl rfl (q_move rfl rfl) (QL_cons rfl (?_))))))
        refine QX_q rfl rfl (q_index_lst G rfl rfl rfl rfl (by omega) (getN (by omega))) ?_
        refine QL_cons rfl (QX_q rfl rfl (q_load_ept_struct G rfl rfl rfl rfl) (QL_cons rfl (QX_q rfl rfl (q_move rfl rfl) (QL_cons rfl (QX_q rfl rfl (q_move rfl rfl) (QL_cons rfl (?_)))))))
        refine QX_q rfl rfl (q_index_lst G rfl rfl rfl rfl (by omega) (getN (by omega))) ?_
        refine QL_cons rfl (QX_q rfl rfl (q_load_ept_struct G rfl rfl rfl rfl) (QL_cons rfl (?_)))
        refine QX_q rfl rfl (q_call rfl (ArgsOK.of rfl) (c_laws_eqSetting _ _) rfl) ?_
        refine QL_cons rfl (QX_q rfl rfl (q_not rfl rfl) (?_))
        refine QL_nil (hK10 _ ?_)
        clear hK10 K10
        refine W_cond rfl (fun h3 => ?_) (fun h3 => ?_)
        · try rw [h3]
          try simp only [decide_eq_true_eq, decide_eq_false_iff_not, beq_iff_eq, bne_iff_ne, ne_eq, Bool.not_eq_true', Bool.not_eq_false', beq_eq_false_iff_ne, bne_eq_false_iff_eq, Bool.not_eq_true, Bool.not_eq_false, Int.not_lt, Int.not_le, gt_iff_lt, ge_iff_le, Bool.and_eq_true, Bool.and_eq_false_iff, Bool.or_eq_true, Bool.or_eq_false_iff] at h3
          refine W_seq (fun K11 hK11 => ?_)
          refine W_region (WL_cons rfl (WX_q rfl rfl (q_assign rfl rfl) (?_)))
          refine WL_nil (hK11 _ ?_)
          clear hK11 K11
          refine W_ret (fin_one rfl (rc_v ?_))
          all_goals clear hK9 K9 hK5 K5
          all_goals (first | (have e : xs ≠ ys := fun e => (by (subst e; simp_all [eqT]; done)); simp [e]; done) | (have e : xs = ys := eq_true_of (by omega) hinv.2 (by omega); simp [e]; done) | (have e : xs ≠ ys := eq_false_of (i := i) (fun e => (by simp_all [eqT])); simp [e]; done))
        · try rw [h3]
          try simp only [decide_eq_true_eq, decide_eq_false_iff_not, beq_iff_eq, bne_iff_ne, ne_eq, Bool.not_eq_true', Bool.not_eq_false', beq_eq_false_iff_ne, bne_eq_false_iff_eq, Bool.not_eq_true, Bool.not_eq_false, Int.not_lt, Int.not_le, gt_iff_lt, ge_iff_le, Bool.and_eq_true, Bool.and_eq_false_iff, Bool.or_eq_true, Bool.or_eq_false_iff] at h3
          refine W_skip (hK9 _ ?_)
          clear hK9 K9
          refine W_region (WL_cons rfl (WX_q rfl rfl (q_move rfl rfl) (WL_cons rfl (?_))))
          first | refine WX_q rfl rfl (q_arith rfl rfl rfl rfl (by omega) (by omega)) ?_ | refine WX_q rfl rfl (q_wrap rfl rfl rfl rfl) ?_
          refine WL_cons rfl (WX_q rfl rfl (q_assign rfl rfl) (?_))
          refine WL_nil ⟨(i + 1), ?_, ?_, ⟨⟨_, rfl, by rfl⟩, rfl, trivial⟩, trivial, rfl, rfl, rfl⟩
          · exact ⟨by omega, upto_succ hinv.2 (by first | exact eqT_iff.mp (by assumption) | exact eqT_iff.mp (by simp_all))⟩
          · omega
      · try rw [h2]
        try simp only [decide_eq_true_eq, decide_eq_false_iff_not, beq_iff_eq, bne_iff_ne, ne_eq, Bool.not_eq_true', Bool.not_eq_false', beq_eq_false_iff_ne, bne_eq_false_iff_eq, Bool.not_eq_true, Bool.not_eq_false, Int.not_lt, Int.not_le, gt_iff_lt, ge_iff_le, Bool.and_eq_true, Bool.and_eq_false_iff, Bool.or_eq_true, Bool.or_eq_false_iff] at h2
        refine W_exit (hK5 _ ?_)
        clear hK7 K7 hK5 K5
        refine W_seq (fun K12 hK12 => ?_)
        refine W_region (WL_cons rfl (WX_q rfl rfl (q_assign rfl rfl) (?_)))
        refine WL_nil (hK12 _ ?_)
        clear hK12 K12
        refine W_ret (fin_one rfl (rc_v ?_))
        all_goals (first | (have e : xs ≠ ys := fun e => (by (subst e; simp_all [eqT]; done)); simp [e]; done) | (have e : xs = ys := eq_true_of (by omega) hinv.2 (by omega); simp [e]; done) | (have e : xs ≠ ys := eq_false_of (i := i) (fun e => (by simp_all [eqT])); simp [e]; done))

theorem c_spec_SettingsText (xs : List Setting) (hn : xs.length ≤ 1048576) (hz : ∀ i, i < xs.length → (xs.getD i default).n.size ≤ 9223372036854775807) : Ctr Tryd.prog 13 [.lst 6 (xs.map encTc)] (.many [.v (.string (setsT xs)), .v (.bool (goodT xs))]) := by
  refine Ctr.of (n := 24) G Tryd.func13 rfl (by kernel_rfl) rfl rfl rfl (fun w0 => ?_)
  refine W_seq (fun K1 hK1 => ?_)
  refine W_region (WL_cons rfl (WX_q rfl rfl (q_assign rfl rfl) (WL_cons rfl (WX_q rfl rfl (q_assign rfl rfl) (?_)))))
  refine WL_nil (hK1 _ ?_)
  clear hK1 K1
  refine W_seq (fun K2 hK2 => ?_)
  refine W_seq (fun K3 hK3 => ?_)
  refine W_region (WL_cons rfl (WX_q rfl rfl (q_move rfl rfl) (WL_cons rfl (?_))))
  refine WX_q rfl rfl (q_call rfl (ArgsOK.of rfl) (c_spec_l24Good _ (by omega) (by assumption)) rfl) ?_
  refine WL_cons rfl (WX_q rfl rfl (q_not rfl rfl) (?_))
  refine WL_nil (hK3 _ ?_)
  clear hK3 K3
  refine W_cond rfl (fun h1 => ?_) (fun h1 => ?_)
  · try rw [h1]
    try simp only [decide_eq_true_eq, decide_eq_false_iff_not, beq_iff_eq, bne_iff_ne, ne_eq, Bool.not_eq_true', Bool.not_eq_false', beq_eq_false_iff_ne, bne_eq_false_iff_eq, Bool.not_eq_true, Bool.not_eq_false, Int.not_lt, Int.not_le, gt_iff_lt, ge_iff_le, Bool.and_eq_true, Bool.and_eq_false_iff, Bool.or_eq_true, Bool.or_eq_false_iff] at h1
    refine W_seq (fun K4 hK4 => ?_)
    refine W_region (WL_cons rfl (WX_q rfl rfl (q_assign rfl rfl) (WL_cons rfl (WX_q rfl rfl (q_assign rfl rfl) (?_)))))
    refine WL_nil (hK4 _ ?_)
    clear hK4 K4
    refine W_ret (fin_many rfl rfl rfl rfl (rcs_cons (rc_v ?_) (rcs_cons (rc_v ?_) rcs_nil)))
    all_goals clear hK2 K2
    all_goals (first | (simp_all [setsT]; done) | (have e : i = xs.length := (by omega); subst e; simp_all [setsT]; done))
  · try rw [h1]
    try simp only [decide_eq_true_eq, decide_eq_false_iff_not, beq_iff_eq, bne_iff_ne, ne_eq, Bool.not_eq_true', Bool.not_eq_false', beq_eq_false_iff_ne, bne_eq_false_iff_eq, Bool.not_eq_true, Bool.not_eq_false, Int.not_lt, Int.not_le, gt_iff_lt, ge_iff_le, Bool.and_eq_true, Bool.and_eq_false_iff, Bool.or_eq_true, Bool.or_eq_false_iff] at h1
    have hg := goodT_set h1
    refine W_skip (hK2 _ ?_)
    clear hK2 K2
    refine W_seq (fun K5 hK5 => ?_)
    refine W_region (WL_cons rfl (WX_q rfl rfl (q_assign rfl rfl) (?_)))
    refine WL_nil (hK5 _ ?_)
    clear hK5 K5
    refine W_seq (fun K6 hK6 => ?_)
    refine W_seq (fun K7 hK7 => ?_)
    refine W_region (WL_cons rfl (WX_q rfl rfl (q_assign rfl rfl) (?_)))
    refine WL_nil (hK7 _ ?_)
    clear hK7 K7
    refine W_block ?_
    refine W_loopK [0] [] (fun (i : Nat) => [(4, .v (.string (setsF xs i))), (5, .v (.int .i64 (i : Int)))]) (fun (i : Nat) => []) (fun (i : Nat) => i ≤ xs.length) (fun (i : Nat) => xs.length - i) 0 rfl rfl ?_ ?_ ?_ ?_
    · exact Nat.zero_le _
    · exact ⟨⟨_, rfl, by rfl⟩, rfl, ⟨⟨_, rfl, by rfl⟩, rfl, trivial⟩⟩
    · exact trivial
    · intro i hinv
      have hi : i ≤ xs.length := hinv
      have hfs := setsF_size hg i hi
      simp only [List.cons_append, List.nil_append]
      refine W_seq (fun K8 hK8 => ?_)
      refine W_seq (fun K9 hK9 => ?_)
      refine W_region (WL_cons rfl (WX_q rfl rfl (q_move rfl rfl) (WL_cons rfl (WX_q rfl rfl (q_move rfl rfl) (WL_cons rfl (?_))))))
      first | refine WX_q rfl rfl (q_len' G rfl rfl rfl rfl (List.length_map _)) ?_ | refine WX_q rfl rfl (q_len G rfl rfl rfl rfl) ?_
      refine WL_cons rfl (WX_q rfl rfl (q_cmp rfl rfl rfl rfl) (?_))
      refine WL_nil (hK9 _ ?_)
      clear hK9 K9
      refine W_cond rfl (fun h2 => ?_) (fun h2 => ?_)
      · try rw [h2]
        try simp only [decide_eq_true_eq, decide_eq_false_iff_not, beq_iff_eq, bne_iff_ne, ne_eq, Bool.not_eq_true', Bool.not_eq_false', beq_eq_false_iff_ne, bne_eq_false_iff_eq, Bool.not_eq_true, Bool.not_eq_false, Int.not_lt, Int.not_le, gt_iff_lt, ge_iff_le, Bool.and_eq_true, Bool.and_eq_false_iff, Bool.or_eq_true, Bool.or_eq_false_iff] at h2
        have hsz := setT_size (hg i (by omega))
        refine W_skip (hK8 _ ?_)
        clear hK8 K8
        refine W_seq (fun K10 hK10 => ?_)
        refine W_block ?_
        refine W_region (WL_cons rfl (WX_q rfl rfl (q_move rfl rfl) (WL_cons rfl (WX_q rfl rfl (q_move rfl rfl) (WL_cons rfl (WX_q rfl rfl (q_move rfl rfl) (WL_cons rfl (?_))))))))
        refine WX_q rfl rfl (q_index_lst G rfl rfl rfl rfl (by omega) (getN (by omega))) ?_
        refine WL_cons rfl (WX_q rfl rfl (q_load_ept_struct G rfl rfl rfl rfl) (WL_cons rfl (?_)))
        refine WX_q rfl rfl (q_call rfl (ArgsOK.of rfl) (c_spec_l24Text _ (hg i (by omega))) rfl) ?_
        refine WL_cons rfl (?_)
        refine WX_q rfl rfl (q_cat rfl rfl rfl (by (try simp only [ByteArray.size_append, size_lit, List.size_toArray, List.length_cons, List.length_nil]); omega)) ?_
        refine WL_cons rfl (?_)
        refine WX_q rfl rfl (q_cat rfl rfl rfl (by (try simp only [ByteArray.size_append, size_lit, List.size_toArray, List.length_cons, List.length_nil]); omega)) ?_
        refine WL_cons rfl (WX_q rfl rfl (q_assign rfl rfl) (?_))
        refine WL_nil (hK10 _ ?_)
        clear hK10 K10
        refine W_region (WL_cons rfl (WX_q rfl rfl (q_move rfl rfl) (WL_cons rfl (?_))))
        first | refine WX_q rfl rfl (q_arith rfl rfl rfl rfl (by omega) (by omega)) ?_ | refine WX_q rfl rfl (q_wrap rfl rfl rfl rfl) ?_
        refine WL_cons rfl (WX_q rfl rfl (q_assign rfl rfl) (?_))
        refine WL_nil ⟨(i + 1), ?_, ?_, ⟨⟨_, rfl, by (first | rfl | exact congrArg (fun z => AV.v (Value.string z)) setsF_succ.symm | exact congrArg (fun z => AV.v (Value.string z)) setsF_succ2.symm)⟩, rfl, ⟨⟨_, rfl, by (first | rfl | exact congrArg (fun z => AV.v (Value.string z)) setsF_succ.symm | exact congrArg (fun z => AV.v (Value.string z)) setsF_succ2.symm)⟩, rfl, trivial⟩⟩, trivial, rfl, rfl, rfl⟩
        · omega
        · omega
      · try rw [h2]
        try simp only [decide_eq_true_eq, decide_eq_false_iff_not, beq_iff_eq, bne_iff_ne, ne_eq, Bool.not_eq_true', Bool.not_eq_false', beq_eq_false_iff_ne, bne_eq_false_iff_eq, Bool.not_eq_true, Bool.not_eq_false, Int.not_lt, Int.not_le, gt_iff_lt, ge_iff_le, Bool.and_eq_true, Bool.and_eq_false_iff, Bool.or_eq_true, Bool.or_eq_false_iff] at h2
        refine W_exit (hK6 _ ?_)
        clear hK8 K8 hK6 K6
        refine W_seq (fun K11 hK11 => ?_)
        refine W_region (WL_cons rfl (WX_q rfl rfl (q_move rfl rfl) (WL_cons rfl (WX_q rfl rfl (q_assign rfl rfl) (WL_cons rfl (WX_q rfl rfl (q_assign rfl rfl) (?_)))))))
        refine WL_nil (hK11 _ ?_)
        clear hK11 K11
        refine W_ret (fin_many rfl rfl rfl rfl (rcs_cons (rc_v ?_) (rcs_cons (rc_v ?_) rcs_nil)))
        all_goals (first | (simp_all [setsT]; done) | (have e : i = xs.length := (by omega); subst e; simp_all [setsT]; done))

theorem c_impl_SettingsText (xs : List Setting) (hn : xs.length ≤ 1048576) (hz : ∀ i, i < xs.length → (xs.getD i default).n.size ≤ 9223372036854775807) : Ctr Tryd.prog 15 [.lst 6 (xs.map encTc)] (.many [.v (.string (setsT xs)), .v (.bool (goodT xs))]) := by
  refine Ctr.of (n := 23) G Tryd.func15 rfl (by kernel_rfl) rfl rfl rfl (fun w0 => ?_)
  refine W_seq (fun K1 hK1 => ?_)
  refine W_region (WL_cons rfl (WX_q rfl rfl (q_assign rfl rfl) (WL_cons rfl (WX_q rfl rfl (q_assign rfl rfl) (?_)))))
  refine WL_nil (hK1 _ ?_)
  clear hK1 K1
  refine W_seq (fun K2 hK2 => ?_)
  refine W_seq (fun K3 hK3 => ?_)
  refine W_region (WL_cons rfl (WX_q rfl rfl (q_move rfl rfl) (WL_cons rfl (?_))))
  refine WX_q rfl rfl (q_call rfl (ArgsOK.of rfl) (c_impl_AreSettings _ (by omega) (by assumption)) rfl) ?_
  refine WL_cons rfl (WX_q rfl rfl (q_not rfl rfl) (?_))
  refine WL_nil (hK3 _ ?_)
  clear hK3 K3
  refine W_cond rfl (fun h1 => ?_) (fun h1 => ?_)
  · try rw [h1]
    try simp only [decide_eq_true_eq, decide_eq_false_iff_not, beq_iff_eq, bne_iff_ne, ne_eq, Bool.not_eq_true', Bool.not_eq_false', beq_eq_false_iff_ne, bne_eq_false_iff_eq, Bool.not_eq_true, Bool.not_eq_false, Int.not_lt, Int.not_le, gt_iff_lt, ge_iff_le, Bool.and_eq_true, Bool.and_eq_false_iff, Bool.or_eq_true, Bool.or_eq_false_iff] at h1
    refine W_seq (fun K4 hK4 => ?_)
    refine W_region (WL_cons rfl (WX_q rfl rfl (q_assign rfl rfl) (WL_cons rfl (WX_q rfl rfl (q_assign rfl rfl) (?_)))))
    refine WL_nil (hK4 _ ?_)
    clear hK4 K4
    refine W_ret (fin_many rfl rfl rfl rfl (rcs_cons (rc_v ?_) (rcs_cons (rc_v ?_) rcs_nil)))
    all_goals clear hK2 K2
    all_goals (first | (simp_all [setsT]; done) | (have e : i = xs.length := (by omega); subst e; simp_all [setsT]; done))
  · try rw [h1]
    try simp only [decide_eq_true_eq, decide_eq_false_iff_not, beq_iff_eq, bne_iff_ne, ne_eq, Bool.not_eq_true', Bool.not_eq_false', beq_eq_false_iff_ne, bne_eq_false_iff_eq, Bool.not_eq_true, Bool.not_eq_false, Int.not_lt, Int.not_le, gt_iff_lt, ge_iff_le, Bool.and_eq_true, Bool.and_eq_false_iff, Bool.or_eq_true, Bool.or_eq_false_iff] at h1
    have hg := goodT_set h1
    refine W_skip (hK2 _ ?_)
    clear hK2 K2
    refine W_seq (fun K5 hK5 => ?_)
    refine W_region (WL_cons rfl (WX_q rfl rfl (q_assign rfl rfl) (?_)))
    refine WL_nil (hK5 _ ?_)
    clear hK5 K5
    refine W_seq (fun K6 hK6 => ?_)
    refine W_seq (fun K7 hK7 => ?_)
    refine W_region (WL_cons rfl (WX_q rfl rfl (q_move rfl rfl) (WL_cons rfl (?_))))
    first | refine WX_q rfl rfl (q_len' G rfl rfl rfl rfl (List.length_map _)) ?_ | refine WX_q rfl rfl (q_len G rfl rfl rfl rfl) ?_
    refine WL_cons rfl (WX_q rfl rfl (q_move rfl rfl) (?_))
    refine WL_nil (hK7 _ ?_)
    clear hK7 K7
    refine W_block ?_
    refine W_loopK [10, 11] [] (fun (i : Nat) => [(4, .v (.string (setsF xs i))), (12, .v (.int .i64 (i : Int)))]) (fun (i : Nat) => []) (fun (i : Nat) => i ≤ xs.length) (fun (i : Nat) => xs.length - i) 0 rfl rfl ?_ ?_ ?_ ?_
    · exact Nat.zero_le _
    · exact ⟨⟨_, rfl, by rfl⟩, rfl, ⟨⟨_, rfl, by rfl⟩, rfl, trivial⟩⟩
    · exact trivial
    · intro i hinv
      have hi : i ≤ xs.length := hinv
      have hfs := setsF_size hg i hi
      simp only [List.cons_append, List.nil_append]
      refine W_seq (fun K8 hK8 => ?_)
      refine W_region (WL_cons rfl (WX_q rfl rfl (q_cmp rfl rfl rfl rfl) (?_)))
      refine WL_nil (hK8 _ ?_)
      clear hK8 K8
      refine W_seq (fun K9 hK9 => ?_)
      refine W_cond rfl (fun h2 => ?_) (fun h2 => ?_)
      · try rw [h2]
        try simp only [decide_eq_true_eq, decide_eq_false_iff_not, beq_iff_eq, bne_iff_ne, ne_eq, Bool.not_eq_true', Bool.not_eq_false', beq_eq_false_iff_ne, bne_eq_false_iff_eq, Bool.not_eq_true, Bool.not_eq_false, Int.not_lt, Int.not_le, gt_iff_lt, ge_iff_le, Bool.and_eq_true, Bool.and_eq_false_iff, Bool.or_eq_true, Bool.or_eq_false_iff] at h2
        have hsz := setT_size (hg i (by omega))
        refine W_skip (hK9 _ ?_)
        clear hK9 K9
        refine W_seq (fun K10 hK10 => ?_)
        refine W_block ?_
        refine W_seq (fun K11 hK11 => ?_)
        refine W_region (WL_cons rfl (?_))
        refine WX_q rfl rfl (q_index_lst G rfl rfl rfl rfl (by omega) (getN (by omega))) ?_
        refine WL_cons rfl (WX_q rfl rfl (q_load_ept_struct G rfl rfl rfl rfl) (WL_cons rfl (WX_alloc_s G 1 rfl rfl rfl rfl rfl (WL_cons rfl (WX_store G rfl rfl rfl rfl rfl rfl rfl rfl rfl rfl rfl (?_))))))
        refine WL_nil (hK11 _ ?_)
        clear hK11 K11
        refine W_region (WL_cons rfl (WX_q rfl rfl (q_move rfl rfl) (WL_cons rfl (WX_q rfl rfl (q_load_box_struct G rfl rfl rfl rfl rfl rfl) (WL_cons rfl (?_))))))
        refine WX_q rfl rfl (q_call rfl (ArgsOK.of rfl) (c_impl_settingText _ (hg i (by omega))) rfl) ?_
        refine WL_cons rfl (?_)
        refine WX_q rfl rfl (q_cat rfl rfl rfl (by (try simp only [ByteArray.size_append, size_lit, List.size_toArray, List.length_cons, List.length_nil]); omega)) ?_
        refine WL_cons rfl (?_)
        refine WX_q rfl rfl (q_cat rfl rfl rfl (by (try simp only [ByteArray.size_append, size_lit, List.size_toArray, List.length_cons, List.length_nil]); omega)) ?_
        refine WL_cons rfl (WX_q rfl rfl (q_assign rfl rfl) (?_))
        refine WL_nil (hK10 _ ?_)
        clear hK10 K10
        refine W_region (WL_cons rfl (?_))
        first | refine WX_q rfl rfl (q_arith rfl rfl rfl rfl (by omega) (by omega)) ?_ | refine WX_q rfl rfl (q_wrap rfl rfl rfl rfl) ?_
        refine WL_cons rfl (WX_q rfl rfl (q_move rfl rfl) (?_))
        refine WL_nil ⟨(i + 1), ?_, ?_, ⟨⟨_, rfl, by (first | rfl | exact congrArg (fun z => AV.v (Value.string z)) setsF_succ.symm | exact congrArg (fun z => AV.v (Value.string z)) setsF_succ2.symm)⟩, rfl, ⟨⟨_, rfl, by (first | rfl | exact congrArg (fun z => AV.v (Value.string z)) setsF_succ.symm | exact congrArg (fun z => AV.v (Value.string z)) setsF_succ2.symm)⟩, rfl, trivial⟩⟩, trivial, rfl, rfl, rfl⟩
        · omega
        · omega
      · try rw [h2]
        try simp only [decide_eq_true_eq, decide_eq_false_iff_not, beq_iff_eq, bne_iff_ne, ne_eq, Bool.not_eq_true', Bool.not_eq_false', beq_eq_false_iff_ne, bne_eq_false_iff_eq, Bool.not_eq_true, Bool.not_eq_false, Int.not_lt, Int.not_le, gt_iff_lt, ge_iff_le, Bool.and_eq_true, Bool.and_eq_false_iff, Bool.or_eq_true, Bool.or_eq_false_iff] at h2
        refine W_exit (hK6 _ ?_)
        clear hK9 K9 hK6 K6
        refine W_seq (fun K12 hK12 => ?_)
        refine W_region (WL_cons rfl (WX_q rfl rfl (q_move rfl rfl) (WL_cons rfl (WX_q rfl rfl (q_assign rfl rfl) (WL_cons rfl (WX_q rfl rfl (q_assign rfl rfl) (?_)))))))
        refine WL_nil (hK12 _ ?_)
        clear hK12 K12
        refine W_ret (fin_many rfl rfl rfl rfl (rcs_cons (rc_v ?_) (rcs_cons (rc_v ?_) rcs_nil)))
        all_goals (first | (simp_all [setsT]; done) | (have e : i = xs.length := (by omega); subst e; simp_all [setsT]; done))

theorem c_laws_FnExactSettingsText (xs : List Setting) (h0 : xs.length ≤ 9223372036854775807) (hz : ∀ i, i < xs.length → (xs.getD i default).n.size ≤ 9223372036854775807) : Ctr Tryd.prog 4 [.lst 6 (xs.map encTc)] (.one (.v (.bool true))) := by
  refine Ctr.of (n := 40) G Tryd.func4 rfl (by kernel_rfl) rfl rfl rfl (fun w0 => ?_)
  refine W_seq (fun K1 hK1 => ?_)
  refine W_region (WL_cons rfl (WX_q rfl rfl (q_assign rfl rfl) (?_)))
  refine WL_nil (hK1 _ ?_)
  clear hK1 K1
  refine W_seq (fun K2 hK2 => ?_)
  refine W_region (WL_cons rfl (WX_q rfl rfl (q_assign rfl rfl) (?_)))
  refine WL_nil (hK2 _ ?_)
  clear hK2 K2
  refine W_seq (fun K3 hK3 => ?_)
  refine W_region (WL_cons rfl (WX_q rfl rfl (q_move rfl rfl) (WL_cons rfl (WX_q rfl rfl (q_move rfl rfl) (WL_cons rfl (?_))))))
  refine WX_q rfl rfl (q_call rfl (ArgsOK.of rfl) (c_laws_szSettingS _ _ (by assumption) (by assumption) (by first | rfl | omega)) rfl) ?_
  refine WL_cons rfl (WX_q rfl rfl (q_assign rfl rfl) (?_))
  refine WL_nil (hK3 _ ?_)
  clear hK3 K3
  refine W_seq (fun K4 hK4 => ?_)
  refine W_seq (fun K5 hK5 => ?_)
  refine W_region (WL_cons rfl (WX_q rfl rfl (q_move rfl rfl) (WL_cons rfl (WX_q rfl rfl (q_cmp rfl rfl rfl rfl) (?_)))))
  refine WL_nil (hK5 _ ?_)
  clear hK5 K5
  refine W_cond rfl (fun h1 => ?_) (fun h1 => ?_)
  · try rw [h1]
    try simp only [decide_eq_true_eq, decide_eq_false_iff_not, beq_iff_eq, bne_iff_ne, ne_eq, Bool.not_eq_true', Bool.not_eq_false', beq_eq_false_iff_ne, bne_eq_false_iff_eq, Bool.not_eq_true, Bool.not_eq_false, Int.not_lt, Int.not_le, gt_iff_lt, ge_iff_le, Bool.and_eq_true, Bool.and_eq_false_iff, Bool.or_eq_true, Bool.or_eq_false_iff] at h1
    refine W_seq (fun K6 hK6 => ?_)
    refine W_region (WL_cons rfl (WX_q rfl rfl (q_assign rfl rfl) (?_)))
    refine WL_nil (hK6 _ ?_)
    clear hK6 K6
    refine W_ret (fin_one rfl (rc_v ?_))
    all_goals clear hK4 K4
    all_goals ((first | rfl | (simp_all; done) | (simp_all; omega)))
  · try rw [h1]
    try simp only [decide_eq_true_eq, decide_eq_false_iff_not, beq_iff_eq, bne_iff_ne, ne_eq, Bool.not_eq_true', Bool.not_eq_false', beq_eq_false_iff_ne, bne_eq_false_iff_eq, Bool.not_eq_true, Bool.not_eq_false, Int.not_lt, Int.not_le, gt_iff_lt, ge_iff_le, Bool.and_eq_true, Bool.and_eq_false_iff, Bool.or_eq_true, Bool.or_eq_false_iff] at h1
    have hn : xs.length ≤ 1048576 := by unfold szT at h1; split at h1 <;> omega
    refine W_skip (hK4 _ ?_)
    clear hK4 K4
    refine W_seq (fun K7 hK7 => ?_)
    refine W_region (WL_cons rfl (WX_q rfl rfl (q_move rfl rfl) (WL_cons rfl (?_))))
    refine WX_call 1 rfl rfl rfl (ArgsOK.of rfl) (c_laws_toSettingS _ (by assumption)) rfl rfl ?_
    refine WL_cons rfl (?_)
    refine WX_q rfl rfl (q_call rfl (ArgsOK.of rfl) (c_spec_SettingsText _ (by omega) (by assumption)) rfl) ?_
    refine WL_cons rfl (WX_q rfl rfl (q_move rfl rfl) (WL_cons rfl (WX_q rfl rfl (q_extract rfl rfl rfl) (WL_cons rfl (WX_q rfl rfl (q_extract rfl rfl rfl) (WL_cons rfl (WX_q rfl rfl (q_assign rfl rfl) (WL_cons rfl (WX_q rfl rfl (q_assign rfl rfl) (?_))))))))))
    refine WL_nil (hK7 _ ?_)
    clear hK7 K7
    refine W_seq (fun K8 hK8 => ?_)
    refine W_region (WL_cons rfl (WX_q rfl rfl (q_move rfl rfl) (WL_cons rfl (?_))))
    refine WX_call 2 rfl rfl rfl (ArgsOK.of rfl) (c_laws_toSettingS _ (by assumption)) rfl rfl ?_
    refine WL_cons rfl (WX_q rfl rfl (q_assign rfl rfl) (?_))
    refine WL_nil (hK8 _ ?_)
    clear hK8 K8
    refine W_seq (fun K9 hK9 => ?_)
    refine W_region (WL_cons rfl (WX_q rfl rfl (q_move rfl rfl) (WL_cons rfl (?_))))
    refine WX_q rfl rfl (q_call rfl (ArgsOK.of rfl) (c_impl_SettingsText _ (by omega) (by assumption)) rfl) ?_
    refine WL_cons rfl (WX_q rfl rfl (q_move rfl rfl) (WL_cons rfl (WX_q rfl rfl (q_extract rfl rfl rfl) (WL_cons rfl (WX_q rfl rfl (q_extract rfl rfl rfl) (WL_cons rfl (WX_q rfl rfl (q_assign rfl rfl) (WL_cons rfl (WX_q rfl rfl (q_assign rfl rfl) (?_))))))))))
    refine WL_nil (hK9 _ ?_)
    clear hK9 K9
    refine W_seq (fun K10 hK10 => ?_)
    refine W_seq (fun K11 hK11 => ?_)
    refine W_region (WL_cons rfl (WX_q rfl rfl (q_move rfl rfl) (WL_cons rfl (WX_q rfl rfl (q_move rfl rfl) (WL_cons rfl (WX_q rfl rfl (q_cmp_str rfl rfl rfl rfl) (WL_cons rfl (WX_q rfl rfl (q_move rfl rfl) (WL_part rfl rfl rfl (fun h2 => ?_) (fun h2 => ?_))))))))))
    · try rw [h2]
      try simp only [decide_eq_true_eq, decide_eq_false_iff_not, beq_iff_eq, bne_iff_ne, ne_eq, Bool.not_eq_true', Bool.not_eq_false', beq_eq_false_iff_ne, bne_eq_false_iff_eq, Bool.not_eq_true, Bool.not_eq_false, Int.not_lt, Int.not_le, gt_iff_lt, ge_iff_le, Bool.and_eq_true, Bool.and_eq_false_iff, Bool.or_eq_true, Bool.or_eq_false_iff] at h2
      refine WL_skip rfl rfl rfl rfl rfl rfl (WL_skip rfl rfl rfl rfl rfl rfl (WL_skip rfl rfl rfl rfl rfl rfl (WL_cons rfl (WX_q rfl rfl (q_pick_t rfl rfl rfl) (?_)))))
      refine WL_nil (hK11 _ ?_)
      clear hK11 K11
      refine W_true rfl ?_
      refine W_seq (fun K12 hK12 => ?_)
      refine W_region (WL_cons rfl (WX_q rfl rfl (q_assign rfl rfl) (?_)))
      refine WL_nil (hK12 _ ?_)
      clear hK12 K12
      refine W_ret (fin_one rfl (rc_v ?_))
      all_goals clear hK10 K10
      all_goals ((first | rfl | (simp_all; done) | (simp_all; omega)))
    · try rw [h2]
      try simp only [decide_eq_true_eq, decide_eq_false_iff_not, beq_iff_eq, bne_iff_ne, ne_eq, Bool.not_eq_true', Bool.not_eq_false', beq_eq_false_iff_ne, bne_eq_false_iff_eq, Bool.not_eq_true, Bool.not_eq_false, Int.not_lt, Int.not_le, gt_iff_lt, ge_iff_le, Bool.and_eq_true, Bool.and_eq_false_iff, Bool.or_eq_true, Bool.or_eq_false_iff] at h2
      refine WL_run rfl rfl rfl (WX_q rfl rfl (q_move rfl rfl) (WL_run rfl rfl rfl (WX_q rfl rfl (q_move rfl rfl) (WL_run rfl rfl rfl (WX_q rfl rfl (q_bne (G 4 _ rfl).1 rfl rfl rfl) (WL_cons rfl (WX_q rfl rfl (q_pick_f rfl rfl rfl) (?_))))))))
      refine WL_nil (hK11 _ ?_)
      clear hK11 K11
      refine W_cond rfl (fun h3 => ?_) (fun h3 => ?_)
      · try rw [h3]
        try simp only [decide_eq_true_eq, decide_eq_false_iff_not, beq_iff_eq, bne_iff_ne, ne_eq, Bool.not_eq_true', Bool.not_eq_false', beq_eq_false_iff_ne, bne_eq_false_iff_eq, Bool.not_eq_true, Bool.not_eq_false, Int.not_lt, Int.not_le, gt_iff_lt, ge_iff_le, Bool.and_eq_true, Bool.and_eq_false_iff, Bool.or_eq_true, Bool.or_eq_false_iff] at h3
        refine W_seq (fun K13 hK13 => ?_)
        refine W_region (WL_cons rfl (WX_q rfl rfl (q_assign rfl rfl) (?_)))
        refine WL_nil (hK13 _ ?_)
        clear hK13 K13
        refine W_ret (fin_one rfl (rc_v ?_))
        all_goals clear hK10 K10
        all_goals ((first | rfl | (simp_all; done) | (simp_all; omega)))
      · try rw [h3]
        try simp only [decide_eq_true_eq, decide_eq_false_iff_not, beq_iff_eq, bne_iff_ne, ne_eq, Bool.not_eq_true', Bool.not_eq_false', beq_eq_false_iff_ne, bne_eq_false_iff_eq, Bool.not_eq_true, Bool.not_eq_false, Int.not_lt, Int.not_le, gt_iff_lt, ge_iff_le, Bool.and_eq_true, Bool.and_eq_false_iff, Bool.or_eq_true, Bool.or_eq_false_iff] at h3
        refine W_skip (hK10 _ ?_)
        clear hK10 K10
        refine W_seq (fun K14 hK14 => ?_)
        refine W_seq (fun K15 hK15 => ?_)
        refine W_region (WL_cons rfl (WX_q rfl rfl (q_move rfl rfl) (WL_cons rfl (WX_q rfl rfl (q_move rfl rfl) (WL_cons rfl (?_))))))
        refine WX_call 3 rfl rfl rfl (ArgsOK.of rfl) (c_laws_toSettingS _ (by assumption)) rfl rfl ?_
        refine WL_cons rfl (?_)
        refine WX_q rfl rfl (q_call rfl (ArgsOK.of rfl) (c_laws_eqSettingS _ _ (by omega)) rfl) ?_
        refine WL_cons rfl (WX_q rfl rfl (q_not rfl rfl) (?_))
        refine WL_nil (hK15 _ ?_)
        clear hK15 K15
        refine W_cond rfl (fun h4 => ?_) (fun h4 => ?_)
        · try rw [h4]
          try simp only [decide_eq_true_eq, decide_eq_false_iff_not, beq_iff_eq, bne_iff_ne, ne_eq, Bool.not_eq_true', Bool.not_eq_false', beq_eq_false_iff_ne, bne_eq_false_iff_eq, Bool.not_eq_true, Bool.not_eq_false, Int.not_lt, Int.not_le, gt_iff_lt, ge_iff_le, Bool.and_eq_true, Bool.and_eq_false_iff, Bool.or_eq_true, Bool.or_eq_false_iff] at h4
          refine W_seq (fun K16 hK16 => ?_)
          refine W_region (WL_cons rfl (WX_q rfl rfl (q_assign rfl rfl) (?_)))
          refine WL_nil (hK16 _ ?_)
          clear hK16 K16
          refine W_ret (fin_one rfl (rc_v ?_))
          all_goals clear hK14 K14
          all_goals ((first | rfl | (simp_all; done) | (simp_all; omega)))
        · try rw [h4]
          try simp only [decide_eq_true_eq, decide_eq_false_iff_not, beq_iff_eq, bne_iff_ne, ne_eq, Bool.not_eq_true', Bool.not_eq_false', beq_eq_false_iff_ne, bne_eq_false_iff_eq, Bool.not_eq_true, Bool.not_eq_false, Int.not_lt, Int.not_le, gt_iff_lt, ge_iff_le, Bool.and_eq_true, Bool.and_eq_false_iff, Bool.or_eq_true, Bool.or_eq_false_iff] at h4
          refine W_skip (hK14 _ ?_)
          clear hK14 K14
          refine W_seq (fun K17 hK17 => ?_)
          refine W_region (WL_cons rfl (WX_q rfl rfl (q_assign rfl rfl) (?_)))
          refine WL_nil (hK17 _ ?_)
          clear hK17 K17
          refine W_ret (fin_one rfl (rc_v ?_))
          all_goals ((first | rfl | (simp_all; done) | (simp_all; omega)))

end Go.Proofs.YtehijimgenicfaaDoor

/- Walks through functions of the program, one contract each (written by gen.py). -/
set_option maxRecDepth 20000
set_option linter.unusedVariables false
set_option linter.unusedSimpArgs false
namespace Go.Proofs.YtehijimgenicfaaDoor
open Go Go.Rf

theorem c_spec_DrawParseSettings (l : List Int) (hl : bytesOK l) : CtrX (α := ByteArray) Tryd.prog 30 [.lst 1 (l.map encU)] [] (fun y => (y.size ≤ 100000) ∧ True) (fun y => .one (.v (.string y))) (fun y => []) := by
  have h : okC 0 (⟨l, 0, 0⟩ : Cur) := ⟨hl, Int.le_refl _, Int.le_refl _⟩
  refine CtrX.of (n := 31) (k := 0) G Tryd.func30 rfl (by kernel_rfl) rfl rfl rfl rfl (fun _ => rfl) rfl rfl (fun w0 _ hpin => ?_)
  refine W_seq (fun K1 hK1 => ?_)
  refine W_region (WL_cons rfl (WX_q rfl rfl (q_assign rfl rfl) (?_)))
  refine WL_nil (hK1 _ ?_)
  clear hK1 K1
  refine W_pinT (t := 0) rfl (fun y => ?_)
  refine W_seq (fun K2 hK2 => ?_)
  refine W_region (WL_cons rfl (WX_q rfl rfl (q_move rfl rfl) (WL_cons rfl (WX_q rfl rfl (q_build G rfl rfl rfl rfl) (WL_cons rfl (WX_box 1 rfl rfl rfl rfl rfl rfl rfl (WL_cons rfl (WX_q rfl rfl (q_assign rfl rfl) (?_)))))))))
  refine WL_nil (hK2 _ ?_)
  clear hK2 K2
  refine W_unpin (id := 0) rfl ?_
  refine W_seq (fun K3 hK3 => ?_)
  refine W_region (WL_cons rfl (WX_q rfl rfl (q_move rfl rfl) (WL_cons rfl (?_))))
  refine WX_callx 2 [0] rfl rfl rfl (c_spec_l1Cur_settings h (by omega)) rfl (RowsIn.cons rfl RowsIn.nil) rfl (fun _ => rfl) rfl (fun x1 ⟨hv1, hc1⟩ => ?_)
  have hst := setsT_size (xs := x1.1) hv1.1
  refine WL_cons rfl (?_)
  refine WX_q rfl rfl (q_call rfl (ArgsOK.of rfl) (c_spec_SettingsText x1.1 (by omega) hv1.2) rfl) ?_
  refine WL_cons rfl (WX_q rfl rfl (q_move rfl rfl) (WL_cons rfl (WX_q rfl rfl (q_extract rfl rfl rfl) (WL_cons rfl (WX_q rfl rfl (q_extract rfl rfl rfl) (WL_cons rfl (WX_q rfl rfl (q_assign rfl rfl) (WL_cons rfl (WX_q rfl rfl (q_assign rfl rfl) (?_))))))))))
  refine WL_nil (hK3 _ ?_)
  clear hK3 K3
  refine W_seq (fun K4 hK4 => ?_)
  refine W_seq (fun K5 hK5 => ?_)
  refine W_region (WL_cons rfl (WX_q rfl rfl (q_move rfl rfl) (WL_cons rfl (?_))))
  refine WX_callx 2 [0] rfl rfl rfl (x_pick hc1 (by omega) (5)) rfl (RowsIn.cons rfl RowsIn.nil) rfl (fun _ => rfl) rfl (fun x2 ⟨hv2, hc2⟩ => ?_)
  refine WL_nil (hK5 _ ?_)
  clear hK5 K5
  refine W_block ?_
  refine W_seq (fun K6 hK6 => ?_)
  refine W_region (WL_cons rfl (WX_q rfl rfl (q_cmp rfl rfl rfl rfl) (WL_cons rfl (WX_q rfl rfl (q_assign rfl rfl) (?_)))))
  refine WL_nil (hK6 _ ?_)
  clear hK6 K6
  refine W_cond rfl (fun h1 => ?_) (fun h1 => ?_)
  · try rw [h1]
    try simp only [decide_eq_true_eq, decide_eq_false_iff_not, beq_iff_eq, bne_iff_ne, ne_eq, Bool.not_eq_true', Bool.not_eq_false', beq_eq_false_iff_ne, bne_eq_false_iff_eq, Bool.not_eq_true, Bool.not_eq_false, Int.not_lt, Int.not_le, gt_iff_lt, ge_iff_le, Bool.and_eq_true, Bool.and_eq_false_iff, Bool.or_eq_true, Bool.or_eq_false_iff] at h1
    refine W_region (WL_cons rfl (WX_q rfl rfl (q_move rfl rfl) (WL_cons rfl (WX_q rfl rfl (q_move rfl rfl) (WL_cons rfl (?_))))))
    refine WX_callx 2 [0] rfl rfl rfl (c_spec_l1Cur_spoilt hc2 (by omega) (setsT x1.1) ⟨#[48, 32, 103, 116, 49, 115]⟩ (by omega) (by decide)) rfl (RowsIn.cons rfl RowsIn.nil) rfl (fun _ => rfl) rfl (fun x3 ⟨hv3, hc3⟩ => ?_)
    refine WL_cons rfl (WX_q rfl rfl (q_assign rfl rfl) (?_))
    refine WL_nil (hK4 _ ?_)
    clear hK4 K4
    refine W_seq (fun K7 hK7 => ?_)
    refine W_region (WL_cons rfl (WX_q rfl rfl (q_move rfl rfl) (WL_cons rfl (WX_q rfl rfl (q_assign rfl rfl) (?_)))))
    refine WL_nil (hK7 _ ?_)
    clear hK7 K7
    refine W_ret (finx (x3.1) (finm_one rfl (rc_v ?_) rfl AftOK.nil) (⟨?_, ?_⟩))
    all_goals (first | rfl | trivial | (show x3.1.size ≤ 100000; omega) | (show (setsT x1.1).size ≤ 100000; omega) | (simp only [ByteArray.size_append, size_lit, List.size_toArray, List.length_cons, List.length_nil]; omega))
  · try rw [h1]
    try simp only [decide_eq_true_eq, decide_eq_false_iff_not, beq_iff_eq, bne_iff_ne, ne_eq, Bool.not_eq_true', Bool.not_eq_false', beq_eq_false_iff_ne, bne_eq_false_iff_eq, Bool.not_eq_true, Bool.not_eq_false, Int.not_lt, Int.not_le, gt_iff_lt, ge_iff_le, Bool.and_eq_true, Bool.and_eq_false_iff, Bool.or_eq_true, Bool.or_eq_false_iff] at h1
    refine W_seq (fun K8 hK8 => ?_)
    refine W_region (WL_cons rfl (WX_q rfl rfl (q_cmp rfl rfl rfl rfl) (WL_cons rfl (WX_q rfl rfl (q_assign rfl rfl) (?_)))))
    refine WL_nil (hK8 _ ?_)
    clear hK8 K8
    refine W_cond rfl (fun h2 => ?_) (fun h2 => ?_)
    · try rw [h2]
      try simp only [decide_eq_true_eq, decide_eq_false_iff_not, beq_iff_eq, bne_iff_ne, ne_eq, Bool.not_eq_true', Bool.not_eq_false', beq_eq_false_iff_ne, bne_eq_false_iff_eq, Bool.not_eq_true, Bool.not_eq_false, Int.not_lt, Int.not_le, gt_iff_lt, ge_iff_le, Bool.and_eq_true, Bool.and_eq_false_iff, Bool.or_eq_true, Bool.or_eq_false_iff] at h2
      refine W_region (WL_cons rfl (WX_q rfl rfl (q_move rfl rfl) (WL_cons rfl (?_))))
      refine WX_q rfl rfl (q_cat rfl rfl rfl (by simp only [size_lit, List.size_toArray, List.length_cons, List.length_nil]; omega)) ?_
      refine WL_cons rfl (WX_q rfl rfl (q_assign rfl rfl) (?_))
      refine WL_nil (hK4 _ ?_)
      clear hK4 K4
      refine W_seq (fun K9 hK9 => ?_)
      refine W_region (WL_cons rfl (WX_q rfl rfl (q_move rfl rfl) (WL_cons rfl (WX_q rfl rfl (q_assign rfl rfl) (?_)))))
      refine WL_nil (hK9 _ ?_)
      clear hK9 K9
      refine W_ret (finx (_) (finm_one rfl (rc_v rfl) rfl AftOK.nil) (⟨?_, ?_⟩))
      all_goals (try rcases x1 with ⟨_, _⟩)
      all_goals (try rcases x2 with ⟨_, _⟩)
      all_goals (try rcases x3 with ⟨_, _⟩)
      all_goals (try dsimp only at *)
      all_goals (first | rfl | trivial | (show x3.1.size ≤ 100000; omega) | (show (setsT x1.1).size ≤ 100000; omega) | (simp only [ByteArray.size_append, size_lit, List.size_toArray, List.length_cons, List.length_nil]; omega))
    · try rw [h2]
      try simp only [decide_eq_true_eq, decide_eq_false_iff_not, beq_iff_eq, bne_iff_ne, ne_eq, Bool.not_eq_true', Bool.not_eq_false', beq_eq_false_iff_ne, bne_eq_false_iff_eq, Bool.not_eq_true, Bool.not_eq_false, Int.not_lt, Int.not_le, gt_iff_lt, ge_iff_le, Bool.and_eq_true, Bool.and_eq_false_iff, Bool.or_eq_true, Bool.or_eq_false_iff] at h2
      refine W_seq (fun K10 hK10 => ?_)
      refine W_region (WL_cons rfl (WX_q rfl rfl (q_cmp rfl rfl rfl rfl) (WL_cons rfl (WX_q rfl rfl (q_assign rfl rfl) (?_)))))
      refine WL_nil (hK10 _ ?_)
      clear hK10 K10
      refine W_cond rfl (fun h3 => ?_) (fun h3 => ?_)
      · try rw [h3]
        try simp only [decide_eq_true_eq, decide_eq_false_iff_not, beq_iff_eq, bne_iff_ne, ne_eq, Bool.not_eq_true', Bool.not_eq_false', beq_eq_false_iff_ne, bne_eq_false_iff_eq, Bool.not_eq_true, Bool.not_eq_false, Int.not_lt, Int.not_le, gt_iff_lt, ge_iff_le, Bool.and_eq_true, Bool.and_eq_false_iff, Bool.or_eq_true, Bool.or_eq_false_iff] at h3
        refine W_region (WL_cons rfl (WX_q rfl rfl (q_move rfl rfl) (WL_cons rfl (?_))))
        refine WX_q rfl rfl (q_cat rfl rfl rfl (by simp only [size_lit, List.size_toArray, List.length_cons, List.length_nil]; omega)) ?_
        refine WL_cons rfl (WX_q rfl rfl (q_assign rfl rfl) (?_))
        refine WL_nil (hK4 _ ?_)
        clear hK4 K4
        refine W_seq (fun K11 hK11 => ?_)
        refine W_region (WL_cons rfl (WX_q rfl rfl (q_move rfl rfl) (WL_cons rfl (WX_q rfl rfl (q_assign rfl rfl) (?_)))))
        refine WL_nil (hK11 _ ?_)
        clear hK11 K11
        refine W_ret (finx (_) (finm_one rfl (rc_v rfl) rfl AftOK.nil) (⟨?_, ?_⟩))
        all_goals (try rcases x1 with ⟨_, _⟩)
        all_goals (try rcases x2 with ⟨_, _⟩)
        all_goals (try rcases x3 with ⟨_, _⟩)
        all_goals (try dsimp only at *)
        all_goals (first | rfl | trivial | (show x3.1.size ≤ 100000; omega) | (show (setsT x1.1).size ≤ 100000; omega) | (simp only [ByteArray.size_append, size_lit, List.size_toArray, List.length_cons, List.length_nil]; omega))
      · try rw [h3]
        try simp only [decide_eq_true_eq, decide_eq_false_iff_not, beq_iff_eq, bne_iff_ne, ne_eq, Bool.not_eq_true', Bool.not_eq_false', beq_eq_false_iff_ne, bne_eq_false_iff_eq, Bool.not_eq_true, Bool.not_eq_false, Int.not_lt, Int.not_le, gt_iff_lt, ge_iff_le, Bool.and_eq_true, Bool.and_eq_false_iff, Bool.or_eq_true, Bool.or_eq_false_iff] at h3
        refine W_skip (hK4 _ ?_)
        clear hK4 K4
        refine W_seq (fun K12 hK12 => ?_)
        refine W_region (WL_cons rfl (WX_q rfl rfl (q_move rfl rfl) (WL_cons rfl (WX_q rfl rfl (q_assign rfl rfl) (?_)))))
        refine WL_nil (hK12 _ ?_)
        clear hK12 K12
        refine W_ret (finx (setsT x1.1) (finm_one rfl (rc_v ?_) rfl AftOK.nil) (⟨?_, ?_⟩))
        all_goals (first | rfl | trivial | (show x3.1.size ≤ 100000; omega) | (show (setsT x1.1).size ≤ 100000; omega) | (simp only [ByteArray.size_append, size_lit, List.size_toArray, List.length_cons, List.length_nil]; omega))

end Go.Proofs.YtehijimgenicfaaDoor

/- Walks through functions of the program, one contract each (written by gen.py). -/
set_option maxRecDepth 20000
set_option linter.unusedVariables false
set_option linter.unusedSimpArgs false
namespace Go.Proofs.YtehijimgenicfaaDoor
open Go Go.Rf

theorem eqT27_lawsrBig : eqTypeB Tryd.prog 27 [.int .i64, .str, .int .i64, .int .i64, .int .i64, .bool] = true := by kernel_rfl
theorem c_laws_rBig (l : List Int) (hl : l.length ≤ 9223372036854775807) : Ctr Tryd.prog 24 [.lst 1 (l.map encU)] (.one (.v (.bool (decide (65536 < l.length))))) := by
  refine Ctr.of (n := 6) G Tryd.func24 rfl (by kernel_rfl) rfl rfl rfl (fun w0 => ?_)
  refine W_seq (fun K1 hK1 => ?_)
  refine W_region (WL_cons rfl (WX_q rfl rfl (q_assign rfl rfl) (?_)))
  refine WL_nil (hK1 _ ?_)
  clear hK1 K1
  refine W_seq (fun K2 hK2 => ?_)
  refine W_region (WL_cons rfl (WX_q rfl rfl (q_move rfl rfl) (WL_cons rfl (?_))))
  first | refine WX_q rfl rfl (q_len' G rfl rfl rfl rfl (List.length_map _)) ?_ | refine WX_q rfl rfl (q_len G rfl rfl rfl rfl) ?_
  refine WL_cons rfl (WX_q rfl rfl (q_cmp rfl rfl rfl rfl) (WL_cons rfl (WX_q rfl rfl (q_assign rfl rfl) (?_))))
  refine WL_nil (hK2 _ ?_)
  clear hK2 K2
  refine W_ret (fin_one rfl (rc_v ?_))
  all_goals (first | rfl | (simp; done) | (simp; omega))

theorem c_laws_rSettings (xs : List Setting) (hn : xs.length ≤ 9223372036854775807) : Ctr Tryd.prog 29 [.lst 6 (xs.map encTc), .lst 6 (xs.map encTc)] (.one (.v (.bool true))) := by
  refine Ctr.of (n := 26) G Tryd.func29 rfl (by kernel_rfl) rfl rfl rfl (fun w0 => ?_)
  refine W_seq (fun K1 hK1 => ?_)
  refine W_region (WL_cons rfl (WX_q rfl rfl (q_assign rfl rfl) (?_)))
  refine WL_nil (hK1 _ ?_)
  clear hK1 K1
  refine W_seq (fun K2 hK2 => ?_)
  refine W_seq (fun K3 hK3 => ?_)
  refine W_region (WL_cons rfl (WX_q rfl rfl (q_move rfl rfl) (WL_cons rfl (?_))))
  first | refine WX_q rfl rfl (q_len' G rfl rfl rfl rfl (List.length_map _)) ?_ | refine WX_q rfl rfl (q_len G rfl rfl rfl rfl) ?_
  refine WL_cons rfl (WX_q rfl rfl (q_move rfl rfl) (WL_cons rfl (?_)))
  first | refine WX_q rfl rfl (q_len' G rfl rfl rfl rfl (List.length_map _)) ?_ | refine WX_q rfl rfl (q_len G rfl rfl rfl rfl) ?_
  refine WL_cons rfl (?_)
  refine WX_q rfl rfl (q_eqv (v' := .bool false) (q_cmp rfl rfl rfl rfl) (by first | rfl | (simp; done) | (simp [eqCells, eqCell]; done))) ?_
  refine WL_nil (hK3 _ ?_)
  clear hK3 K3
  refine W_false rfl ?_
  refine W_skip (hK2 _ ?_)
  clear hK2 K2
  refine W_seq (fun K4 hK4 => ?_)
  refine W_seq (fun K5 hK5 => ?_)
  refine W_region (WL_cons rfl (WX_q rfl rfl (q_assign rfl rfl) (?_)))
  refine WL_nil (hK5 _ ?_)
  clear hK5 K5
  refine W_block ?_
  refine W_loopK [0, 1] [] (fun (i : Nat) => [(5, .v (.int .i64 (i : Int)))]) (fun (i : Nat) => []) (fun (i : Nat) => i ≤ xs.length) (fun (i : Nat) => xs.length - i) 0 rfl rfl ?_ ?_ ?_ ?_
  · exact Nat.zero_le _
  · exact ⟨⟨_, rfl, by (first | rfl | (simp; done) | (simp; omega))⟩, rfl, trivial⟩
  · exact trivial
  · intro i hinv
    simp only [List.cons_append, List.nil_append]
    refine W_seq (fun K6 hK6 => ?_)
    refine W_seq (fun K7 hK7 => ?_)
    refine W_region (WL_cons rfl (WX_q rfl rfl (q_move rfl rfl) (WL_cons rfl (WX_q rfl rfl (q_move rfl rfl) (WL_cons rfl (?_))))))
    first | refine WX_q rfl rfl (q_len' G rfl rfl rfl rfl (List.length_map _)) ?_ | refine WX_q rfl rfl (q_len G rfl rfl rfl rfl) ?_
    refine WL_cons rfl (WX_q rfl rfl (q_cmp rfl rfl rfl rfl) (?_))
    refine WL_nil (hK7 _ ?_)
    clear hK7 K7
    refine W_cond rfl (fun h1 => ?_) (fun h1 => ?_)
    · try rw [h1]
      try simp only [decide_eq_true_eq, decide_eq_false_iff_not, beq_iff_eq, bne_iff_ne, ne_eq, Bool.not_eq_true', Bool.not_eq_false', beq_eq_false_iff_ne, bne_eq_false_iff_eq, Bool.not_eq_true, Bool.not_eq_false, Int.not_lt, Int.not_le, gt_iff_lt, ge_iff_le, Bool.and_eq_true, Bool.and_eq_false_iff, Bool.or_eq_true, Bool.or_eq_false_iff] at h1
      refine W_skip (hK6 _ ?_)
      clear hK6 K6
      refine W_seq (fun K8 hK8 => ?_)
      refine W_block ?_
      refine W_seq (fun K9 hK9 => ?_)
      refine W_draws mixed (by kernel_rfl) (QL_cons rfl (QX_q rfl rfl (q_move rfl rfl) (QL_cons rfl (QX_q rfl rfl (q_move rfl rfl) (QL_cons rfl (?_))))))
      refine QX_q rfl rfl (q_index_lst G rfl rfl rfl rfl (by omega) (getN (by omega))) ?_
      refine QL_cons rfl (QX_q rfl rfl (q_load_ept_struct G rfl rfl rfl rfl) (QL_cons rfl (QX_q rfl rfl (q_move rfl rfl) (QL_cons rfl (QX_q rfl rfl (q_move rfl rfl) (QL_cons rfl (?_)))))))
      refine QX_q rfl rfl (q_index_lst G rfl rfl rfl rfl (by omega) (getN (by omega))) ?_
      refine QL_cons rfl (QX_q rfl rfl (q_load_ept_struct G rfl rfl rfl rfl) (QL_cons rfl (?_)))
      refine QX_q rfl rfl (q_eqv (v' := .bool false) (q_nes [.int .i64, .str, .int .i64, .int .i64, .int .i64, .bool] rfl rfl rfl rfl rfl rfl rfl (.inl rfl) (.inl rfl) eqT27_lawsrBig ⟨_, _, rfl, ⟨_, rfl⟩, _, _, rfl, ⟨_, rfl⟩, _, _, rfl, ⟨_, rfl⟩, _, _, rfl, ⟨_, rfl⟩, _, _, rfl, ⟨_, rfl⟩, _, _, rfl, ⟨_, rfl⟩, rfl⟩ ⟨_, _, rfl, ⟨_, rfl⟩, _, _, rfl, ⟨_, rfl⟩, _, _, rfl, ⟨_, rfl⟩, _, _, rfl, ⟨_, rfl⟩, _, _, rfl, ⟨_, rfl⟩, _, _, rfl, ⟨_, rfl⟩, rfl⟩) (by first | (simp; done) | (simp [eqCells, eqCell]; done))) ?_
      refine QL_nil (hK9 _ ?_)
      clear hK9 K9
      refine W_false rfl ?_
      refine W_skip (hK8 _ ?_)
      clear hK8 K8
      refine W_region (WL_cons rfl (WX_q rfl rfl (q_move rfl rfl) (WL_cons rfl (?_))))
      first | refine WX_q rfl rfl (q_arith rfl rfl rfl rfl (by omega) (by omega)) ?_ | refine WX_q rfl rfl (q_wrap rfl rfl rfl rfl) ?_
      refine WL_cons rfl (WX_q rfl rfl (q_assign rfl rfl) (?_))
      refine WL_nil ⟨(i + 1), ?_, ?_, ⟨⟨_, rfl, by rfl⟩, rfl, trivial⟩, trivial, rfl, rfl, rfl⟩
      · omega
      · omega
    · try rw [h1]
      try simp only [decide_eq_true_eq, decide_eq_false_iff_not, beq_iff_eq, bne_iff_ne, ne_eq, Bool.not_eq_true', Bool.not_eq_false', beq_eq_false_iff_ne, bne_eq_false_iff_eq, Bool.not_eq_true, Bool.not_eq_false, Int.not_lt, Int.not_le, gt_iff_lt, ge_iff_le, Bool.and_eq_true, Bool.and_eq_false_iff, Bool.or_eq_true, Bool.or_eq_false_iff] at h1
      refine W_exit (hK4 _ ?_)
      clear hK6 K6 hK4 K4
      refine W_seq (fun K10 hK10 => ?_)
      refine W_region (WL_cons rfl (WX_q rfl rfl (q_assign rfl rfl) (?_)))
      refine WL_nil (hK10 _ ?_)
      clear hK10 K10
      refine W_ret (fin_one rfl (rc_v ?_))
      all_goals (rfl)

end Go.Proofs.YtehijimgenicfaaDoor

/- Settings of a text: what both readers compute. -/
set_option linter.unusedVariables false
set_option linter.unusedSimpArgs false
namespace Go.Proofs.YtehijimgenicfaaDoor
open Go Go.Rf
def ln (s : ByteArray) (i : Nat) : ByteArray := (splitL s 10).getD i default
def lnN (s : ByteArray) : Nat := (splitL s 10).length
def outS (s : ByteArray) (i : Nat) : List Setting := foldN (fun i o => o ++ [psE (ln s i)]) [] i
def okI (s : ByteArray) (i : Nat) : Bool := psOK (ln s i) && goodT (outS s (i + 1))
def pssN (s : ByteArray) : Int := match (List.range (lnN s - 1)).find? (fun i => !(okI s i)) with
  | some i => i + 1
  | none => if (ln s (lnN s - 1)).toList = (⟨#[]⟩ : ByteArray).toList then 0 else lnN s
def pssK (s : ByteArray) : Bool := decide (pssN s = 0)
def pssL (s : ByteArray) : List Setting := if pssK s then outS s (lnN s - 1) else []
theorem outS_succ {s : ByteArray} {i : Nat} : outS s (i + 1) = outS s i ++ [psE (ln s i)] := rfl
theorem outS_len {s : ByteArray} : ∀ i, (outS s i).length = i
  | 0 => rfl
  | i + 1 => by rw [outS_succ, List.length_append, outS_len i]; rfl
theorem psE_sz {s : ByteArray} : (psE s).n.size ≤ s.size := by
  unfold psE
  split
  · exact word_sz
  · exact Nat.zero_le _
theorem outS_mem {s : ByteArray} : ∀ i, ∀ x ∈ outS s i, x.n.size ≤ s.size
  | 0 => fun x hx => by cases hx
  | i + 1 => fun x hx => by
    rw [outS_succ] at hx
    rcases List.mem_append.1 hx with h | h
    · exact outS_mem i x h
    · rw [List.mem_singleton.1 h]
      exact Nat.le_trans psE_sz word_sz
theorem outS_sz {s : ByteArray} (hs : s.size ≤ 1048576) (i : Nat) : ∀ k, k < (outS s i).length → ((outS s i).getD k default).n.size ≤ 9223372036854775807 := fun k hk => by
  have h := outS_mem (s := s) i ((outS s i).getD k default) (by simp [List.getD_eq_getElem?_getD, hk])
  omega
theorem ln_sz {s : ByteArray} (hs : s.size ≤ 1048576) {i : Nat} : (ln s i).size ≤ 1048576 := Nat.le_trans word_sz hs
theorem getLn {s : ByteArray} (i : Nat) {k : Int} (hk : k = (i : Int)) (h : i < lnN s) : ((splitL s 10).map encW)[k.toNat]? = some (encW (ln s i)) := by
  subst hk
  have h' : i < (splitL s 10).length := h
  simp [ln, h']
theorem pss_of {s : ByteArray} {n : Int} (h : pssN s = n) (hn : n ≠ 0) : pssL s = [] ∧ pssN s = n ∧ pssK s = false := by
  have hk : pssK s = false := by rw [pssK, h]; exact decide_eq_false hn
  exact ⟨by rw [pssL, hk]; rfl, h, hk⟩
theorem pss_bad {s : ByteArray} {i : Nat} (h : ∀ j, j < i → okI s j = true) (hi : i + 1 < lnN s) (hb : okI s i = false) : pssL s = [] ∧ pssN s = (i : Int) + 1 ∧ pssK s = false := by
  have hf : (List.range (lnN s - 1)).find? (fun i => !(okI s i)) = some i := by
    rw [List.find?_range_eq_some]
    exact ⟨by simp [hb], List.mem_range.mpr (by omega), fun j hj => by simp [h j hj]⟩
  exact pss_of (by rw [pssN, hf]) (by omega)
theorem pss_none {s : ByteArray} {i : Nat} (h : ∀ j, j < i → okI s j = true) (hi : lnN s ≤ i + 1) : (List.range (lnN s - 1)).find? (fun i => !(okI s i)) = none := by
  rw [List.find?_eq_none]
  intro j hj
  have := h j (by have := List.mem_range.mp hj; omega)
  simp [this]
theorem pss_last {s : ByteArray} {i : Nat} (h0 : 0 < lnN s) (h : ∀ j, j < i → okI s j = true) (hi : lnN s ≤ i + 1) (hl : ¬ (ln s (lnN s - 1)).toList = (⟨#[]⟩ : ByteArray).toList) : pssL s = [] ∧ pssN s = (lnN s : Int) ∧ pssK s = false :=
  pss_of (by rw [pssN, pss_none h hi]; exact if_neg hl) (by omega)
theorem pss_good {s : ByteArray} {i : Nat} (h : ∀ j, j < i → okI s j = true) (hi : i + 1 = lnN s) (hl : (ln s (lnN s - 1)).toList = (⟨#[]⟩ : ByteArray).toList) : pssL s = outS s i ∧ pssN s = 0 ∧ pssK s = true := by
  have hn : pssN s = 0 := by rw [pssN, pss_none h (by omega)]; exact if_pos hl
  have hk : pssK s = true := by rw [pssK, hn]; rfl
  have e : lnN s - 1 = i := by omega
  exact ⟨by rw [pssL, hk, e]; rfl, hn, hk⟩
theorem outS_enc {s : ByteArray} {i : Nat} : (outS s i).map encTc ++ [encTc (psE (ln s i))] = (outS s (i + 1)).map encTc := by rw [outS_succ, List.map_append]; rfl
theorem ok_f1 {s : ByteArray} {i : Nat} (h : psOK (ln s i) = false) : okI s i = false := by rw [okI, h]; rfl
theorem ok_f2 {s : ByteArray} {i : Nat} (h : goodT (outS s (i + 1)) = false) : okI s i = false := by rw [okI, h, Bool.and_false]
theorem ok_t {s : ByteArray} {i : Nat} (h : psOK (ln s i) = true) (h2 : goodT (outS s (i + 1)) = true) : okI s i = true := by rw [okI, h, h2]; rfl
theorem pss_good2 {s : ByteArray} {i : Nat} (h : ∀ j, j < i → okI s j = true) (hi : i + 1 = lnN s) (hl : (ln s i).toList = (⟨#[]⟩ : ByteArray).toList) : pssL s = outS s i ∧ pssN s = 0 ∧ pssK s = true := by
  have e : lnN s - 1 = i := by omega
  exact pss_good h hi (by rw [e]; exact hl)
theorem pss_last2 {s : ByteArray} {i : Nat} (h : ∀ j, j < i → okI s j = true) (hi : i + 1 = lnN s) (hl : ¬ (ln s i).toList = (⟨#[]⟩ : ByteArray).toList) : pssL s = [] ∧ pssN s = (i : Int) + 1 ∧ pssK s = false := by
  have e : lnN s - 1 = i := by omega
  have h1 := pss_last (by omega) h (by omega) (by rw [e]; exact hl)
  exact ⟨h1.1, by rw [h1.2.1]; omega, h1.2.2⟩
theorem pssL_len {s : ByteArray} (hs : s.size ≤ 1048576) : (pssL s).length ≤ 1048576 := by
  have h := splitL_len (s := s) (b := 10)
  unfold pssL
  split
  · rw [outS_len]
    have : lnN s = (splitL s 10).length := rfl
    omega
  · exact Nat.zero_le _
end Go.Proofs.YtehijimgenicfaaDoor

/- A valid setting's text parses back. -/
set_option linter.unusedVariables false
set_option linter.unusedSimpArgs false
namespace Go.Proofs.YtehijimgenicfaaDoor
open Go Go.Rf
theorem none_of {s : ByteArray} {b : Int} (h : ∀ j, j < s.size → byteN s j ≠ b) : standsB s b = false := by
  rw [standsB]
  exact anyN_f (i := s.size) (fun j hj => by simpa using h j hj) (Nat.le_refl _)
theorem num_none {n b : Int} (h0 : 0 ≤ n) (hb : b < 48) : standsB (numT n) b = false := by
  obtain ⟨m, rfl⟩ : ∃ m : Nat, n = (m : Int) := ⟨n.toNat, by omega⟩
  refine none_of (fun j hj => ?_)
  have := (num_digits m).2.1 j hj
  simp only [digN, Bool.and_eq_true, decide_eq_true_eq] at this
  omega
theorem kind_none {s : ByteArray} {b : Int} (h : kindB s = true) (hb : b < 97) : standsB s b = false := by
  refine none_of (fun j hj => ?_)
  simp only [kindB, wordB, Bool.and_eq_true] at h
  have := allN_iff.mp h.1 j hj
  simp only [lowN, Bool.and_eq_true, decide_eq_true_eq] at this
  omega
abbrev sp : ByteArray := ⟨#[32]⟩
theorem cut32 {a z : ByteArray} (h : standsB a 32 = false) : splitL (a ++ sp ++ z) 32 = a :: splitL z 32 := splitL_app (u := 32) h
def tailT (x : Setting) : ByteArray := if x.k then numT x.w ++ sp ++ ⟨#[116, 105, 109, 101, 114, 115]⟩ else numT x.w
theorem setT_words {x : Setting} : setT x = ⟨#[103, 117, 101, 115, 116]⟩ ++ sp ++ (numT x.g ++ sp ++ (x.n ++ sp ++ (⟨#[99, 112, 117, 115]⟩ ++ sp ++ (numT x.c ++ sp ++ (⟨#[102, 114, 97, 109, 101, 115]⟩ ++ sp ++ (numT x.f ++ sp ++ (⟨#[119, 101, 105, 103, 104, 116]⟩ ++ sp ++ tailT x))))))) := by
  apply ba_ext
  unfold setT setT0 tailT
  split <;> simp [app_list, sp]
theorem words {x : Setting} (h : isSet x = true) : splitL (setT x) 32 = [⟨#[103, 117, 101, 115, 116]⟩, numT x.g, x.n, ⟨#[99, 112, 117, 115]⟩, numT x.c, ⟨#[102, 114, 97, 109, 101, 115]⟩, numT x.f, ⟨#[119, 101, 105, 103, 104, 116]⟩, numT x.w] ++ (if x.k then [⟨#[116, 105, 109, 101, 114, 115]⟩] else []) := by
  have ho := isSet_ok h
  have hk : kindB x.n = true := by simp only [isSet, Bool.and_eq_true] at h; exact h.1.1.1.2
  rw [setT_words, cut32 (by rfl), cut32 (num_none (by omega) (by omega)), cut32 (kind_none hk (by omega)), cut32 (by rfl), cut32 (num_none (by omega) (by omega)), cut32 (by rfl), cut32 (num_none (by omega) (by omega)), cut32 (by rfl)]
  unfold tailT
  split
  · rw [cut32 (num_none (by omega) (by omega)), splitL_f (by rfl)]; rfl
  · rw [splitL_f (num_none (by omega) (by omega))]; rfl
theorem ps_back {x : Setting} (h : isSet x = true) : psX (setT x) = x ∧ psOK (setT x) = true := by
  have ho := isSet_ok h
  have hw := words h
  have e : psX (setT x) = x := by
    unfold psX wd wdN
    rw [hw]
    have n1 := (nm_num (n := x.g) (by omega) (by omega)).2
    have n2 := (nm_num (n := x.c) (by omega) (by omega)).2
    have n3 := (nm_num (n := x.f) (by omega) (by omega)).2
    have n4 := (nm_num (n := x.w) (by omega) (by omega)).2
    cases hx : x.k <;> simp [n1, n2, n3, n4] <;> rw [← hx]
  refine ⟨e, ?_⟩
  rw [psOK, e, h]
  have : wdN (setT x) = 9 ∨ wdN (setT x) = 10 := by
    unfold wdN
    rw [hw]
    cases x.k <;> simp
  simp [this]
end Go.Proofs.YtehijimgenicfaaDoor

/- The text of good settings parses back. -/
set_option linter.unusedVariables false
set_option linter.unusedSimpArgs false
namespace Go.Proofs.YtehijimgenicfaaDoor
open Go Go.Rf
abbrev nl : ByteArray := ⟨#[10]⟩
def catL : List ByteArray → ByteArray
  | [] => ⟨#[]⟩
  | t :: r => t ++ nl ++ catL r
theorem catL_app : ∀ {a b : List ByteArray}, catL (a ++ b) = catL a ++ catL b
  | [], b => by apply ba_ext; simp [catL, app_list]
  | t :: r, b => by
    have := catL_app (a := r) (b := b)
    simp only [List.cons_append, catL, this, ByteArray.append_assoc]
theorem split_catL : ∀ {l : List ByteArray}, (∀ t ∈ l, standsB t 10 = false) → splitL (catL l) 10 = l ++ [⟨#[]⟩]
  | [], _ => splitL_f (by rfl)
  | t :: r, h => by
    have h1 := splitL_app (u := 10) (z := catL r) (h t List.mem_cons_self)
    have h2 := split_catL (l := r) (fun y hy => h y (List.mem_cons_of_mem _ hy))
    show splitL (t ++ nl ++ catL r) 10 = _
    exact h1.trans (by rw [List.cons_append]; exact congrArg (t :: ·) h2)
theorem setsF_cat {xs : List Setting} : ∀ i, i ≤ xs.length → setsF xs i = catL ((xs.take i).map setT)
  | 0, _ => rfl
  | i + 1, hi => by
    have h1 : i < xs.length := by omega
    rw [setsF_succ, setsF_cat i (by omega), List.take_succ_eq_append_getElem h1, List.map_append, catL_app]
    have e : xs.getD i default = xs[i] := by simp [List.getD_eq_getElem?_getD, h1]
    rw [e, ByteArray.append_assoc]
    congr 1
    apply ba_ext
    simp [catL, app_list]
theorem none_app {a b : ByteArray} {c : Int} (h1 : standsB a c = false) (h2 : standsB b c = false) : standsB (a ++ b) c = false := by
  have f : ∀ {s : ByteArray}, standsB s c = false → ∀ j, j < s.size → byteN s j ≠ c := fun {s} h j hj e => by
    rw [standsB, anyN_t (f := fun i => byteN s i == c) (i := j) (by simpa using e) hj] at h
    cases h
  refine none_of (fun j hj => ?_)
  rw [ByteArray.size_append] at hj
  rw [byteN_app]
  split
  · exact f h1 j (by assumption)
  · exact f h2 _ (by omega)
theorem setT_none {x : Setting} (h : isSet x = true) : standsB (setT x) 10 = false := by
  have ho := isSet_ok h
  have hk : kindB x.n = true := by simp only [isSet, Bool.and_eq_true] at h; exact h.1.1.1.2
  have ht : standsB (tailT x) 10 = false := by
    unfold tailT
    split
    · exact none_app (none_app (num_none (by omega) (by omega)) (by rfl)) (by rfl)
    · exact num_none (by omega) (by omega)
  rw [setT_words]
  exact none_app (none_app (by rfl) (by rfl)) (none_app (none_app (num_none (by omega) (by omega)) (by rfl)) (none_app (none_app (kind_none hk (by omega)) (by rfl)) (none_app (none_app (by rfl) (by rfl)) (none_app (none_app (num_none (by omega) (by omega)) (by rfl)) (none_app (none_app (by rfl) (by rfl)) (none_app (none_app (num_none (by omega) (by omega)) (by rfl)) (none_app (none_app (by rfl) (by rfl)) ht)))))))
theorem sets_lines {xs : List Setting} (h : goodT xs = true) : splitL (setsT xs) 10 = xs.map setT ++ [⟨#[]⟩] := by
  rw [setsT, if_pos h, setsF_cat _ (Nat.le_refl _), List.take_length]
  refine split_catL (fun t ht => ?_)
  obtain ⟨x, hx, rfl⟩ := List.mem_map.1 ht
  obtain ⟨i, hi, rfl⟩ := List.getElem_of_mem hx
  have := goodT_set h i hi
  exact setT_none (by simpa [List.getD_eq_getElem?_getD, hi] using this)
theorem ln_at {xs : List Setting} (h : goodT xs = true) {i : Nat} (hi : i < xs.length) : ln (setsT xs) i = setT xs[i] ∧ isSet xs[i] = true := by
  have := goodT_set h i hi
  refine ⟨?_, by simpa [List.getD_eq_getElem?_getD, hi] using this⟩
  rw [ln, sets_lines h]
  simp [List.getD_eq_getElem?_getD, List.getElem?_append, hi]
theorem lnN_is {xs : List Setting} (h : goodT xs = true) : lnN (setsT xs) = xs.length + 1 := by
  rw [lnN, sets_lines h]
  simp
theorem out_is {xs : List Setting} (h : goodT xs = true) : ∀ i, i ≤ xs.length → outS (setsT xs) i = xs.take i
  | 0, _ => rfl
  | i + 1, hi => by
    have h1 : i < xs.length := by omega
    obtain ⟨e1, e2⟩ := ln_at h h1
    obtain ⟨g1, g2⟩ := ps_back e2
    rw [outS_succ, out_is h i (by omega), e1, (ps_t g2).1, g1, List.take_succ_eq_append_getElem h1]
theorem pss_back {xs : List Setting} (h : goodT xs = true) : pssL (setsT xs) = xs ∧ pssN (setsT xs) = 0 ∧ pssK (setsT xs) = true := by
  have hl := pss_good (s := setsT xs) (i := xs.length) (fun j hj => by
    obtain ⟨e1, e2⟩ := ln_at h hj
    refine ok_t (by rw [e1]; exact (ps_back e2).2) ?_
    rw [out_is h (j + 1) (by omega)]
    exact good_sub h (List.take_sublist _ _)) (lnN_is h).symm (by
    rw [lnN_is h, Nat.add_sub_cancel, ln, sets_lines h]
    simp [List.getD_eq_getElem?_getD, List.getElem?_append])
  refine ⟨?_, hl.2⟩
  rw [hl.1, out_is h _ (Nat.le_refl _), List.take_length]
theorem st_ok {x : Setting} (h : isSet x = true) : psOK (stT x) = true ∧ psE (stT x) = x := by
  rw [stT, if_pos h]
  obtain ⟨g1, g2⟩ := ps_back h
  exact ⟨g2, by rw [(ps_t g2).1, g1]⟩
theorem pss_eq {n : Nat} {xs : List Setting} (h : goodT xs = true) : Res.many [.fr n 6 ((pssL (setsT xs)).map encTc), .v (.int .i64 (pssN (setsT xs))), .v (.bool (pssK (setsT xs)))] = Res.many [.fr n 6 (xs.map encTc), .v (.int .i64 0), .v (.bool true)] := by
  obtain ⟨g1, g2, g3⟩ := pss_back h
  rw [g1, g2, g3]
end Go.Proofs.YtehijimgenicfaaDoor
