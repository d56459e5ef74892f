/- Texts merged into one: P9, P10, E2. -/
import Derived.Test.YtehijimgenicfaaDoorPFnExactParseSettingsB
import Derived.Test.YtehijimgenicfaaDoorRows
import Derived.LaidLaws
import Derived.Lib.LaidIn
import Derived.Stop.LaidErr
import Derived.HandedShaped
/- Walks through functions of the program, one contract each (written by gen.py). -/
set_option maxRecDepth 20000
set_option linter.unusedVariables false
set_option linter.unusedSimpArgs false
namespace Go.Proofs.YtehijimgenicfaaDoor
open Go Go.Rf

theorem c_laws_markText (k : Int) (hk : k ≤ 9223372036854775806) : Ctr Tryd.prog 40 [.v (.int .i64 k)] (.one (.v (.string (mtT k)))) := by
  refine Ctr.of (n := 20) G Tryd.func40 rfl (by kernel_rfl) rfl rfl rfl (fun w0 => ?_)
  refine W_seq (fun K1 hK1 => ?_)
  refine W_region (WL_cons rfl (WX_q rfl rfl (q_assign rfl rfl) (?_)))
  refine WL_nil (hK1 _ ?_)
  clear hK1 K1
  refine W_seq (fun K2 hK2 => ?_)
  refine W_seq (fun K3 hK3 => ?_)
  refine W_region (WL_cons rfl (WX_q rfl rfl (q_move rfl rfl) (WL_cons rfl (WX_q rfl rfl (q_cmp rfl rfl rfl rfl) (?_)))))
  refine WL_nil (hK3 _ ?_)
  clear hK3 K3
  refine W_cond rfl (fun h1 => ?_) (fun h1 => ?_)
  · try rw [h1]
    try simp only [decide_eq_true_eq, decide_eq_false_iff_not, beq_iff_eq, bne_iff_ne, ne_eq, Bool.not_eq_true', Bool.not_eq_false', beq_eq_false_iff_ne, bne_eq_false_iff_eq, Bool.not_eq_true, Bool.not_eq_false, Int.not_lt, Int.not_le, gt_iff_lt, ge_iff_le, Bool.and_eq_true, Bool.and_eq_false_iff, Bool.or_eq_true, Bool.or_eq_false_iff] at h1
    refine W_seq (fun K4 hK4 => ?_)
    refine W_region (WL_cons rfl (WX_q rfl rfl (q_assign rfl rfl) (?_)))
    refine WL_nil (hK4 _ ?_)
    clear hK4 K4
    refine W_ret (fin_one rfl (rc_v ?_))
    all_goals clear hK2 K2
    all_goals (first | (simp only [mtT]; rw [if_pos h1]; done) | (obtain ⟨hf0, f, hf1, hf2⟩ := hinv; have e : n = 0 := (by omega); subst e; rw [mtF_zero] at hf2; simp only [mtT]; rw [if_neg (by omega), hf2]; rfl))
  · try rw [h1]
    try simp only [decide_eq_true_eq, decide_eq_false_iff_not, beq_iff_eq, bne_iff_ne, ne_eq, Bool.not_eq_true', Bool.not_eq_false', beq_eq_false_iff_ne, bne_eq_false_iff_eq, Bool.not_eq_true, Bool.not_eq_false, Int.not_lt, Int.not_le, gt_iff_lt, ge_iff_le, Bool.and_eq_true, Bool.and_eq_false_iff, Bool.or_eq_true, Bool.or_eq_false_iff] at h1
    refine W_skip (hK2 _ ?_)
    clear hK2 K2
    refine W_seq (fun K5 hK5 => ?_)
    refine W_region (WL_cons rfl (WX_q rfl rfl (q_assign rfl rfl) (?_)))
    refine WL_nil (hK5 _ ?_)
    clear hK5 K5
    refine W_seq (fun K6 hK6 => ?_)
    refine W_block ?_
    obtain ⟨k0, rfl⟩ : ∃ k0 : Nat, k = (k0 : Int) := ⟨k.toNat, by omega⟩
    refine W_loopK [] [] (fun (⟨n, s⟩ : Nat × ByteArray) => [(0, .v (.int .i64 (n : Int))), (3, .v (.string s))]) (fun (⟨n, s⟩ : Nat × ByteArray) => []) (fun (⟨n, s⟩ : Nat × ByteArray) => (s.size : Int) + n ≤ k0 ∧ ∃ f, n ≤ f ∧ mtF f n s = mtF k0 k0 ⟨#[]⟩) (fun (⟨n, s⟩ : Nat × ByteArray) => n) (k0, ⟨#[]⟩) rfl rfl ?_ ?_ ?_ ?_
    · exact ⟨Int.le_of_eq (Int.zero_add _), k0, Nat.le_refl _, rfl⟩
    · exact ⟨⟨_, rfl, by rfl⟩, rfl, ⟨⟨_, rfl, by rfl⟩, rfl, trivial⟩⟩
    · exact trivial
    · intro ⟨n, s⟩ hinv
      have hi1 : (s.size : Int) + n ≤ k0 := hinv.1
      simp only [List.cons_append, List.nil_append]
      refine W_seq (fun K7 hK7 => ?_)
      refine W_seq (fun K8 hK8 => ?_)
      refine W_region (WL_cons rfl (WX_q rfl rfl (q_move rfl rfl) (WL_cons rfl (WX_q rfl rfl (q_cmp rfl rfl rfl rfl) (?_)))))
      refine WL_nil (hK8 _ ?_)
      clear hK8 K8
      refine W_cond rfl (fun h2 => ?_) (fun h2 => ?_)
      · try rw [h2]
        try simp only [decide_eq_true_eq, decide_eq_false_iff_not, beq_iff_eq, bne_iff_ne, ne_eq, Bool.not_eq_true', Bool.not_eq_false', beq_eq_false_iff_ne, bne_eq_false_iff_eq, Bool.not_eq_true, Bool.not_eq_false, Int.not_lt, Int.not_le, gt_iff_lt, ge_iff_le, Bool.and_eq_true, Bool.and_eq_false_iff, Bool.or_eq_true, Bool.or_eq_false_iff] at h2
        refine W_skip (hK7 _ ?_)
        clear hK7 K7
        refine W_block ?_
        refine W_seq (fun K9 hK9 => ?_)
        refine W_region (WL_cons rfl (WX_q rfl rfl (q_move rfl rfl) (WL_cons rfl (?_))))
        first | refine WX_q rfl rfl (q_rem_pos rfl rfl rfl (by omega) (by omega)) ?_ | refine WX_q rfl rfl (q_rem rfl rfl rfl (by omega)) ?_
        refine WL_cons rfl (?_)
        first | refine WX_q rfl rfl (q_arith rfl rfl rfl rfl (by omega) (by omega)) ?_ | refine WX_q rfl rfl (q_wrap rfl rfl rfl rfl) ?_
        refine WL_cons rfl (WX_q rfl rfl (q_conv G rfl rfl rfl rfl) (WL_cons rfl (WX_lit G 1 rfl rfl rfl rfl rfl rfl rfl rfl (WL_cons rfl (WX_q rfl rfl (q_b2s G rfl rfl rfl rfl rfl rfl rfl) (WL_cons rfl (WX_q rfl rfl (q_move rfl rfl) (WL_cons rfl (?_)))))))))
        refine WX_q rfl rfl (q_cat rfl rfl rfl (by first | (rw [strOfNums_size]; simp only [List.length_cons, List.length_nil]; omega) | (show 1 + s.size ≤ _; omega))) ?_
        refine WL_cons rfl (WX_q rfl rfl (q_assign rfl rfl) (?_))
        refine WL_nil (hK9 _ ?_)
        clear hK9 K9
        refine W_region (WL_cons rfl (WX_q rfl rfl (q_move rfl rfl) (WL_cons rfl (?_))))
        first | refine WX_q rfl rfl (q_quo_pos rfl rfl rfl (by omega) (by omega) (by omega)) ?_ | refine WX_q rfl rfl (q_quo rfl rfl rfl (by omega)) ?_
        refine WL_cons rfl (WX_q rfl rfl (q_assign rfl rfl) (?_))
        refine WL_nil ⟨(n / 10, digB (n : Int) ++ s), ?_, ?_, ⟨⟨_, rfl, by (first | rfl | exact congrArg (fun z => AV.v (Value.int IntKind.i64 z)) (by rw [Int.tdiv_eq_ediv_of_nonneg (by omega), wrap_in (by omega) (by omega)]; rfl))⟩, rfl, ⟨⟨_, rfl, by (first | rfl | exact congrArg (fun z => AV.v (Value.int IntKind.i64 z)) (by rw [Int.tdiv_eq_ediv_of_nonneg (by omega), wrap_in (by omega) (by omega)]; rfl))⟩, rfl, trivial⟩⟩, trivial, rfl, rfl, rfl⟩
        · (have hf := hinv.2; obtain ⟨f, hf1, hf2⟩ := hf; exact ⟨(by show ((digB (n : Int) ++ s).size : Int) + ((n / 10 : Nat) : Int) ≤ _; rw [ByteArray.size_append, digB_size]; omega), f - 1, (by show n / 10 ≤ f - 1; omega), (by rw [← hf2, mtF_step (by omega) hf1])⟩)
        · (show n / 10 < n; omega)
      · try rw [h2]
        try simp only [decide_eq_true_eq, decide_eq_false_iff_not, beq_iff_eq, bne_iff_ne, ne_eq, Bool.not_eq_true', Bool.not_eq_false', beq_eq_false_iff_ne, bne_eq_false_iff_eq, Bool.not_eq_true, Bool.not_eq_false, Int.not_lt, Int.not_le, gt_iff_lt, ge_iff_le, Bool.and_eq_true, Bool.and_eq_false_iff, Bool.or_eq_true, Bool.or_eq_false_iff] at h2
        refine W_exit (hK6 _ ?_)
        clear hK7 K7 hK6 K6
        refine W_seq (fun K10 hK10 => ?_)
        refine W_region (WL_cons rfl (WX_q rfl rfl (q_move rfl rfl) (WL_cons rfl (?_))))
        refine WX_q rfl rfl (q_cat rfl rfl rfl (by first | (rw [strOfNums_size]; simp only [List.length_cons, List.length_nil]; omega) | (show 1 + s.size ≤ _; omega))) ?_
        refine WL_cons rfl (WX_q rfl rfl (q_assign rfl rfl) (?_))
        refine WL_nil (hK10 _ ?_)
        clear hK10 K10
        refine W_ret (fin_one rfl (rc_v ?_))
        all_goals (first | (simp only [mtT]; rw [if_pos h1]; done) | (obtain ⟨hf0, f, hf1, hf2⟩ := hinv; have e : n = 0 := (by omega); subst e; rw [mtF_zero] at hf2; simp only [mtT]; rw [if_neg (by omega), hf2]; rfl))

theorem c_laws_markSettingS (xs : List Setting) (hn : xs.length ≤ 1048576) : CtrM Tryd.prog 22 [.own 0, .v (.int .i64 1)] [.row 27 6 (xs.map encTc)] (.one (.v (.int .i64 (1 + 6 * (xs.length : Int))))) [some (.row 27 6 ((over (mkT 1) xs xs.length).map encTc))] := by
  refine CtrM.of (n := 58) (k := 1) G Tryd.func22 rfl (by kernel_rfl) rfl rfl rfl rfl rfl rfl rfl (fun w0 _ hpin => ?_)
  refine W_seq (fun K1 hK1 => ?_)
  refine W_region (WL_cons rfl (WX_q rfl rfl (q_assign rfl rfl) (?_)))
  refine WL_nil (hK1 _ ?_)
  clear hK1 K1
  refine W_seq (fun K2 hK2 => ?_)
  refine W_seq (fun K3 hK3 => ?_)
  refine W_region (WL_cons rfl (WX_q rfl rfl (q_assign rfl rfl) (?_)))
  refine WL_nil (hK3 _ ?_)
  clear hK3 K3
  refine W_block ?_
  refine W_loopK [0] [] (fun (i : Nat) => [(1, .v (.int .i64 (1 + 6 * (i : Int)))), (5, .v (.int .i64 (i : Int)))]) (fun (i : Nat) => [(0, some (.row 27 6 ((over (mkT 1) xs i).map encTc)))]) (fun (i : Nat) => i ≤ xs.length) (fun (i : Nat) => xs.length - i) 0 rfl rfl ?_ ?_ ?_ ?_
  · exact Nat.zero_le _
  · exact ⟨⟨_, rfl, by rfl⟩, rfl, ⟨⟨_, rfl, by rfl⟩, rfl, trivial⟩⟩
  · exact ⟨⟨_, rfl, by exact congrArg (Row.row _ _) (by rw [over_zero])⟩, rfl, rfl, trivial⟩
  · intro i hinv
    have hi : i ≤ xs.length := hinv
    simp only [List.cons_append, List.nil_append]
    refine W_seq (fun K4 hK4 => ?_)
    refine W_seq (fun K5 hK5 => ?_)
    refine W_region (WL_cons rfl (WX_q rfl rfl (q_move rfl rfl) (WL_cons rfl (WX_q rfl rfl (q_move rfl rfl) (WL_cons rfl (?_))))))
    first | refine WX_q rfl rfl (q_len' G rfl rfl rfl rfl (by rw [List.length_map, over_len (by omega)])) ?_ | refine WX_q rfl rfl (q_len G rfl rfl rfl rfl) ?_
    refine WL_cons rfl (WX_q rfl rfl (q_cmp rfl rfl rfl rfl) (?_))
    refine WL_nil (hK5 _ ?_)
    clear hK5 K5
    refine W_cond rfl (fun h1 => ?_) (fun h1 => ?_)
    · try rw [h1]
      try simp only [decide_eq_true_eq, decide_eq_false_iff_not, beq_iff_eq, bne_iff_ne, ne_eq, Bool.not_eq_true', Bool.not_eq_false', beq_eq_false_iff_ne, bne_eq_false_iff_eq, Bool.not_eq_true, Bool.not_eq_false, Int.not_lt, Int.not_le, gt_iff_lt, ge_iff_le, Bool.and_eq_true, Bool.and_eq_false_iff, Bool.or_eq_true, Bool.or_eq_false_iff] at h1
      refine W_skip (hK4 _ ?_)
      clear hK4 K4
      refine W_seq (fun K6 hK6 => ?_)
      refine W_block ?_
      refine W_seq (fun K7 hK7 => ?_)
      refine W_region (WL_cons rfl (WX_q rfl rfl (q_move rfl rfl) (WL_cons rfl (WX_q rfl rfl (q_move rfl rfl) (WL_cons rfl (WX_q rfl rfl (q_move rfl rfl) (WL_cons rfl (?_))))))))
      first | refine WX_q rfl rfl (q_index_own G rfl rfl rfl rfl rfl (by omega) (by rw [List.length_map, over_len (by omega)]; omega)) ?_ | refine WX_q rfl rfl (q_index_own G rfl rfl rfl rfl rfl (by omega) (by rw [List.length_set, List.length_map, over_len (by omega)]; omega)) ?_ | refine WX_q rfl rfl (q_index_own G rfl rfl rfl rfl rfl (by omega) (by simp only [List.length_set, List.length_map]; rw [over_len (by omega)]; omega)) ?_
      refine WL_cons rfl (WX_q rfl rfl (q_field_rpt G rfl rfl rfl rfl) (WL_cons rfl (?_)))
      first | refine WX_store_row G rfl rfl rfl rfl rfl (over_get (by omega)) rfl rfl rfl rfl rfl (Nat.le_of_ble_eq_true rfl) rfl ?_ | refine WX_store_row G rfl rfl rfl rfl rfl (set_get (by rw [List.length_map, over_len (by omega)]; omega)) rfl rfl rfl rfl rfl (Nat.le_of_ble_eq_true rfl) rfl ?_ | refine WX_store_row G rfl rfl rfl rfl rfl (set_get (by simp only [List.length_set, List.length_map]; rw [over_len (by omega)]; omega)) rfl rfl rfl rfl rfl (Nat.le_of_ble_eq_true rfl) rfl ?_
      refine WL_nil (hK7 _ ?_)
      clear hK7 K7
      refine W_seq (fun K8 hK8 => ?_)
      refine W_region (WL_cons rfl (WX_q rfl rfl (q_move rfl rfl) (WL_cons rfl (?_))))
      first | refine WX_q rfl rfl (q_arith rfl rfl rfl rfl (by omega) (by omega)) ?_ | refine WX_q rfl rfl (q_wrap rfl rfl rfl rfl) ?_
      refine WL_cons rfl (WX_q rfl rfl (q_assign rfl rfl) (?_))
      refine WL_nil (hK8 _ ?_)
      clear hK8 K8
      refine W_seq (fun K9 hK9 => ?_)
      refine W_region (WL_cons rfl (WX_q rfl rfl (q_move rfl rfl) (WL_cons rfl (WX_q rfl rfl (q_move rfl rfl) (WL_cons rfl (WX_q rfl rfl (q_move rfl rfl) (WL_cons rfl (?_))))))))
      refine WX_q rfl rfl (q_call rfl (ArgsOK.of rfl) (c_laws_markText _ (by omega)) rfl) ?_
      refine WL_cons rfl (?_)
      first | refine WX_q rfl rfl (q_index_own G rfl rfl rfl rfl rfl (by omega) (by rw [List.length_map, over_len (by omega)]; omega)) ?_ | refine WX_q rfl rfl (q_index_own G rfl rfl rfl rfl rfl (by omega) (by rw [List.length_set, List.length_map, over_len (by omega)]; omega)) ?_ | refine WX_q rfl rfl (q_index_own G rfl rfl rfl rfl rfl (by omega) (by simp only [List.length_set, List.length_map]; rw [over_len (by omega)]; omega)) ?_
      refine WL_cons rfl (WX_q rfl rfl (q_field_rpt G rfl rfl rfl rfl) (WL_cons rfl (?_)))
      first | refine WX_store_row G rfl rfl rfl rfl rfl (over_get (by omega)) rfl rfl rfl rfl rfl (Nat.le_of_ble_eq_true rfl) rfl ?_ | refine WX_store_row G rfl rfl rfl rfl rfl (set_get (by rw [List.length_map, over_len (by omega)]; omega)) rfl rfl rfl rfl rfl (Nat.le_of_ble_eq_true rfl) rfl ?_ | refine WX_store_row G rfl rfl rfl rfl rfl (set_get (by simp only [List.length_set, List.length_map]; rw [over_len (by omega)]; omega)) rfl rfl rfl rfl rfl (Nat.le_of_ble_eq_true rfl) rfl ?_
      refine WL_nil (hK9 _ ?_)
      clear hK9 K9
      refine W_seq (fun K10 hK10 => ?_)
      refine W_region (WL_cons rfl (WX_q rfl rfl (q_move rfl rfl) (WL_cons rfl (?_))))
      first | refine WX_q rfl rfl (q_arith rfl rfl rfl rfl (by omega) (by omega)) ?_ | refine WX_q rfl rfl (q_wrap rfl rfl rfl rfl) ?_
      refine WL_cons rfl (WX_q rfl rfl (q_assign rfl rfl) (?_))
      refine WL_nil (hK10 _ ?_)
      clear hK10 K10
      refine W_seq (fun K11 hK11 => ?_)
      refine W_region (WL_cons rfl (WX_q rfl rfl (q_move rfl rfl) (WL_cons rfl (WX_q rfl rfl (q_move rfl rfl) (WL_cons rfl (WX_q rfl rfl (q_move rfl rfl) (WL_cons rfl (?_))))))))
      first | refine WX_q rfl rfl (q_index_own G rfl rfl rfl rfl rfl (by omega) (by rw [List.length_map, over_len (by omega)]; omega)) ?_ | refine WX_q rfl rfl (q_index_own G rfl rfl rfl rfl rfl (by omega) (by rw [List.length_set, List.length_map, over_len (by omega)]; omega)) ?_ | refine WX_q rfl rfl (q_index_own G rfl rfl rfl rfl rfl (by omega) (by simp only [List.length_set, List.length_map]; rw [over_len (by omega)]; omega)) ?_
      refine WL_cons rfl (WX_q rfl rfl (q_field_rpt G rfl rfl rfl rfl) (WL_cons rfl (?_)))
      first | refine WX_store_row G rfl rfl rfl rfl rfl (over_get (by omega)) rfl rfl rfl rfl rfl (Nat.le_of_ble_eq_true rfl) rfl ?_ | refine WX_store_row G rfl rfl rfl rfl rfl (set_get (by rw [List.length_map, over_len (by omega)]; omega)) rfl rfl rfl rfl rfl (Nat.le_of_ble_eq_true rfl) rfl ?_ | refine WX_store_row G rfl rfl rfl rfl rfl (set_get (by simp only [List.length_set, List.length_map]; rw [over_len (by omega)]; omega)) rfl rfl rfl rfl rfl (Nat.le_of_ble_eq_true rfl) rfl ?_
      refine WL_nil (hK11 _ ?_)
      clear hK11 K11
      refine W_seq (fun K12 hK12 => ?_)
      refine W_region (WL_cons rfl (WX_q rfl rfl (q_move rfl rfl) (WL_cons rfl (?_))))
      first | refine WX_q rfl rfl (q_arith rfl rfl rfl rfl (by omega) (by omega)) ?_ | refine WX_q rfl rfl (q_wrap rfl rfl rfl rfl) ?_
      refine WL_cons rfl (WX_q rfl rfl (q_assign rfl rfl) (?_))
      refine WL_nil (hK12 _ ?_)
      clear hK12 K12
      refine W_seq (fun K13 hK13 => ?_)
      refine W_region (WL_cons rfl (WX_q rfl rfl (q_move rfl rfl) (WL_cons rfl (WX_q rfl rfl (q_move rfl rfl) (WL_cons rfl (WX_q rfl rfl (q_move rfl rfl) (WL_cons rfl (?_))))))))
      first | refine WX_q rfl rfl (q_index_own G rfl rfl rfl rfl rfl (by omega) (by rw [List.length_map, over_len (by omega)]; omega)) ?_ | refine WX_q rfl rfl (q_index_own G rfl rfl rfl rfl rfl (by omega) (by rw [List.length_set, List.length_map, over_len (by omega)]; omega)) ?_ | refine WX_q rfl rfl (q_index_own G rfl rfl rfl rfl rfl (by omega) (by simp only [List.length_set, List.length_map]; rw [over_len (by omega)]; omega)) ?_
      refine WL_cons rfl (WX_q rfl rfl (q_field_rpt G rfl rfl rfl rfl) (WL_cons rfl (?_)))
      first | refine WX_store_row G rfl rfl rfl rfl rfl (over_get (by omega)) rfl rfl rfl rfl rfl (Nat.le_of_ble_eq_true rfl) rfl ?_ | refine WX_store_row G rfl rfl rfl rfl rfl (set_get (by rw [List.length_map, over_len (by omega)]; omega)) rfl rfl rfl rfl rfl (Nat.le_of_ble_eq_true rfl) rfl ?_ | refine WX_store_row G rfl rfl rfl rfl rfl (set_get (by simp only [List.length_set, List.length_map]; rw [over_len (by omega)]; omega)) rfl rfl rfl rfl rfl (Nat.le_of_ble_eq_true rfl) rfl ?_
      refine WL_nil (hK13 _ ?_)
      clear hK13 K13
      refine W_seq (fun K14 hK14 => ?_)
      refine W_region (WL_cons rfl (WX_q rfl rfl (q_move rfl rfl) (WL_cons rfl (?_))))
      first | refine WX_q rfl rfl (q_arith rfl rfl rfl rfl (by omega) (by omega)) ?_ | refine WX_q rfl rfl (q_wrap rfl rfl rfl rfl) ?_
      refine WL_cons rfl (WX_q rfl rfl (q_assign rfl rfl) (?_))
      refine WL_nil (hK14 _ ?_)
      clear hK14 K14
      refine W_seq (fun K15 hK15 => ?_)
      refine W_region (WL_cons rfl (WX_q rfl rfl (q_move rfl rfl) (WL_cons rfl (WX_q rfl rfl (q_move rfl rfl) (WL_cons rfl (WX_q rfl rfl (q_move rfl rfl) (WL_cons rfl (?_))))))))
      first | refine WX_q rfl rfl (q_index_own G rfl rfl rfl rfl rfl (by omega) (by rw [List.length_map, over_len (by omega)]; omega)) ?_ | refine WX_q rfl rfl (q_index_own G rfl rfl rfl rfl rfl (by omega) (by rw [List.length_set, List.length_map, over_len (by omega)]; omega)) ?_ | refine WX_q rfl rfl (q_index_own G rfl rfl rfl rfl rfl (by omega) (by simp only [List.length_set, List.length_map]; rw [over_len (by omega)]; omega)) ?_
      refine WL_cons rfl (WX_q rfl rfl (q_field_rpt G rfl rfl rfl rfl) (WL_cons rfl (?_)))
      first | refine WX_store_row G rfl rfl rfl rfl rfl (over_get (by omega)) rfl rfl rfl rfl rfl (Nat.le_of_ble_eq_true rfl) rfl ?_ | refine WX_store_row G rfl rfl rfl rfl rfl (set_get (by rw [List.length_map, over_len (by omega)]; omega)) rfl rfl rfl rfl rfl (Nat.le_of_ble_eq_true rfl) rfl ?_ | refine WX_store_row G rfl rfl rfl rfl rfl (set_get (by simp only [List.length_set, List.length_map]; rw [over_len (by omega)]; omega)) rfl rfl rfl rfl rfl (Nat.le_of_ble_eq_true rfl) rfl ?_
      refine WL_nil (hK15 _ ?_)
      clear hK15 K15
      refine W_seq (fun K16 hK16 => ?_)
      refine W_region (WL_cons rfl (WX_q rfl rfl (q_move rfl rfl) (WL_cons rfl (?_))))
      first | refine WX_q rfl rfl (q_arith rfl rfl rfl rfl (by omega) (by omega)) ?_ | refine WX_q rfl rfl (q_wrap rfl rfl rfl rfl) ?_
      refine WL_cons rfl (WX_q rfl rfl (q_assign rfl rfl) (?_))
      refine WL_nil (hK16 _ ?_)
      clear hK16 K16
      refine W_seq (fun K17 hK17 => ?_)
      refine W_region (WL_cons rfl (WX_q rfl rfl (q_move rfl rfl) (WL_cons rfl (WX_q rfl rfl (q_move rfl rfl) (WL_cons rfl (WX_q rfl rfl (q_move rfl rfl) (WL_cons rfl (?_))))))))
      first | refine WX_q rfl rfl (q_rem_pos rfl rfl rfl (by omega) (by omega)) ?_ | refine WX_q rfl rfl (q_rem rfl rfl rfl (by omega)) ?_
      refine WL_cons rfl (WX_q rfl rfl (q_cmp rfl rfl rfl rfl) (WL_cons rfl (?_)))
      first | refine WX_q rfl rfl (q_index_own G rfl rfl rfl rfl rfl (by omega) (by rw [List.length_map, over_len (by omega)]; omega)) ?_ | refine WX_q rfl rfl (q_index_own G rfl rfl rfl rfl rfl (by omega) (by rw [List.length_set, List.length_map, over_len (by omega)]; omega)) ?_ | refine WX_q rfl rfl (q_index_own G rfl rfl rfl rfl rfl (by omega) (by simp only [List.length_set, List.length_map]; rw [over_len (by omega)]; omega)) ?_
      refine WL_cons rfl (WX_q rfl rfl (q_field_rpt G rfl rfl rfl rfl) (WL_cons rfl (?_)))
      first | refine WX_store_row G rfl rfl rfl rfl rfl (over_get (by omega)) rfl rfl rfl rfl rfl (Nat.le_of_ble_eq_true rfl) rfl ?_ | refine WX_store_row G rfl rfl rfl rfl rfl (set_get (by rw [List.length_map, over_len (by omega)]; omega)) rfl rfl rfl rfl rfl (Nat.le_of_ble_eq_true rfl) rfl ?_ | refine WX_store_row G rfl rfl rfl rfl rfl (set_get (by simp only [List.length_set, List.length_map]; rw [over_len (by omega)]; omega)) rfl rfl rfl rfl rfl (Nat.le_of_ble_eq_true rfl) rfl ?_
      refine WL_nil (hK17 _ ?_)
      clear hK17 K17
      refine W_region (WL_cons rfl (WX_q rfl rfl (q_move rfl rfl) (WL_cons rfl (?_))))
      first | refine WX_q rfl rfl (q_arith rfl rfl rfl rfl (by omega) (by omega)) ?_ | refine WX_q rfl rfl (q_wrap rfl rfl rfl rfl) ?_
      refine WL_cons rfl (WX_q rfl rfl (q_assign rfl rfl) (?_))
      refine WL_nil (hK6 _ ?_)
      clear hK6 K6
      refine W_region (WL_cons rfl (WX_q rfl rfl (q_move rfl rfl) (WL_cons rfl (?_))))
      first | refine WX_q rfl rfl (q_arith rfl rfl rfl rfl (by omega) (by omega)) ?_ | refine WX_q rfl rfl (q_wrap rfl rfl rfl rfl) ?_
      refine WL_cons rfl (WX_q rfl rfl (q_assign rfl rfl) (?_))
      refine WL_nil ⟨(i + 1), ?_, ?_, ⟨⟨_, rfl, by (first | rfl | (congr 2; omega))⟩, rfl, ⟨⟨_, rfl, by (first | rfl | (congr 2; omega))⟩, rfl, trivial⟩⟩, ⟨⟨_, rfl, by exact congrArg (Row.row _ _) (by (try simp only [List.set_set]); exact over_set (g := mkT 1) (f := encTc) (by omega))⟩, rfl, rfl, trivial⟩, rfl, rfl, rfl⟩
      · omega
      · omega
    · try rw [h1]
      try simp only [decide_eq_true_eq, decide_eq_false_iff_not, beq_iff_eq, bne_iff_ne, ne_eq, Bool.not_eq_true', Bool.not_eq_false', beq_eq_false_iff_ne, bne_eq_false_iff_eq, Bool.not_eq_true, Bool.not_eq_false, Int.not_lt, Int.not_le, gt_iff_lt, ge_iff_le, Bool.and_eq_true, Bool.and_eq_false_iff, Bool.or_eq_true, Bool.or_eq_false_iff] at h1
      refine W_exit (hK2 _ ?_)
      clear hK4 K4 hK2 K2
      refine W_seq (fun K18 hK18 => ?_)
      refine W_region (WL_cons rfl (WX_q rfl rfl (q_move rfl rfl) (WL_cons rfl (WX_q rfl rfl (q_assign rfl rfl) (?_)))))
      refine WL_nil (hK18 _ ?_)
      clear hK18 K18
      refine W_ret (finm_one rfl (rc_v ?_) rfl (AftOK.stays rfl ?_ rfl AftOK.nil))
      all_goals (
        have e : i = xs.length := (by omega)
        subst e
        first | rfl | (congr 1; omega)
      )

theorem c_laws_heldSettingS (xs : List Setting) (hn : xs.length ≤ 1048576) : Ctr Tryd.prog 23 [.lst 6 ((over (mkT 1) xs xs.length).map encTc), .v (.int .i64 1)] (.one (.v (.int .i64 (1 + 6 * (xs.length : Int))))) := by
  refine Ctr.of (n := 70) G Tryd.func23 rfl (by kernel_rfl) rfl rfl rfl (fun w0 => ?_)
  refine W_seq (fun K1 hK1 => ?_)
  refine W_region (WL_cons rfl (WX_q rfl rfl (q_assign rfl rfl) (?_)))
  refine WL_nil (hK1 _ ?_)
  clear hK1 K1
  refine W_seq (fun K2 hK2 => ?_)
  refine W_seq (fun K3 hK3 => ?_)
  refine W_region (WL_cons rfl (WX_q rfl rfl (q_assign rfl rfl) (?_)))
  refine WL_nil (hK3 _ ?_)
  clear hK3 K3
  refine W_block ?_
  refine W_loopK [0] [] (fun (i : Nat) => [(1, .v (.int .i64 (1 + 6 * (i : Int)))), (5, .v (.int .i64 (i : Int)))]) (fun (i : Nat) => []) (fun (i : Nat) => i ≤ xs.length) (fun (i : Nat) => xs.length - i) 0 rfl rfl ?_ ?_ ?_ ?_
  · exact Nat.zero_le _
  · exact ⟨⟨_, rfl, by rfl⟩, rfl, ⟨⟨_, rfl, by rfl⟩, rfl, trivial⟩⟩
  · exact trivial
  · intro i hinv
    have hi : i ≤ xs.length := hinv
    simp only [List.cons_append, List.nil_append]
    refine W_seq (fun K4 hK4 => ?_)
    refine W_seq (fun K5 hK5 => ?_)
    refine W_region (WL_cons rfl (WX_q rfl rfl (q_move rfl rfl) (WL_cons rfl (WX_q rfl rfl (q_move rfl rfl) (WL_cons rfl (?_))))))
    first | refine WX_q rfl rfl (q_len' G rfl rfl rfl rfl (by rw [List.length_map, over_lenF])) ?_ | refine WX_q rfl rfl (q_len G rfl rfl rfl rfl) ?_
    refine WL_cons rfl (WX_q rfl rfl (q_cmp rfl rfl rfl rfl) (?_))
    refine WL_nil (hK5 _ ?_)
    clear hK5 K5
    refine W_cond rfl (fun h1 => ?_) (fun h1 => ?_)
    · try rw [h1]
      try simp only [decide_eq_true_eq, decide_eq_false_iff_not, beq_iff_eq, bne_iff_ne, ne_eq, Bool.not_eq_true', Bool.not_eq_false', beq_eq_false_iff_ne, bne_eq_false_iff_eq, Bool.not_eq_true, Bool.not_eq_false, Int.not_lt, Int.not_le, gt_iff_lt, ge_iff_le, Bool.and_eq_true, Bool.and_eq_false_iff, Bool.or_eq_true, Bool.or_eq_false_iff] at h1
      refine W_skip (hK4 _ ?_)
      clear hK4 K4
      refine W_seq (fun K6 hK6 => ?_)
      refine W_block ?_
      refine W_seq (fun K7 hK7 => ?_)
      refine W_seq (fun K8 hK8 => ?_)
      refine W_region (WL_cons rfl (WX_q rfl rfl (q_move rfl rfl) (WL_cons rfl (WX_q rfl rfl (q_move rfl rfl) (WL_cons rfl (?_))))))
      refine WX_q rfl rfl (q_index_lst G rfl rfl rfl rfl (by omega) (over_full (by omega))) ?_
      refine WL_cons rfl (WX_q rfl rfl (q_field_ept G rfl rfl rfl rfl) (WL_cons rfl (WX_q rfl rfl (q_load_ept G rfl rfl rfl rfl rfl) (WL_cons rfl (WX_q rfl rfl (q_move rfl rfl) (WL_cons rfl (WX_q rfl rfl (q_cmp rfl rfl rfl rfl) (?_))))))))
      refine WL_nil (hK8 _ ?_)
      clear hK8 K8
      refine W_cond rfl (fun h2 => ?_) (fun h2 => ?_)
      · try rw [h2]
        try simp only [decide_eq_true_eq, decide_eq_false_iff_not, beq_iff_eq, bne_iff_ne, ne_eq, Bool.not_eq_true', Bool.not_eq_false', beq_eq_false_iff_ne, bne_eq_false_iff_eq, Bool.not_eq_true, Bool.not_eq_false, Int.not_lt, Int.not_le, gt_iff_lt, ge_iff_le, Bool.and_eq_true, Bool.and_eq_false_iff, Bool.or_eq_true, Bool.or_eq_false_iff] at h2
        refine W_seq (fun K9 hK9 => ?_)
        refine W_region (WL_cons rfl (WX_q rfl rfl (q_assign rfl rfl) (?_)))
        refine WL_nil (hK9 _ ?_)
        clear hK9 K9
        refine W_ret (fin_one rfl (rc_v ?_))
        all_goals clear hK7 K7 hK6 K6 hK2 K2
        all_goals (first | (have e : i = xs.length := (by omega); subst e; rfl) | (exfalso; omega) | (exfalso; simp_all [mkT, mkI, mkO]; done))
      · try rw [h2]
        try simp only [decide_eq_true_eq, decide_eq_false_iff_not, beq_iff_eq, bne_iff_ne, ne_eq, Bool.not_eq_true', Bool.not_eq_false', beq_eq_false_iff_ne, bne_eq_false_iff_eq, Bool.not_eq_true, Bool.not_eq_false, Int.not_lt, Int.not_le, gt_iff_lt, ge_iff_le, Bool.and_eq_true, Bool.and_eq_false_iff, Bool.or_eq_true, Bool.or_eq_false_iff] at h2
        refine W_skip (hK7 _ ?_)
        clear hK7 K7
        refine W_seq (fun K10 hK10 => ?_)
        refine W_region (WL_cons rfl (WX_q rfl rfl (q_move rfl rfl) (WL_cons rfl (?_))))
        first | refine WX_q rfl rfl (q_arith rfl rfl rfl rfl (by omega) (by omega)) ?_ | refine WX_q rfl rfl (q_wrap rfl rfl rfl rfl) ?_
        refine WL_cons rfl (WX_q rfl rfl (q_assign rfl rfl) (?_))
        refine WL_nil (hK10 _ ?_)
        clear hK10 K10
        refine W_seq (fun K11 hK11 => ?_)
        refine W_seq (fun K12 hK12 => ?_)
        refine W_draws mixed (by kernel_rfl) (QL_cons rfl (QX_q rfl rfl (q_move rfl rfl) (QL_cons rfl (QX_q rfl rfl (q_move rfl rfl) (QL_cons rfl (?_))))))
        refine QX_q rfl rfl (q_index_lst G rfl rfl rfl rfl (by omega) (over_full (by omega))) ?_
        refine QL_cons rfl (QX_q rfl rfl (q_field_ept G rfl rfl rfl rfl) (QL_cons rfl (QX_q rfl rfl (q_load_ept G rfl rfl rfl rfl rfl) (QL_cons rfl (QX_q rfl rfl (q_move rfl rfl) (QL_cons rfl (?_)))))))
        refine QX_q rfl rfl (q_call rfl (ArgsOK.of rfl) (c_laws_markText _ (by omega)) rfl) ?_
        refine QL_cons rfl (QX_q rfl rfl (q_cmp_str rfl rfl rfl rfl) (?_))
        refine QL_nil (hK12 _ ?_)
        clear hK12 K12
        refine W_cond rfl (fun h3 => ?_) (fun h3 => ?_)
        · try rw [h3]
          try simp only [decide_eq_true_eq, decide_eq_false_iff_not, beq_iff_eq, bne_iff_ne, ne_eq, Bool.not_eq_true', Bool.not_eq_false', beq_eq_false_iff_ne, bne_eq_false_iff_eq, Bool.not_eq_true, Bool.not_eq_false, Int.not_lt, Int.not_le, gt_iff_lt, ge_iff_le, Bool.and_eq_true, Bool.and_eq_false_iff, Bool.or_eq_true, Bool.or_eq_false_iff] at h3
          refine W_seq (fun K13 hK13 => ?_)
          refine W_region (WL_cons rfl (WX_q rfl rfl (q_assign rfl rfl) (?_)))
          refine WL_nil (hK13 _ ?_)
          clear hK13 K13
          refine W_ret (fin_one rfl (rc_v ?_))
          all_goals clear hK11 K11 hK6 K6 hK2 K2
          all_goals (first | (have e : i = xs.length := (by omega); subst e; rfl) | (exfalso; omega) | (exfalso; simp_all [mkT, mkI, mkO]; done))
        · try rw [h3]
          try simp only [decide_eq_true_eq, decide_eq_false_iff_not, beq_iff_eq, bne_iff_ne, ne_eq, Bool.not_eq_true', Bool.not_eq_false', beq_eq_false_iff_ne, bne_eq_false_iff_eq, Bool.not_eq_true, Bool.not_eq_false, Int.not_lt, Int.not_le, gt_iff_lt, ge_iff_le, Bool.and_eq_true, Bool.and_eq_false_iff, Bool.or_eq_true, Bool.or_eq_false_iff] at h3
          refine W_skip (hK11 _ ?_)
          clear hK11 K11
          refine W_seq (fun K14 hK14 => ?_)
          refine W_region (WL_cons rfl (WX_q rfl rfl (q_move rfl rfl) (WL_cons rfl (?_))))
          first | refine WX_q rfl rfl (q_arith rfl rfl rfl rfl (by omega) (by omega)) ?_ | refine WX_q rfl rfl (q_wrap rfl rfl rfl rfl) ?_
          refine WL_cons rfl (WX_q rfl rfl (q_assign rfl rfl) (?_))
          refine WL_nil (hK14 _ ?_)
          clear hK14 K14
          refine W_seq (fun K15 hK15 => ?_)
          refine W_seq (fun K16 hK16 => ?_)
          refine W_region (WL_cons rfl (WX_q rfl rfl (q_move rfl rfl) (WL_cons rfl (WX_q rfl rfl (q_move rfl rfl) (WL_cons rfl (?_))))))
          refine WX_q rfl rfl (q_index_lst G rfl rfl rfl rfl (by omega) (over_full (by omega))) ?_
          refine WL_cons rfl (WX_q rfl rfl (q_field_ept G rfl rfl rfl rfl) (WL_cons rfl (WX_q rfl rfl (q_load_ept G rfl rfl rfl rfl rfl) (WL_cons rfl (WX_q rfl rfl (q_move rfl rfl) (WL_cons rfl (WX_q rfl rfl (q_cmp rfl rfl rfl rfl) (?_))))))))
          refine WL_nil (hK16 _ ?_)
          clear hK16 K16
          refine W_cond rfl (fun h4 => ?_) (fun h4 => ?_)
          · try rw [h4]
            try simp only [decide_eq_true_eq, decide_eq_false_iff_not, beq_iff_eq, bne_iff_ne, ne_eq, Bool.not_eq_true', Bool.not_eq_false', beq_eq_false_iff_ne, bne_eq_false_iff_eq, Bool.not_eq_true, Bool.not_eq_false, Int.not_lt, Int.not_le, gt_iff_lt, ge_iff_le, Bool.and_eq_true, Bool.and_eq_false_iff, Bool.or_eq_true, Bool.or_eq_false_iff] at h4
            refine W_seq (fun K17 hK17 => ?_)
            refine W_region (WL_cons rfl (WX_q rfl rfl (q_assign rfl rfl) (?_)))
            refine WL_nil (hK17 _ ?_)
            clear hK17 K17
            refine W_ret (fin_one rfl (rc_v ?_))
            all_goals clear hK15 K15 hK6 K6 hK2 K2
            all_goals (first | (have e : i = xs.length := (by omega); subst e; rfl) | (exfalso; omega) | (exfalso; simp_all [mkT, mkI, mkO]; done))
          · try rw [h4]
            try simp only [decide_eq_true_eq, decide_eq_false_iff_not, beq_iff_eq, bne_iff_ne, ne_eq, Bool.not_eq_true', Bool.not_eq_false', beq_eq_false_iff_ne, bne_eq_false_iff_eq, Bool.not_eq_true, Bool.not_eq_false, Int.not_lt, Int.not_le, gt_iff_lt, ge_iff_le, Bool.and_eq_true, Bool.and_eq_false_iff, Bool.or_eq_true, Bool.or_eq_false_iff] at h4
            refine W_skip (hK15 _ ?_)
            clear hK15 K15
            refine W_seq (fun K18 hK18 => ?_)
            refine W_region (WL_cons rfl (WX_q rfl rfl (q_move rfl rfl) (WL_cons rfl (?_))))
            first | refine WX_q rfl rfl (q_arith rfl rfl rfl rfl (by omega) (by omega)) ?_ | refine WX_q rfl rfl (q_wrap rfl rfl rfl rfl) ?_
            refine WL_cons rfl (WX_q rfl rfl (q_assign rfl rfl) (?_))
            refine WL_nil (hK18 _ ?_)
            clear hK18 K18
            refine W_seq (fun K19 hK19 => ?_)
            refine W_seq (fun K20 hK20 => ?_)
            refine W_region (WL_cons rfl (WX_q rfl rfl (q_move rfl rfl) (WL_cons rfl (WX_q rfl rfl (q_move rfl rfl) (WL_cons rfl (?_))))))
            refine WX_q rfl rfl (q_index_lst G rfl rfl rfl rfl (by omega) (over_full (by omega))) ?_
            refine WL_cons rfl (WX_q rfl rfl (q_field_ept G rfl rfl rfl rfl) (WL_cons rfl (WX_q rfl rfl (q_load_ept G rfl rfl rfl rfl rfl) (WL_cons rfl (WX_q rfl rfl (q_move rfl rfl) (WL_cons rfl (WX_q rfl rfl (q_cmp rfl rfl rfl rfl) (?_))))))))
            refine WL_nil (hK20 _ ?_)
            clear hK20 K20
            refine W_cond rfl (fun h5 => ?_) (fun h5 => ?_)
            · try rw [h5]
              try simp only [decide_eq_true_eq, decide_eq_false_iff_not, beq_iff_eq, bne_iff_ne, ne_eq, Bool.not_eq_true', Bool.not_eq_false', beq_eq_false_iff_ne, bne_eq_false_iff_eq, Bool.not_eq_true, Bool.not_eq_false, Int.not_lt, Int.not_le, gt_iff_lt, ge_iff_le, Bool.and_eq_true, Bool.and_eq_false_iff, Bool.or_eq_true, Bool.or_eq_false_iff] at h5
              refine W_seq (fun K21 hK21 => ?_)
              refine W_region (WL_cons rfl (WX_q rfl rfl (q_assign rfl rfl) (?_)))
              refine WL_nil (hK21 _ ?_)
              clear hK21 K21
              refine W_ret (fin_one rfl (rc_v ?_))
              all_goals clear hK19 K19 hK6 K6 hK2 K2
              all_goals (first | (have e : i = xs.length := (by omega); subst e; rfl) | (exfalso; omega) | (exfalso; simp_all [mkT, mkI, mkO]; done))
            · try rw [h5]
              try simp only [decide_eq_true_eq, decide_eq_false_iff_not, beq_iff_eq, bne_iff_ne, ne_eq, Bool.not_eq_true', Bool.not_eq_false', beq_eq_false_iff_ne, bne_eq_false_iff_eq, Bool.not_eq_true, Bool.not_eq_false, Int.not_lt, Int.not_le, gt_iff_lt, ge_iff_le, Bool.and_eq_true, Bool.and_eq_false_iff, Bool.or_eq_true, Bool.or_eq_false_iff] at h5
              refine W_skip (hK19 _ ?_)
              clear hK19 K19
              refine W_seq (fun K22 hK22 => ?_)
              refine W_region (WL_cons rfl (WX_q rfl rfl (q_move rfl rfl) (WL_cons rfl (?_))))
              first | refine WX_q rfl rfl (q_arith rfl rfl rfl rfl (by omega) (by omega)) ?_ | refine WX_q rfl rfl (q_wrap rfl rfl rfl rfl) ?_
              refine WL_cons rfl (WX_q rfl rfl (q_assign rfl rfl) (?_))
              refine WL_nil (hK22 _ ?_)
              clear hK22 K22
              refine W_seq (fun K23 hK23 => ?_)
              refine W_seq (fun K24 hK24 => ?_)
              refine W_region (WL_cons rfl (WX_q rfl rfl (q_move rfl rfl) (WL_cons rfl (WX_q rfl rfl (q_move rfl rfl) (WL_cons rfl (?_))))))
              refine WX_q rfl rfl (q_index_lst G rfl rfl rfl rfl (by omega) (over_full (by omega))) ?_
              refine WL_cons rfl (WX_q rfl rfl (q_field_ept G rfl rfl rfl rfl) (WL_cons rfl (WX_q rfl rfl (q_load_ept G rfl rfl rfl rfl rfl) (WL_cons rfl (WX_q rfl rfl (q_move rfl rfl) (WL_cons rfl (WX_q rfl rfl (q_cmp rfl rfl rfl rfl) (?_))))))))
              refine WL_nil (hK24 _ ?_)
              clear hK24 K24
              refine W_cond rfl (fun h6 => ?_) (fun h6 => ?_)
              · try rw [h6]
                try simp only [decide_eq_true_eq, decide_eq_false_iff_not, beq_iff_eq, bne_iff_ne, ne_eq, Bool.not_eq_true', Bool.not_eq_false', beq_eq_false_iff_ne, bne_eq_false_iff_eq, Bool.not_eq_true, Bool.not_eq_false, Int.not_lt, Int.not_le, gt_iff_lt, ge_iff_le, Bool.and_eq_true, Bool.and_eq_false_iff, Bool.or_eq_true, Bool.or_eq_false_iff] at h6
                refine W_seq (fun K25 hK25 => ?_)
                refine W_region (WL_cons rfl (WX_q rfl rfl (q_assign rfl rfl) (?_)))
                refine WL_nil (hK25 _ ?_)
                clear hK25 K25
                refine W_ret (fin_one rfl (rc_v ?_))
                all_goals clear hK23 K23 hK6 K6 hK2 K2
                all_goals (first | (have e : i = xs.length := (by omega); subst e; rfl) | (exfalso; omega) | (exfalso; simp_all [mkT, mkI, mkO]; done))
              · try rw [h6]
                try simp only [decide_eq_true_eq, decide_eq_false_iff_not, beq_iff_eq, bne_iff_ne, ne_eq, Bool.not_eq_true', Bool.not_eq_false', beq_eq_false_iff_ne, bne_eq_false_iff_eq, Bool.not_eq_true, Bool.not_eq_false, Int.not_lt, Int.not_le, gt_iff_lt, ge_iff_le, Bool.and_eq_true, Bool.and_eq_false_iff, Bool.or_eq_true, Bool.or_eq_false_iff] at h6
                refine W_skip (hK23 _ ?_)
                clear hK23 K23
                refine W_seq (fun K26 hK26 => ?_)
                refine W_region (WL_cons rfl (WX_q rfl rfl (q_move rfl rfl) (WL_cons rfl (?_))))
                first | refine WX_q rfl rfl (q_arith rfl rfl rfl rfl (by omega) (by omega)) ?_ | refine WX_q rfl rfl (q_wrap rfl rfl rfl rfl) ?_
                refine WL_cons rfl (WX_q rfl rfl (q_assign rfl rfl) (?_))
                refine WL_nil (hK26 _ ?_)
                clear hK26 K26
                refine W_seq (fun K27 hK27 => ?_)
                refine W_seq (fun K28 hK28 => ?_)
                refine W_region (WL_cons rfl (WX_q rfl rfl (q_move rfl rfl) (WL_cons rfl (WX_q rfl rfl (q_move rfl rfl) (WL_cons rfl (?_))))))
                refine WX_q rfl rfl (q_index_lst G rfl rfl rfl rfl (by omega) (over_full (by omega))) ?_
                refine WL_cons rfl (WX_q rfl rfl (q_field_ept G rfl rfl rfl rfl) (WL_cons rfl (WX_q rfl rfl (q_load_ept G rfl rfl rfl rfl rfl) (WL_cons rfl (WX_q rfl rfl (q_move rfl rfl) (WL_cons rfl (?_)))))))
                first | refine WX_q rfl rfl (q_rem_pos rfl rfl rfl (by omega) (by omega)) ?_ | refine WX_q rfl rfl (q_rem rfl rfl rfl (by omega)) ?_
                refine WL_cons rfl (WX_q rfl rfl (q_cmp rfl rfl rfl rfl) (WL_cons rfl (WX_q rfl rfl (q_bne (G 4 _ rfl).1 rfl rfl rfl) (?_))))
                refine WL_nil (hK28 _ ?_)
                clear hK28 K28
                refine W_cond rfl (fun h7 => ?_) (fun h7 => ?_)
                · try rw [h7]
                  try simp only [decide_eq_true_eq, decide_eq_false_iff_not, beq_iff_eq, bne_iff_ne, ne_eq, Bool.not_eq_true', Bool.not_eq_false', beq_eq_false_iff_ne, bne_eq_false_iff_eq, Bool.not_eq_true, Bool.not_eq_false, Int.not_lt, Int.not_le, gt_iff_lt, ge_iff_le, Bool.and_eq_true, Bool.and_eq_false_iff, Bool.or_eq_true, Bool.or_eq_false_iff] at h7
                  refine W_seq (fun K29 hK29 => ?_)
                  refine W_region (WL_cons rfl (WX_q rfl rfl (q_assign rfl rfl) (?_)))
                  refine WL_nil (hK29 _ ?_)
                  clear hK29 K29
                  refine W_ret (fin_one rfl (rc_v ?_))
                  all_goals clear hK27 K27 hK6 K6 hK2 K2
                  all_goals (first | (have e : i = xs.length := (by omega); subst e; rfl) | (exfalso; omega) | (exfalso; simp_all [mkT, mkI, mkO]; done))
                · try rw [h7]
                  try simp only [decide_eq_true_eq, decide_eq_false_iff_not, beq_iff_eq, bne_iff_ne, ne_eq, Bool.not_eq_true', Bool.not_eq_false', beq_eq_false_iff_ne, bne_eq_false_iff_eq, Bool.not_eq_true, Bool.not_eq_false, Int.not_lt, Int.not_le, gt_iff_lt, ge_iff_le, Bool.and_eq_true, Bool.and_eq_false_iff, Bool.or_eq_true, Bool.or_eq_false_iff] at h7
                  refine W_skip (hK27 _ ?_)
                  clear hK27 K27
                  refine W_region (WL_cons rfl (WX_q rfl rfl (q_move rfl rfl) (WL_cons rfl (?_))))
                  first | refine WX_q rfl rfl (q_arith rfl rfl rfl rfl (by omega) (by omega)) ?_ | refine WX_q rfl rfl (q_wrap rfl rfl rfl rfl) ?_
                  refine WL_cons rfl (WX_q rfl rfl (q_assign rfl rfl) (?_))
                  refine WL_nil (hK6 _ ?_)
                  clear hK6 K6
                  refine W_region (WL_cons rfl (WX_q rfl rfl (q_move rfl rfl) (WL_cons rfl (?_))))
                  first | refine WX_q rfl rfl (q_arith rfl rfl rfl rfl (by omega) (by omega)) ?_ | refine WX_q rfl rfl (q_wrap rfl rfl rfl rfl) ?_
                  refine WL_cons rfl (WX_q rfl rfl (q_assign rfl rfl) (?_))
                  refine WL_nil ⟨(i + 1), ?_, ?_, ⟨⟨_, rfl, by (first | rfl | (congr 2; omega))⟩, rfl, ⟨⟨_, rfl, by (first | rfl | (congr 2; omega))⟩, rfl, trivial⟩⟩, trivial, rfl, rfl, rfl⟩
                  · omega
                  · omega
    · try rw [h1]
      try simp only [decide_eq_true_eq, decide_eq_false_iff_not, beq_iff_eq, bne_iff_ne, ne_eq, Bool.not_eq_true', Bool.not_eq_false', beq_eq_false_iff_ne, bne_eq_false_iff_eq, Bool.not_eq_true, Bool.not_eq_false, Int.not_lt, Int.not_le, gt_iff_lt, ge_iff_le, Bool.and_eq_true, Bool.and_eq_false_iff, Bool.or_eq_true, Bool.or_eq_false_iff] at h1
      refine W_exit (hK2 _ ?_)
      clear hK4 K4 hK2 K2
      refine W_seq (fun K30 hK30 => ?_)
      refine W_region (WL_cons rfl (WX_q rfl rfl (q_move rfl rfl) (WL_cons rfl (WX_q rfl rfl (q_assign rfl rfl) (?_)))))
      refine WL_nil (hK30 _ ?_)
      clear hK30 K30
      refine W_ret (fin_one rfl (rc_v ?_))
      all_goals (first | (have e : i = xs.length := (by omega); subst e; rfl) | (exfalso; omega) | (exfalso; simp_all [mkT, mkI, mkO]; done))

end Go.Proofs.YtehijimgenicfaaDoor

/- Walks through functions of the program, one contract each (written by gen.py). -/
set_option maxRecDepth 20000
set_option linter.unusedVariables false
set_option linter.unusedSimpArgs false
namespace Go.Proofs.YtehijimgenicfaaDoor
open Go Go.Rf

theorem c_laws_FnExactParseSettings (s : ByteArray) (h0 : s.size ≤ 9223372036854775807) : Ctr Tryd.prog 6 [.v (.string s)] (.one (.v (.bool true))) := by
  refine Ctr.of (n := 82) G Tryd.func6 rfl (by kernel_rfl) rfl rfl rfl (fun w0 => ?_)
  refine W_seq (fun K1 hK1 => ?_)
  refine W_region (WL_cons rfl (WX_q rfl rfl (q_assign rfl rfl) (?_)))
  refine WL_nil (hK1 _ ?_)
  clear hK1 K1
  refine W_seq (fun K2 hK2 => ?_)
  refine W_seq (fun K3 hK3 => ?_)
  refine W_region (WL_cons rfl (WX_q rfl rfl (q_move rfl rfl) (WL_cons rfl (WX_q rfl rfl (q_len_str G rfl rfl rfl) (WL_cons rfl (WX_q rfl rfl (q_cmp rfl rfl rfl rfl) (?_)))))))
  refine WL_nil (hK3 _ ?_)
  clear hK3 K3
  refine W_cond rfl (fun h1 => ?_) (fun h1 => ?_)
  · try rw [h1]
    try simp only [decide_eq_true_eq, decide_eq_false_iff_not, beq_iff_eq, bne_iff_ne, ne_eq, Bool.not_eq_true', Bool.not_eq_false', beq_eq_false_iff_ne, bne_eq_false_iff_eq, Bool.not_eq_true, Bool.not_eq_false, Int.not_lt, Int.not_le, gt_iff_lt, ge_iff_le, Bool.and_eq_true, Bool.and_eq_false_iff, Bool.or_eq_true, Bool.or_eq_false_iff] at h1
    refine W_seq (fun K4 hK4 => ?_)
    refine W_region (WL_cons rfl (WX_q rfl rfl (q_assign rfl rfl) (?_)))
    refine WL_nil (hK4 _ ?_)
    clear hK4 K4
    refine W_ret (fin_one rfl (rc_v ?_))
    all_goals clear hK2 K2
    all_goals (first | rfl | (simp_all; done) | (simp_all; omega))
  · try rw [h1]
    try simp only [decide_eq_true_eq, decide_eq_false_iff_not, beq_iff_eq, bne_iff_ne, ne_eq, Bool.not_eq_true', Bool.not_eq_false', beq_eq_false_iff_ne, bne_eq_false_iff_eq, Bool.not_eq_true, Bool.not_eq_false, Int.not_lt, Int.not_le, gt_iff_lt, ge_iff_le, Bool.and_eq_true, Bool.and_eq_false_iff, Bool.or_eq_true, Bool.or_eq_false_iff] at h1
    have hplen := pssL_len (s := s) (by omega)
    refine W_skip (hK2 _ ?_)
    clear hK2 K2
    refine W_seq (fun K5 hK5 => ?_)
    refine W_region (WL_cons rfl (WX_q rfl rfl (q_move rfl rfl) (WL_cons rfl (?_))))
    refine WX_call 1 rfl rfl rfl (ArgsOK.of rfl) (c_spec_ParseSettings _ (by omega)) rfl rfl ?_
    refine WL_cons rfl (WX_q rfl rfl (q_move rfl rfl) (WL_cons rfl (WX_q rfl rfl (q_extract rfl rfl rfl) (WL_cons rfl (WX_q rfl rfl (q_extract rfl rfl rfl) (WL_cons rfl (WX_q rfl rfl (q_extract rfl rfl rfl) (WL_cons rfl (WX_q rfl rfl (q_assign rfl rfl) (WL_cons rfl (WX_q rfl rfl (q_assign rfl rfl) (WL_cons rfl (WX_q rfl rfl (q_assign rfl rfl) (?_))))))))))))))
    refine WL_nil (hK5 _ ?_)
    clear hK5 K5
    refine W_seq (fun K6 hK6 => ?_)
    refine W_region (WL_cons rfl (WX_q rfl rfl (q_move rfl rfl) (WL_cons rfl (?_))))
    refine WX_call 2 rfl rfl rfl (ArgsOK.of rfl) (c_impl_ParseSettings _ (by omega)) rfl rfl ?_
    refine WL_cons rfl (WX_q rfl rfl (q_move rfl rfl) (WL_cons rfl (WX_q rfl rfl (q_extract rfl rfl rfl) (WL_cons rfl (WX_q rfl rfl (q_extract rfl rfl rfl) (WL_cons rfl (WX_q rfl rfl (q_extract rfl rfl rfl) (WL_cons rfl (WX_q rfl rfl (q_assign rfl rfl) (WL_cons rfl (WX_q rfl rfl (q_assign rfl rfl) (WL_cons rfl (WX_q rfl rfl (q_assign rfl rfl) (?_))))))))))))))
    refine WL_nil (hK6 _ ?_)
    clear hK6 K6
    refine W_seq (fun K7 hK7 => ?_)
    refine W_seq (fun K8 hK8 => ?_)
    refine W_region (WL_cons rfl (WX_q rfl rfl (q_move rfl rfl) (WL_cons rfl (WX_q rfl rfl (q_move rfl rfl) (WL_cons rfl (?_))))))
    refine WX_q rfl rfl (q_call rfl (ArgsOK.of rfl) (c_laws_eqSettingS _ _ (by omega)) rfl) ?_
    refine WL_cons rfl (WX_q rfl rfl (q_not rfl rfl) (WL_cons rfl (WX_q rfl rfl (q_move rfl rfl) (WL_part rfl rfl rfl (fun h2 => ?_) (fun h2 => ?_)))))
    · try rw [h2]
      try simp only [decide_eq_true_eq, decide_eq_false_iff_not, beq_iff_eq, bne_iff_ne, ne_eq, Bool.not_eq_true', Bool.not_eq_false', beq_eq_false_iff_ne, bne_eq_false_iff_eq, Bool.not_eq_true, Bool.not_eq_false, Int.not_lt, Int.not_le, gt_iff_lt, ge_iff_le, Bool.and_eq_true, Bool.and_eq_false_iff, Bool.or_eq_true, Bool.or_eq_false_iff] at h2
      refine WL_skip rfl rfl rfl rfl rfl rfl (WL_skip rfl rfl rfl rfl rfl rfl (WL_skip rfl rfl rfl rfl rfl rfl (WL_cons rfl (WX_q rfl rfl (q_pick_t rfl rfl rfl) (WL_cons rfl (WX_q rfl rfl (q_move rfl rfl) (WL_skip rfl rfl rfl rfl rfl rfl (WL_skip rfl rfl rfl rfl rfl rfl (WL_skip rfl rfl rfl rfl rfl rfl (WL_cons rfl (WX_q rfl rfl (q_pick_t rfl rfl rfl) (?_))))))))))))
      refine WL_nil (hK8 _ ?_)
      clear hK8 K8
      refine W_true rfl ?_
      refine W_seq (fun K9 hK9 => ?_)
      refine W_region (WL_cons rfl (WX_q rfl rfl (q_assign rfl rfl) (?_)))
      refine WL_nil (hK9 _ ?_)
      clear hK9 K9
      refine W_ret (fin_one rfl (rc_v ?_))
      all_goals clear hK7 K7
      all_goals (first | rfl | (simp_all; done) | (simp_all; omega))
    · try rw [h2]
      try simp only [decide_eq_true_eq, decide_eq_false_iff_not, beq_iff_eq, bne_iff_ne, ne_eq, Bool.not_eq_true', Bool.not_eq_false', beq_eq_false_iff_ne, bne_eq_false_iff_eq, Bool.not_eq_true, Bool.not_eq_false, Int.not_lt, Int.not_le, gt_iff_lt, ge_iff_le, Bool.and_eq_true, Bool.and_eq_false_iff, Bool.or_eq_true, Bool.or_eq_false_iff] at h2
      refine WL_run rfl rfl rfl (WX_q rfl rfl (q_move rfl rfl) (WL_run rfl rfl rfl (WX_q rfl rfl (q_move rfl rfl) (WL_run rfl rfl rfl (WX_q rfl rfl (q_cmp rfl rfl rfl rfl) (WL_cons rfl (WX_q rfl rfl (q_pick_f rfl rfl rfl) (WL_cons rfl (WX_q rfl rfl (q_move rfl rfl) (WL_part rfl rfl rfl (fun h3 => ?_) (fun h3 => ?_)))))))))))
      · try rw [h3]
        try simp only [decide_eq_true_eq, decide_eq_false_iff_not, beq_iff_eq, bne_iff_ne, ne_eq, Bool.not_eq_true', Bool.not_eq_false', beq_eq_false_iff_ne, bne_eq_false_iff_eq, Bool.not_eq_true, Bool.not_eq_false, Int.not_lt, Int.not_le, gt_iff_lt, ge_iff_le, Bool.and_eq_true, Bool.and_eq_false_iff, Bool.or_eq_true, Bool.or_eq_false_iff] at h3
        refine WL_skip rfl rfl rfl rfl rfl rfl (WL_skip rfl rfl rfl rfl rfl rfl (WL_skip rfl rfl rfl rfl rfl rfl (WL_cons rfl (WX_q rfl rfl (q_pick_t rfl rfl rfl) (?_)))))
        refine WL_nil (hK8 _ ?_)
        clear hK8 K8
        refine W_true rfl ?_
        refine W_seq (fun K10 hK10 => ?_)
        refine W_region (WL_cons rfl (WX_q rfl rfl (q_assign rfl rfl) (?_)))
        refine WL_nil (hK10 _ ?_)
        clear hK10 K10
        refine W_ret (fin_one rfl (rc_v ?_))
        all_goals clear hK7 K7
        all_goals (first | rfl | (simp_all; done) | (simp_all; omega))
      · try rw [h3]
        try simp only [decide_eq_true_eq, decide_eq_false_iff_not, beq_iff_eq, bne_iff_ne, ne_eq, Bool.not_eq_true', Bool.not_eq_false', beq_eq_false_iff_ne, bne_eq_false_iff_eq, Bool.not_eq_true, Bool.not_eq_false, Int.not_lt, Int.not_le, gt_iff_lt, ge_iff_le, Bool.and_eq_true, Bool.and_eq_false_iff, Bool.or_eq_true, Bool.or_eq_false_iff] at h3
        refine WL_run rfl rfl rfl (WX_q rfl rfl (q_move rfl rfl) (WL_run rfl rfl rfl (WX_q rfl rfl (q_move rfl rfl) (WL_run rfl rfl rfl (WX_q rfl rfl (q_bne (G 4 _ rfl).1 rfl rfl rfl) (WL_cons rfl (WX_q rfl rfl (q_pick_f rfl rfl rfl) (?_))))))))
        refine WL_nil (hK8 _ ?_)
        clear hK8 K8
        refine W_cond rfl (fun h4 => ?_) (fun h4 => ?_)
        · try rw [h4]
          try simp only [decide_eq_true_eq, decide_eq_false_iff_not, beq_iff_eq, bne_iff_ne, ne_eq, Bool.not_eq_true', Bool.not_eq_false', beq_eq_false_iff_ne, bne_eq_false_iff_eq, Bool.not_eq_true, Bool.not_eq_false, Int.not_lt, Int.not_le, gt_iff_lt, ge_iff_le, Bool.and_eq_true, Bool.and_eq_false_iff, Bool.or_eq_true, Bool.or_eq_false_iff] at h4
          refine W_seq (fun K11 hK11 => ?_)
          refine W_region (WL_cons rfl (WX_q rfl rfl (q_assign rfl rfl) (?_)))
          refine WL_nil (hK11 _ ?_)
          clear hK11 K11
          refine W_ret (fin_one rfl (rc_v ?_))
          all_goals clear hK7 K7
          all_goals (first | rfl | (simp_all; done) | (simp_all; omega))
        · try rw [h4]
          try simp only [decide_eq_true_eq, decide_eq_false_iff_not, beq_iff_eq, bne_iff_ne, ne_eq, Bool.not_eq_true', Bool.not_eq_false', beq_eq_false_iff_ne, bne_eq_false_iff_eq, Bool.not_eq_true, Bool.not_eq_false, Int.not_lt, Int.not_le, gt_iff_lt, ge_iff_le, Bool.and_eq_true, Bool.and_eq_false_iff, Bool.or_eq_true, Bool.or_eq_false_iff] at h4
          refine W_skip (hK7 _ ?_)
          clear hK7 K7
          refine W_seq (fun K12 hK12 => ?_)
          refine W_region (WL_cons rfl (WX_q rfl rfl (q_assign rfl rfl) (?_)))
          refine WL_nil (hK12 _ ?_)
          clear hK12 K12
          refine W_seq (fun K13 hK13 => ?_)
          refine W_region (WL_cons rfl (WX_q rfl rfl (q_move rfl rfl) (WL_cons rfl (WX_q rfl rfl (q_move rfl rfl) (WL_cons rfl (?_))))))
          refine WX_callm 2 [1] rfl rfl rfl (c_laws_markSettingS _ (by omega)) rfl (RowsIn.cons rfl RowsIn.nil) rfl rfl rfl ?_
          refine WL_cons rfl (WX_q rfl rfl (q_assign rfl rfl) (?_))
          refine WL_nil (hK13 _ ?_)
          clear hK13 K13
          refine W_seq (fun K14 hK14 => ?_)
          refine W_region (WL_cons rfl (WX_q rfl rfl (q_assign rfl rfl) (?_)))
          refine WL_nil (hK14 _ ?_)
          clear hK14 K14
          refine W_seq (fun K15 hK15 => ?_)
          refine W_region (WL_cons rfl (WX_q rfl rfl (q_move rfl rfl) (WL_cons rfl (WX_q rfl rfl (q_move rfl rfl) (WL_cons rfl (?_))))))
          refine WX_q rfl rfl (q_call rfl (ArgsOK.of rfl) (c_laws_heldSettingS _ (by omega)) rfl) ?_
          refine WL_cons rfl (WX_q rfl rfl (q_assign rfl rfl) (?_))
          refine WL_nil (hK15 _ ?_)
          clear hK15 K15
          refine W_seq (fun K16 hK16 => ?_)
          refine W_seq (fun K17 hK17 => ?_)
          refine W_region (WL_cons rfl (WX_q rfl rfl (q_move rfl rfl) (WL_cons rfl (WX_q rfl rfl (q_cmp rfl rfl rfl rfl) (?_)))))
          refine WL_nil (hK17 _ ?_)
          clear hK17 K17
          refine W_cond rfl (fun h5 => ?_) (fun h5 => ?_)
          · try rw [h5]
            try simp only [decide_eq_true_eq, decide_eq_false_iff_not, beq_iff_eq, bne_iff_ne, ne_eq, Bool.not_eq_true', Bool.not_eq_false', beq_eq_false_iff_ne, bne_eq_false_iff_eq, Bool.not_eq_true, Bool.not_eq_false, Int.not_lt, Int.not_le, gt_iff_lt, ge_iff_le, Bool.and_eq_true, Bool.and_eq_false_iff, Bool.or_eq_true, Bool.or_eq_false_iff] at h5
            refine W_seq (fun K18 hK18 => ?_)
            refine W_region (WL_cons rfl (WX_q rfl rfl (q_assign rfl rfl) (?_)))
            refine WL_nil (hK18 _ ?_)
            clear hK18 K18
            refine W_ret (fin_one rfl (rc_v ?_))
            all_goals clear hK16 K16
            all_goals (first | rfl | (simp_all; done) | (simp_all; omega))
          · try rw [h5]
            try simp only [decide_eq_true_eq, decide_eq_false_iff_not, beq_iff_eq, bne_iff_ne, ne_eq, Bool.not_eq_true', Bool.not_eq_false', beq_eq_false_iff_ne, bne_eq_false_iff_eq, Bool.not_eq_true, Bool.not_eq_false, Int.not_lt, Int.not_le, gt_iff_lt, ge_iff_le, Bool.and_eq_true, Bool.and_eq_false_iff, Bool.or_eq_true, Bool.or_eq_false_iff] at h5
            refine W_skip (hK16 _ ?_)
            clear hK16 K16
            refine W_seq (fun K19 hK19 => ?_)
            refine W_seq (fun K20 hK20 => ?_)
            refine W_region (WL_cons rfl (WX_q rfl rfl (q_move rfl rfl) (WL_cons rfl (WX_q rfl rfl (q_move rfl rfl) (WL_cons rfl (WX_q rfl rfl (q_cmp rfl rfl rfl rfl) (?_)))))))
            refine WL_nil (hK20 _ ?_)
            clear hK20 K20
            refine W_cond rfl (fun h6 => ?_) (fun h6 => ?_)
            · try rw [h6]
              try simp only [decide_eq_true_eq, decide_eq_false_iff_not, beq_iff_eq, bne_iff_ne, ne_eq, Bool.not_eq_true', Bool.not_eq_false', beq_eq_false_iff_ne, bne_eq_false_iff_eq, Bool.not_eq_true, Bool.not_eq_false, Int.not_lt, Int.not_le, gt_iff_lt, ge_iff_le, Bool.and_eq_true, Bool.and_eq_false_iff, Bool.or_eq_true, Bool.or_eq_false_iff] at h6
              refine W_seq (fun K21 hK21 => ?_)
              refine W_region (WL_cons rfl (WX_q rfl rfl (q_assign rfl rfl) (?_)))
              refine WL_nil (hK21 _ ?_)
              clear hK21 K21
              refine W_ret (fin_one rfl (rc_v ?_))
              all_goals clear hK19 K19
              all_goals (first | rfl | (simp_all; done) | (simp_all; omega))
            · try rw [h6]
              try simp only [decide_eq_true_eq, decide_eq_false_iff_not, beq_iff_eq, bne_iff_ne, ne_eq, Bool.not_eq_true', Bool.not_eq_false', beq_eq_false_iff_ne, bne_eq_false_iff_eq, Bool.not_eq_true, Bool.not_eq_false, Int.not_lt, Int.not_le, gt_iff_lt, ge_iff_le, Bool.and_eq_true, Bool.and_eq_false_iff, Bool.or_eq_true, Bool.or_eq_false_iff] at h6
              refine W_skip (hK19 _ ?_)
              clear hK19 K19
              refine W_seq (fun K22 hK22 => ?_)
              refine W_region (WL_cons rfl (WX_q rfl rfl (q_move rfl rfl) (WL_cons rfl (?_))))
              refine WX_call 3 rfl rfl rfl (ArgsOK.of rfl) (c_impl_ParseSettings _ (by omega)) rfl rfl ?_
              refine WL_cons rfl (WX_q rfl rfl (q_move rfl rfl) (WL_cons rfl (WX_q rfl rfl (q_extract rfl rfl rfl) (WL_cons rfl (WX_q rfl rfl (q_extract rfl rfl rfl) (WL_cons rfl (WX_q rfl rfl (q_extract rfl rfl rfl) (WL_cons rfl (WX_q rfl rfl (q_assign rfl rfl) (WL_cons rfl (WX_q rfl rfl (q_assign rfl rfl) (WL_cons rfl (WX_q rfl rfl (q_assign rfl rfl) (?_))))))))))))))
              refine WL_nil (hK22 _ ?_)
              clear hK22 K22
              refine W_seq (fun K23 hK23 => ?_)
              refine W_seq (fun K24 hK24 => ?_)
              refine W_region (WL_cons rfl (WX_q rfl rfl (q_move rfl rfl) (WL_cons rfl (WX_q rfl rfl (q_move rfl rfl) (WL_cons rfl (?_))))))
              refine WX_q rfl rfl (q_call rfl (ArgsOK.of rfl) (c_laws_eqSettingS _ _ (by omega)) rfl) ?_
              refine WL_cons rfl (WX_q rfl rfl (q_not rfl rfl) (WL_cons rfl (WX_q rfl rfl (q_move rfl rfl) (WL_part rfl rfl rfl (fun h7 => ?_) (fun h7 => ?_)))))
              · try rw [h7]
                try simp only [decide_eq_true_eq, decide_eq_false_iff_not, beq_iff_eq, bne_iff_ne, ne_eq, Bool.not_eq_true', Bool.not_eq_false', beq_eq_false_iff_ne, bne_eq_false_iff_eq, Bool.not_eq_true, Bool.not_eq_false, Int.not_lt, Int.not_le, gt_iff_lt, ge_iff_le, Bool.and_eq_true, Bool.and_eq_false_iff, Bool.or_eq_true, Bool.or_eq_false_iff] at h7
                refine WL_skip rfl rfl rfl rfl rfl rfl (WL_skip rfl rfl rfl rfl rfl rfl (WL_skip rfl rfl rfl rfl rfl rfl (WL_cons rfl (WX_q rfl rfl (q_pick_t rfl rfl rfl) (WL_cons rfl (WX_q rfl rfl (q_move rfl rfl) (WL_skip rfl rfl rfl rfl rfl rfl (WL_skip rfl rfl rfl rfl rfl rfl (WL_skip rfl rfl rfl rfl rfl rfl (WL_cons rfl (WX_q rfl rfl (q_pick_t rfl rfl rfl) (?_))))))))))))
                refine WL_nil (hK24 _ ?_)
                clear hK24 K24
                refine W_true rfl ?_
                refine W_seq (fun K25 hK25 => ?_)
                refine W_region (WL_cons rfl (WX_q rfl rfl (q_assign rfl rfl) (?_)))
                refine WL_nil (hK25 _ ?_)
                clear hK25 K25
                refine W_ret (fin_one rfl (rc_v ?_))
                all_goals clear hK23 K23
                all_goals (first | rfl | (simp_all; done) | (simp_all; omega))
              · try rw [h7]
                try simp only [decide_eq_true_eq, decide_eq_false_iff_not, beq_iff_eq, bne_iff_ne, ne_eq, Bool.not_eq_true', Bool.not_eq_false', beq_eq_false_iff_ne, bne_eq_false_iff_eq, Bool.not_eq_true, Bool.not_eq_false, Int.not_lt, Int.not_le, gt_iff_lt, ge_iff_le, Bool.and_eq_true, Bool.and_eq_false_iff, Bool.or_eq_true, Bool.or_eq_false_iff] at h7
                refine WL_run rfl rfl rfl (WX_q rfl rfl (q_move rfl rfl) (WL_run rfl rfl rfl (WX_q rfl rfl (q_move rfl rfl) (WL_run rfl rfl rfl (WX_q rfl rfl (q_cmp rfl rfl rfl rfl) (WL_cons rfl (WX_q rfl rfl (q_pick_f rfl rfl rfl) (WL_cons rfl (WX_q rfl rfl (q_move rfl rfl) (WL_part rfl rfl rfl (fun h8 => ?_) (fun h8 => ?_)))))))))))
                · try rw [h8]
                  try simp only [decide_eq_true_eq, decide_eq_false_iff_not, beq_iff_eq, bne_iff_ne, ne_eq, Bool.not_eq_true', Bool.not_eq_false', beq_eq_false_iff_ne, bne_eq_false_iff_eq, Bool.not_eq_true, Bool.not_eq_false, Int.not_lt, Int.not_le, gt_iff_lt, ge_iff_le, Bool.and_eq_true, Bool.and_eq_false_iff, Bool.or_eq_true, Bool.or_eq_false_iff] at h8
                  refine WL_skip rfl rfl rfl rfl rfl rfl (WL_skip rfl rfl rfl rfl rfl rfl (WL_skip rfl rfl rfl rfl rfl rfl (WL_cons rfl (WX_q rfl rfl (q_pick_t rfl rfl rfl) (?_)))))
                  refine WL_nil (hK24 _ ?_)
                  clear hK24 K24
                  refine W_true rfl ?_
                  refine W_seq (fun K26 hK26 => ?_)
                  refine W_region (WL_cons rfl (WX_q rfl rfl (q_assign rfl rfl) (?_)))
                  refine WL_nil (hK26 _ ?_)
                  clear hK26 K26
                  refine W_ret (fin_one rfl (rc_v ?_))
                  all_goals clear hK23 K23
                  all_goals (first | rfl | (simp_all; done) | (simp_all; omega))
                · try rw [h8]
                  try simp only [decide_eq_true_eq, decide_eq_false_iff_not, beq_iff_eq, bne_iff_ne, ne_eq, Bool.not_eq_true', Bool.not_eq_false', beq_eq_false_iff_ne, bne_eq_false_iff_eq, Bool.not_eq_true, Bool.not_eq_false, Int.not_lt, Int.not_le, gt_iff_lt, ge_iff_le, Bool.and_eq_true, Bool.and_eq_false_iff, Bool.or_eq_true, Bool.or_eq_false_iff] at h8
                  refine WL_run rfl rfl rfl (WX_q rfl rfl (q_move rfl rfl) (WL_run rfl rfl rfl (WX_q rfl rfl (q_move rfl rfl) (WL_run rfl rfl rfl (WX_q rfl rfl (q_bne (G 4 _ rfl).1 rfl rfl rfl) (WL_cons rfl (WX_q rfl rfl (q_pick_f rfl rfl rfl) (?_))))))))
                  refine WL_nil (hK24 _ ?_)
                  clear hK24 K24
                  refine W_cond rfl (fun h9 => ?_) (fun h9 => ?_)
                  · try rw [h9]
                    try simp only [decide_eq_true_eq, decide_eq_false_iff_not, beq_iff_eq, bne_iff_ne, ne_eq, Bool.not_eq_true', Bool.not_eq_false', beq_eq_false_iff_ne, bne_eq_false_iff_eq, Bool.not_eq_true, Bool.not_eq_false, Int.not_lt, Int.not_le, gt_iff_lt, ge_iff_le, Bool.and_eq_true, Bool.and_eq_false_iff, Bool.or_eq_true, Bool.or_eq_false_iff] at h9
                    refine W_seq (fun K27 hK27 => ?_)
                    refine W_region (WL_cons rfl (WX_q rfl rfl (q_assign rfl rfl) (?_)))
                    refine WL_nil (hK27 _ ?_)
                    clear hK27 K27
                    refine W_ret (fin_one rfl (rc_v ?_))
                    all_goals clear hK23 K23
                    all_goals (first | rfl | (simp_all; done) | (simp_all; omega))
                  · try rw [h9]
                    try simp only [decide_eq_true_eq, decide_eq_false_iff_not, beq_iff_eq, bne_iff_ne, ne_eq, Bool.not_eq_true', Bool.not_eq_false', beq_eq_false_iff_ne, bne_eq_false_iff_eq, Bool.not_eq_true, Bool.not_eq_false, Int.not_lt, Int.not_le, gt_iff_lt, ge_iff_le, Bool.and_eq_true, Bool.and_eq_false_iff, Bool.or_eq_true, Bool.or_eq_false_iff] at h9
                    refine W_skip (hK23 _ ?_)
                    clear hK23 K23
                    refine W_seq (fun K28 hK28 => ?_)
                    refine W_region (WL_cons rfl (WX_q rfl rfl (q_assign rfl rfl) (?_)))
                    refine WL_nil (hK28 _ ?_)
                    clear hK28 K28
                    refine W_seq (fun K29 hK29 => ?_)
                    refine W_region (WL_cons rfl (WX_q rfl rfl (q_move rfl rfl) (WL_cons rfl (WX_q rfl rfl (q_move rfl rfl) (WL_cons rfl (?_))))))
                    refine WX_q rfl rfl (q_call rfl (ArgsOK.of rfl) (c_laws_heldSettingS _ (by omega)) rfl) ?_
                    refine WL_cons rfl (WX_q rfl rfl (q_assign rfl rfl) (?_))
                    refine WL_nil (hK29 _ ?_)
                    clear hK29 K29
                    refine W_seq (fun K30 hK30 => ?_)
                    refine W_seq (fun K31 hK31 => ?_)
                    refine W_region (WL_cons rfl (WX_q rfl rfl (q_move rfl rfl) (WL_cons rfl (WX_q rfl rfl (q_cmp rfl rfl rfl rfl) (?_)))))
                    refine WL_nil (hK31 _ ?_)
                    clear hK31 K31
                    refine W_cond rfl (fun h10 => ?_) (fun h10 => ?_)
                    · try rw [h10]
                      try simp only [decide_eq_true_eq, decide_eq_false_iff_not, beq_iff_eq, bne_iff_ne, ne_eq, Bool.not_eq_true', Bool.not_eq_false', beq_eq_false_iff_ne, bne_eq_false_iff_eq, Bool.not_eq_true, Bool.not_eq_false, Int.not_lt, Int.not_le, gt_iff_lt, ge_iff_le, Bool.and_eq_true, Bool.and_eq_false_iff, Bool.or_eq_true, Bool.or_eq_false_iff] at h10
                      refine W_seq (fun K32 hK32 => ?_)
                      refine W_region (WL_cons rfl (WX_q rfl rfl (q_assign rfl rfl) (?_)))
                      refine WL_nil (hK32 _ ?_)
                      clear hK32 K32
                      refine W_ret (fin_one rfl (rc_v ?_))
                      all_goals clear hK30 K30
                      all_goals (first | rfl | (simp_all; done) | (simp_all; omega))
                    · try rw [h10]
                      try simp only [decide_eq_true_eq, decide_eq_false_iff_not, beq_iff_eq, bne_iff_ne, ne_eq, Bool.not_eq_true', Bool.not_eq_false', beq_eq_false_iff_ne, bne_eq_false_iff_eq, Bool.not_eq_true, Bool.not_eq_false, Int.not_lt, Int.not_le, gt_iff_lt, ge_iff_le, Bool.and_eq_true, Bool.and_eq_false_iff, Bool.or_eq_true, Bool.or_eq_false_iff] at h10
                      refine W_skip (hK30 _ ?_)
                      clear hK30 K30
                      refine W_seq (fun K33 hK33 => ?_)
                      refine W_seq (fun K34 hK34 => ?_)
                      refine W_region (WL_cons rfl (WX_q rfl rfl (q_move rfl rfl) (WL_cons rfl (WX_q rfl rfl (q_move rfl rfl) (WL_cons rfl (WX_q rfl rfl (q_cmp rfl rfl rfl rfl) (?_)))))))
                      refine WL_nil (hK34 _ ?_)
                      clear hK34 K34
                      refine W_cond rfl (fun h11 => ?_) (fun h11 => ?_)
                      · try rw [h11]
                        try simp only [decide_eq_true_eq, decide_eq_false_iff_not, beq_iff_eq, bne_iff_ne, ne_eq, Bool.not_eq_true', Bool.not_eq_false', beq_eq_false_iff_ne, bne_eq_false_iff_eq, Bool.not_eq_true, Bool.not_eq_false, Int.not_lt, Int.not_le, gt_iff_lt, ge_iff_le, Bool.and_eq_true, Bool.and_eq_false_iff, Bool.or_eq_true, Bool.or_eq_false_iff] at h11
                        refine W_seq (fun K35 hK35 => ?_)
                        refine W_region (WL_cons rfl (WX_q rfl rfl (q_assign rfl rfl) (?_)))
                        refine WL_nil (hK35 _ ?_)
                        clear hK35 K35
                        refine W_ret (fin_one rfl (rc_v ?_))
                        all_goals clear hK33 K33
                        all_goals (first | rfl | (simp_all; done) | (simp_all; omega))
                      · try rw [h11]
                        try simp only [decide_eq_true_eq, decide_eq_false_iff_not, beq_iff_eq, bne_iff_ne, ne_eq, Bool.not_eq_true', Bool.not_eq_false', beq_eq_false_iff_ne, bne_eq_false_iff_eq, Bool.not_eq_true, Bool.not_eq_false, Int.not_lt, Int.not_le, gt_iff_lt, ge_iff_le, Bool.and_eq_true, Bool.and_eq_false_iff, Bool.or_eq_true, Bool.or_eq_false_iff] at h11
                        refine W_skip (hK33 _ ?_)
                        clear hK33 K33
                        refine W_seq (fun K36 hK36 => ?_)
                        refine W_region (WL_cons rfl (WX_q rfl rfl (q_assign rfl rfl) (?_)))
                        refine WL_nil (hK36 _ ?_)
                        clear hK36 K36
                        refine W_ret (fin_one rfl (rc_v ?_))
                        all_goals (first | rfl | (simp_all; done) | (simp_all; omega))

end Go.Proofs.YtehijimgenicfaaDoor

/- One start that fits what is laid; the environment, out of what is laid. -/
set_option linter.unusedVariables false
namespace Go.Proofs.YtehijimgenicfaaDoor
open Go Go.ChangeShapes Go.WideShapes Go.ChangeAt Go.RowKit Go.Rf
/-- the wrap of a row that lists variables, the world's shape kept -/
theorem returnsInHanded_both {H : Type} {enc : TypeId × Value → H} {a : Assume} {C : Checked} {os : Os} {f : FuncId} {fn : Func} {s : ChangeSpec} {conds : List PathCond} {apart fresh handsOn again : Bool} {X : World → Array Value → Prop}
    (hX : ∀ (w w' : World) (args : Array Value), w.heap = w'.heap → X w args → X w' args)
    (own : ownKnob C.prog.godebug = none) (started : os.Started) (noInit : C.prog.inits.idxOf? f = none) (hfn : C.prog.funcs[f]? = some fn)
    (witness : ∃ (w : World) (tape : Tape) (i : Input), w.os = os ∧ (w.forCall tape i).Shaped C.prog ∧ i.vars = [] ∧ Input.okWide C.prog (w.forCall tape i) .any w.heap.size f i ∧
      ((s.pre enc C.prog fn conds apart (w.forCall tape i).memory i.args ∧ X (w.forCall tape i).memory i.args) ∧ sizedMet enc C.prog fn (OpenSpec.ofChange s) apart (w.forCall tape i).memory i.args) ∧ a.holds C.prog (lone (Frame.enter C.prog f i.args .normal) [] (w.forCall tape i)))
    (contract : ∀ (W : World) (base : Nat) (args : Array Value) (ds gs : List (DataW H)) (before : List MemPlace),
      (∀ (j : Nat) t v, fn.params[j]? = some t → args[j]? = some v → Value.okWide C.prog W .any base t v) →
      DataW.Whole enc C.prog fn.params.toList s.vars apart W args.toList ds gs before →
      W.ShapedOpen C.prog → X W args →
      Calls C.prog f args W fun e W' => ∃ v, e = .returned v ∧ s.post enc C.prog fn apart fresh handsOn again W args v W') :
    ReturnsInHanded a C os f .any (fun w args => (s.pre enc C.prog fn conds apart w args ∧ X w args) ∧ sizedMet enc C.prog fn (OpenSpec.ofChange s) apart w args) (s.post enc C.prog fn apart fresh handsOn again) := by
  refine returnsInHanded_of_calls own started noInit witness ?_
  intro w tape i _ hsh _ hok hpre hholds
  obtain ⟨_, _, _, fn', hfn', _, _, _, _, hval⟩ := hok
  have e : fn' = fn := Option.some.inj (hfn'.symm.trans hfn)
  subst e
  obtain ⟨⟨⟨ds, gs, before, hw, hc⟩, hx⟩, hz⟩ := hpre
  have hw' := DataW.Whole.of_heap (w' := w.forCall tape i) (by rfl) hw
  refine (contract (w.forCall tape i) w.heap.size i.args ds gs before hval hw' hsh (hX _ _ _ (by rfl) hx)).mono fun e W' ⟨v, he, hp⟩ => ?_
  subst he
  exact ChangeSpec.post_blind hp
theorem own : ownKnob Tryd.prog.godebug = Option.none := by kernel_rfl
theorem laidOut : laidOutB Tryd.prog = true := by kernel_rfl
abbrev laidList : List (String × DataW Unit) := [("math/bits.deBruijn32tab", Rows.laid_math_bits_deBruijn32tab), ("math/bits.deBruijn64tab", Rows.laid_math_bits_deBruijn64tab), ("internal/strconv.uint64pow10", Rows.laid_internal_strconv_uint64pow10), ("unicode/utf8.acceptRanges", Rows.laid_unicode_utf8_acceptRanges), ("strconv.ErrRange", Rows.laid_strconv_ErrRange), ("strconv.ErrSyntax", Rows.laid_strconv_ErrSyntax), ("unicode/utf8.first", Rows.laid_unicode_utf8_first)]
abbrev synS : ByteArray := { data := #[105, 110, 118, 97, 108, 105, 100, 32, 115, 121, 110, 116, 97, 120] }
abbrev rngS : ByteArray := { data := #[118, 97, 108, 117, 101, 32, 111, 117, 116, 32, 111, 102, 32, 114, 97, 110, 103, 101] }
noncomputable def low : Nat := (World.holding Tryd.prog default ⟨#[], #[], []⟩).heap.size
noncomputable def laidWorld (os : Os) : World :=
  let w0 := World.holding Tryd.prog os ⟨#[.cells #[.string synS] 123, .cells #[.string rngS] 123], #[], []⟩
  let put (h : Array Obj) (g : Nat) (cs : Array Value) : Array Obj := h.modify g fun
    | .cells _ t frozen => .cells cs t frozen
    | o => o
  let h1 := put w0.heap 6 #[.int .u8 0, .int .u8 1, .int .u8 28, .int .u8 2, .int .u8 29, .int .u8 14, .int .u8 24, .int .u8 3, .int .u8 30, .int .u8 22, .int .u8 20, .int .u8 15, .int .u8 25, .int .u8 17, .int .u8 4, .int .u8 8, .int .u8 31, .int .u8 27, .int .u8 13, .int .u8 23, .int .u8 21, .int .u8 19, .int .u8 16, .int .u8 7, .int .u8 26, .int .u8 12, .int .u8 18, .int .u8 6, .int .u8 11, .int .u8 5, .int .u8 10, .int .u8 9]
  let h2 := put h1 7 #[.int .u8 0, .int .u8 1, .int .u8 56, .int .u8 2, .int .u8 57, .int .u8 49, .int .u8 28, .int .u8 3, .int .u8 61, .int .u8 58, .int .u8 42, .int .u8 50, .int .u8 38, .int .u8 29, .int .u8 17, .int .u8 4, .int .u8 62, .int .u8 47, .int .u8 59, .int .u8 36, .int .u8 45, .int .u8 43, .int .u8 51, .int .u8 22, .int .u8 53, .int .u8 39, .int .u8 33, .int .u8 30, .int .u8 24, .int .u8 18, .int .u8 12, .int .u8 5, .int .u8 63, .int .u8 55, .int .u8 48, .int .u8 27, .int .u8 60, .int .u8 41, .int .u8 37, .int .u8 16, .int .u8 46, .int .u8 35, .int .u8 44, .int .u8 21, .int .u8 52, .int .u8 32, .int .u8 23, .int .u8 11, .int .u8 54, .int .u8 26, .int .u8 40, .int .u8 15, .int .u8 34, .int .u8 20, .int .u8 31, .int .u8 10, .int .u8 25, .int .u8 14, .int .u8 19, .int .u8 9, .int .u8 13, .int .u8 8, .int .u8 7, .int .u8 6]
  let h3 := put h2 3 #[.int .u64 1, .int .u64 10, .int .u64 100, .int .u64 1000, .int .u64 10000, .int .u64 100000, .int .u64 1000000, .int .u64 10000000, .int .u64 100000000, .int .u64 1000000000, .int .u64 10000000000, .int .u64 100000000000, .int .u64 1000000000000, .int .u64 10000000000000, .int .u64 100000000000000, .int .u64 1000000000000000, .int .u64 10000000000000000, .int .u64 100000000000000000, .int .u64 1000000000000000000, .int .u64 10000000000000000000]
  let h4 := put h3 5 #[.int .u8 128, .int .u8 191, .int .u8 160, .int .u8 191, .int .u8 128, .int .u8 159, .int .u8 144, .int .u8 191, .int .u8 128, .int .u8 143, .int .u8 0, .int .u8 0, .int .u8 0, .int .u8 0, .int .u8 0, .int .u8 0, .int .u8 0, .int .u8 0, .int .u8 0, .int .u8 0, .int .u8 0, .int .u8 0, .int .u8 0, .int .u8 0, .int .u8 0, .int .u8 0, .int .u8 0, .int .u8 0, .int .u8 0, .int .u8 0, .int .u8 0, .int .u8 0]
  let h5 := put h4 2 #[.iface 121 (.pointer (some ⟨low + 1, 0, none⟩))]
  let h6 := put h5 1 #[.iface 121 (.pointer (some ⟨low, 0, none⟩))]
  let h7 := put h6 4 (Go.Pinned.utf8FirstZ.map (fun (n : Nat) => Value.int .u8 (n : Int))).toArray
  { w0 with heap := h7 }
theorem laid_met (os : Os) (args : Array Value) : laidMet Tryd.prog laidList ((laidWorld os).forCall (fun _ _ => 0) ⟨#[], args, []⟩).memory :=
  (LaidIn.of_run [6, 7, 3, 5, 2, low + 1, 1, low, 4] 8 (by kernel_rfl) (by kernel_rfl) (by kernel_rfl) (by kernel_rfl)).met
theorem gP : Tryd.prog.globalNamed "internal/strconv.uint64pow10" = some 3 := by kernel_rfl
theorem gPType : (Tryd.prog.globals[3]?).map (·.type) = some 109 := by kernel_rfl
theorem cellsE : Tryd.prog.cellsOf 61 = 1 := by kernel_rfl
theorem cellsT : Tryd.prog.cellsOf 109 = 20 := by kernel_rfl
theorem tabE : (Rows.laid_internal_strconv_uint64pow10 : DataW Unit) = Lib.tabData .u64 Lib.pow10Tab := by kernel_rfl
theorem tab_of {W : World} (h : laidMet Tryd.prog laidList W) : Lib.TabIs Tryd.prog W "internal/strconv.uint64pow10" .u64 Lib.pow10Tab := by
  have h2 := h.tail.tail
  rw [tabE] at h2
  exact Lib.tabIs_of_head gP gPType Tryd.underlying109 Tryd.underlying61 cellsE cellsT h2
theorem gES : Tryd.prog.globalNamed "strconv.ErrSyntax" = some 1 := by kernel_rfl
theorem gESType : (Tryd.prog.globals[1]?).map (·.type) = some 72 := by kernel_rfl
theorem cells123 : Tryd.prog.cellsOf 123 = 1 := by kernel_rfl
theorem cells9 : Tryd.prog.cellsOf 9 = 1 := by kernel_rfl
theorem star : "*" ++ "errors.errorString" = "*errors.errorString" := by decide
theorem row121 (u : TypeId) (h : Tryd.prog.typeName? 3 u = some "*errors.errorString") : u = 121 :=
  typeName_ptr_named (nm := "errors.errorString") (by rw [star]; kernel_rfl) (by kernel_rfl) (by decide) u (by rw [star]; exact h)
theorem err_of {W : World} (h : laidMet Tryd.prog laidList W) : ∃ ev : Value, W.cell? ⟨1, 0, none⟩ = some ev ∧ (ev = .nilIface ∨ ∃ te pe, ev = .iface te pe) := by
  obtain ⟨a0, s0, hv0, -, -, -⟩ := laid_sentinel h.tail.tail.tail.tail.tail gES gESType Tryd.underlying72 row121 Tryd.underlying121 Tryd.underlying123 rfl rfl Tryd.underlying9 cells123 cells9
  exact ⟨_, by have h0 := World.var?_cell gES hv0 0; simpa using h0, .inr ⟨_, _, rfl⟩⟩
theorem env_of {W : World} (h : laidMet Tryd.prog laidList W) (hsh : W.ShapedOpen Tryd.prog) : Env.E Tryd.prog W := ⟨tab_of h, err_of h, Tryd.laysM146.s1_3 W hsh⟩
end Go.Proofs.YtehijimgenicfaaDoor
