/- Walks through functions of the program, one contract each (written by gen.py). -/
import Derived.Test.YtbepplocdmnchaaW4
import Derived.Test.YtbepplocdmnchaaRfY
set_option maxRecDepth 20000
set_option linter.unusedVariables false
set_option linter.unusedSimpArgs false
namespace Go.Proofs.Ytbepplocdmnchaa
open Go Go.Rf

theorem c_impl_IrqShares_1 (x : Sample) (q : Int) : Ctr Try.prog 76 [.v (encS x), .ept [.int .i64 q]] (.one (.v (.bool (decide (x.q = q))))) := by
  refine Ctr.of (n := 8) G Try.func76 rfl (by kernel_rfl) rfl rfl rfl (fun w0 => ?_)
  refine W_seq (fun K1 hK1 => ?_)
  refine W_region (WL_cons rfl (WX_box 1 rfl rfl rfl rfl rfl rfl rfl (WL_cons rfl (WX_q rfl rfl (q_assign rfl rfl) (?_)))))
  refine WL_nil (hK1 _ ?_)
  clear hK1 K1
  refine W_seq (fun K2 hK2 => ?_)
  refine W_region (WL_cons rfl (WX_q rfl rfl (q_field_ptr G rfl rfl rfl rfl) (WL_cons rfl (WX_q rfl rfl (q_load_box G rfl rfl rfl rfl rfl rfl rfl) (WL_cons rfl (WX_q rfl rfl (q_load_ept G rfl rfl rfl rfl rfl) (WL_cons rfl (WX_q rfl rfl (q_cmp rfl rfl rfl rfl) (WL_cons rfl (WX_q rfl rfl (q_assign rfl rfl) (?_)))))))))))
  refine WL_nil (hK2 _ ?_)
  clear hK2 K2
  refine W_ret (fin_one rfl (rc_v ?_))
  all_goals (first | rfl | (simp_all; done))

theorem c_spec_IrqShares (xs : List Sample) (hn : xs.length ≤ 9223372036854775807) : Ctr Try.prog 41 [.lst 3 (xs.map encSc)] (.many [.fr 3 1 ((shT xs).map encI), .v (.bool (someS xs))]) := by
  refine Ctr.of (n := 50) G Try.func41 rfl (by kernel_rfl) rfl rfl rfl (fun w0 => ?_)
  refine W_seq (fun K1 hK1 => ?_)
  refine W_region (WL_cons rfl (WX_q rfl rfl (q_assign rfl rfl) (WL_cons rfl (WX_q rfl rfl (q_assign rfl rfl) (?_)))))
  refine WL_nil (hK1 _ ?_)
  clear hK1 K1
  refine W_seq (fun K2 hK2 => ?_)
  refine W_seq (fun K3 hK3 => ?_)
  refine W_region (WL_cons rfl (WX_q rfl rfl (q_move rfl rfl) (WL_cons rfl (?_))))
  refine WX_q rfl rfl (q_call rfl (ArgsOK.of rfl) (c_spec_l26Some _ (by first | assumption | omega)) rfl) ?_
  refine WL_cons rfl (WX_q rfl rfl (q_not rfl rfl) (?_))
  refine WL_nil (hK3 _ ?_)
  clear hK3 K3
  refine W_cond rfl (fun h1 => ?_) (fun h1 => ?_)
  · try rw [h1]
    try simp only [decide_eq_true_eq, decide_eq_false_iff_not, beq_iff_eq, bne_iff_ne, ne_eq, Bool.not_eq_true', Bool.not_eq_false', beq_eq_false_iff_ne, bne_eq_false_iff_eq, Bool.not_eq_true, Bool.not_eq_false, Int.not_lt, Int.not_le, gt_iff_lt, ge_iff_le, Bool.and_eq_true, Bool.and_eq_false_iff, Bool.or_eq_true, Bool.or_eq_false_iff] at h1
    refine W_seq (fun K4 hK4 => ?_)
    refine W_region (WL_cons rfl (WX_lit G 1 rfl rfl rfl rfl rfl rfl rfl rfl (WL_cons rfl (WX_q rfl rfl (q_assign rfl rfl) (WL_cons rfl (WX_q rfl rfl (q_assign rfl rfl) (?_)))))))
    refine WL_nil (hK4 _ ?_)
    clear hK4 K4
    refine W_ret (fin_many rfl rfl rfl rfl (rcs_cons (rc_own rfl ?_) (rcs_cons (rc_v ?_) rcs_nil)))
    all_goals clear hK2 K2
    all_goals (first | rfl | (simp_all [shT]; done) | (have e : j = 8 := (by omega); subst e; simp only [shT, h1, if_true]; rw [← shO_eq]; exact congrArg (List.map encI) ((over_fin' (g := shO xs) (xs := pre (isG xs xs.length) 8) (by rw [pre_len])).trans (by rw [pre_len]))))
  · try rw [h1]
    try simp only [decide_eq_true_eq, decide_eq_false_iff_not, beq_iff_eq, bne_iff_ne, ne_eq, Bool.not_eq_true', Bool.not_eq_false', beq_eq_false_iff_ne, bne_eq_false_iff_eq, Bool.not_eq_true, Bool.not_eq_false, Int.not_lt, Int.not_le, gt_iff_lt, ge_iff_le, Bool.and_eq_true, Bool.and_eq_false_iff, Bool.or_eq_true, Bool.or_eq_false_iff] at h1
    have hok := goodS_ok (someS_good h1)
    have hpos := someS_pos h1
    refine W_skip (hK2 _ ?_)
    clear hK2 K2
    refine W_seq (fun K5 hK5 => ?_)
    refine W_region (WL_cons rfl (?_))
    refine WX_make (n := 8) G 1 rfl rfl rfl rfl rfl rfl rfl rfl rfl (by omega) (by omega) ?_
    refine WL_cons rfl (WX_q rfl rfl (q_assign rfl rfl) (?_))
    refine WL_nil (hK5 _ ?_)
    clear hK5 K5
    refine W_seq (fun K6 hK6 => ?_)
    refine W_seq (fun K7 hK7 => ?_)
    refine W_region (WL_cons rfl (WX_q rfl rfl (q_assign rfl rfl) (?_)))
    refine WL_nil (hK7 _ ?_)
    clear hK7 K7
    refine W_block ?_
    refine W_loopK [0, 4] [] (fun (i : Nat) => [(5, .v (.int .i64 (i : Int)))]) (fun (i : Nat) => [(0, some (.row 3 1 ((pre (isG xs i) 8).map encI)))]) (fun (i : Nat) => i ≤ xs.length) (fun (i : Nat) => xs.length - i) 0 rfl rfl ?_ ?_ ?_ ?_
    · exact Nat.zero_le _
    · exact ⟨⟨_, rfl, by (first | rfl | (simp; done) | (simp; omega))⟩, rfl, trivial⟩
    · exact ⟨⟨_, rfl, by exact congrArg (Row.row _ _) (pre_const (f := encI) (c := (0 : Int)))⟩, rfl, rfl, trivial⟩
    · intro i hinv
      have hi : i ≤ xs.length := hinv
      simp only [List.cons_append, List.nil_append]
      refine W_seq (fun K8 hK8 => ?_)
      refine W_seq (fun K9 hK9 => ?_)
      refine W_region (WL_cons rfl (WX_q rfl rfl (q_move rfl rfl) (WL_cons rfl (WX_q rfl rfl (q_move rfl rfl) (WL_cons rfl (?_))))))
      first | refine WX_q rfl rfl (q_len' G rfl rfl rfl rfl (List.length_map _)) ?_ | refine WX_q rfl rfl (q_len' G rfl rfl rfl rfl (by rw [List.length_map, over_len (by rw [pre_len]; omega), pre_len])) ?_ | refine WX_q rfl rfl (q_len G rfl rfl rfl rfl) ?_
      refine WL_cons rfl (WX_q rfl rfl (q_cmp rfl rfl rfl rfl) (?_))
      refine WL_nil (hK9 _ ?_)
      clear hK9 K9
      refine W_cond rfl (fun h2 => ?_) (fun h2 => ?_)
      · try rw [h2]
        try simp only [decide_eq_true_eq, decide_eq_false_iff_not, beq_iff_eq, bne_iff_ne, ne_eq, Bool.not_eq_true', Bool.not_eq_false', beq_eq_false_iff_ne, bne_eq_false_iff_eq, Bool.not_eq_true, Bool.not_eq_false, Int.not_lt, Int.not_le, gt_iff_lt, ge_iff_le, Bool.and_eq_true, Bool.and_eq_false_iff, Bool.or_eq_true, Bool.or_eq_false_iff] at h2
        have ho := hok.2 i (by omega)
        unfold okS at ho
        have hsg := isG_le (xs := xs) (i := i) (q := ((xs.getD i default).q).toNat)
        refine W_skip (hK8 _ ?_)
        clear hK8 K8
        refine W_seq (fun K10 hK10 => ?_)
        refine W_block ?_
        refine W_seq (fun K11 hK11 => ?_)
        refine W_region (WL_cons rfl (WX_q rfl rfl (q_move rfl rfl) (WL_cons rfl (WX_q rfl rfl (q_move rfl rfl) (WL_cons rfl (?_))))))
        refine WX_q rfl rfl (q_index_lst G rfl rfl rfl rfl (by omega) (getN (by omega))) ?_
        refine WL_cons rfl (WX_q rfl rfl (q_field_ept G rfl rfl rfl rfl) (WL_cons rfl (WX_q rfl rfl (q_load_ept G rfl rfl rfl rfl rfl) (WL_cons rfl (WX_q rfl rfl (q_assign rfl rfl) (?_))))))
        refine WL_nil (hK11 _ ?_)
        clear hK11 K11
        refine W_region (WL_cons rfl (WX_q rfl rfl (q_move rfl rfl) (WL_cons rfl (WX_q rfl rfl (q_move rfl rfl) (WL_cons rfl (WX_q rfl rfl (q_move rfl rfl) (WL_cons rfl (WX_q rfl rfl (q_move rfl rfl) (WL_cons rfl (?_))))))))))
        first | refine WX_q rfl rfl (q_index_own G rfl rfl rfl rfl rfl (by omega) (by rw [List.length_map, pre_len]; omega)) ?_ | refine WX_q rfl rfl (q_index_own G rfl rfl rfl rfl rfl (by omega) (by rw [List.length_map, over_len (by rw [pre_len]; omega), pre_len]; omega)) ?_
        refine WL_cons rfl (?_)
        first | refine WX_q rfl rfl (q_load_rpt G rfl rfl rfl rfl rfl (pre_get (by omega)) rfl) ?_ | refine WX_q rfl rfl (q_load_rpt G rfl rfl rfl rfl rfl (over_get (by rw [pre_len]; omega)) rfl) ?_
        refine WL_cons rfl (?_)
        first | refine WX_q rfl rfl (q_arith rfl rfl rfl rfl (by omega) (by omega)) ?_ | refine WX_q rfl rfl (q_wrap rfl rfl rfl rfl) ?_
        refine WL_cons rfl (?_)
        first | refine WX_q rfl rfl (q_index_own G rfl rfl rfl rfl rfl (by omega) (by rw [List.length_map, pre_len]; omega)) ?_ | refine WX_q rfl rfl (q_index_own G rfl rfl rfl rfl rfl (by omega) (by rw [List.length_map, over_len (by rw [pre_len]; omega), pre_len]; omega)) ?_
        refine WL_cons rfl (?_)
        first | refine WX_store_row G rfl rfl rfl rfl rfl (pre_get (by omega)) rfl rfl rfl rfl rfl (Nat.le_of_ble_eq_true rfl) rfl ?_ | refine WX_store_row G rfl rfl rfl rfl rfl (over_get (by rw [pre_len]; omega)) rfl rfl rfl rfl rfl (Nat.le_of_ble_eq_true rfl) rfl ?_
        refine WL_nil (hK10 _ ?_)
        clear hK10 K10
        refine W_region (WL_cons rfl (WX_q rfl rfl (q_move rfl rfl) (WL_cons rfl (?_))))
        first | refine WX_q rfl rfl (q_arith rfl rfl rfl rfl (by omega) (by omega)) ?_ | refine WX_q rfl rfl (q_wrap rfl rfl rfl rfl) ?_
        refine WL_cons rfl (WX_q rfl rfl (q_assign rfl rfl) (?_))
        refine WL_nil ⟨(i + 1), ?_, ?_, ⟨⟨_, rfl, by rfl⟩, rfl, trivial⟩, ⟨⟨_, rfl, by exact congrArg (Row.row _ _) (isG_set (xs := xs) (i := i) (by omega))⟩, rfl, rfl, trivial⟩, rfl, rfl, rfl⟩
        · omega
        · omega
      · try rw [h2]
        try simp only [decide_eq_true_eq, decide_eq_false_iff_not, beq_iff_eq, bne_iff_ne, ne_eq, Bool.not_eq_true', Bool.not_eq_false', beq_eq_false_iff_ne, bne_eq_false_iff_eq, Bool.not_eq_true, Bool.not_eq_false, Int.not_lt, Int.not_le, gt_iff_lt, ge_iff_le, Bool.and_eq_true, Bool.and_eq_false_iff, Bool.or_eq_true, Bool.or_eq_false_iff] at h2
        have e : i = xs.length := (by omega)
        subst e
        refine W_exit (hK6 _ ?_)
        clear hK8 K8 hK6 K6
        refine W_seq (fun K12 hK12 => ?_)
        refine W_seq (fun K13 hK13 => ?_)
        refine W_region (WL_cons rfl (WX_q rfl rfl (q_assign rfl rfl) (?_)))
        refine WL_nil (hK13 _ ?_)
        clear hK13 K13
        refine W_block ?_
        refine W_loopK [0, 4] [] (fun (j : Nat) => [(7, .v (.int .i64 (j : Int)))]) (fun (j : Nat) => [(0, some (.row 3 1 ((over (shO xs) (pre (isG xs xs.length) 8) j).map encI)))]) (fun (j : Nat) => j ≤ 8) (fun (j : Nat) => 8 - j) 0 rfl rfl ?_ ?_ ?_ ?_
        · omega
        · exact ⟨⟨_, rfl, by (first | rfl | (simp; done) | (simp; omega))⟩, rfl, trivial⟩
        · exact ⟨⟨_, rfl, by (rw [over_zero])⟩, rfl, rfl, trivial⟩
        · intro j hj
          have hol := over_len (g := shO xs) (xs := pre (isG xs xs.length) 8) (i := j) (by rw [pre_len]; exact hj)
          rw [pre_len] at hol
          simp only [List.cons_append, List.nil_append]
          refine W_seq (fun K14 hK14 => ?_)
          refine W_seq (fun K15 hK15 => ?_)
          refine W_region (WL_cons rfl (WX_q rfl rfl (q_move rfl rfl) (WL_cons rfl (WX_q rfl rfl (q_move rfl rfl) (WL_cons rfl (?_))))))
          first | refine WX_q rfl rfl (q_len' G rfl rfl rfl rfl (List.length_map _)) ?_ | refine WX_q rfl rfl (q_len' G rfl rfl rfl rfl (by rw [List.length_map, over_len (by rw [pre_len]; omega), pre_len])) ?_ | refine WX_q rfl rfl (q_len G rfl rfl rfl rfl) ?_
          refine WL_cons rfl (WX_q rfl rfl (q_cmp rfl rfl rfl rfl) (?_))
          refine WL_nil (hK15 _ ?_)
          clear hK15 K15
          refine W_cond rfl (fun h3 => ?_) (fun h3 => ?_)
          · try rw [h3]
            try simp only [decide_eq_true_eq, decide_eq_false_iff_not, beq_iff_eq, bne_iff_ne, ne_eq, Bool.not_eq_true', Bool.not_eq_false', beq_eq_false_iff_ne, bne_eq_false_iff_eq, Bool.not_eq_true, Bool.not_eq_false, Int.not_lt, Int.not_le, gt_iff_lt, ge_iff_le, Bool.and_eq_true, Bool.and_eq_false_iff, Bool.or_eq_true, Bool.or_eq_false_iff] at h3
            have hpj : (pre (isG xs xs.length) 8).getD j default = isG xs xs.length j := pre_getD (by omega)
            have hsg := isG_le (xs := xs) (i := xs.length) (q := j)
            refine W_skip (hK14 _ ?_)
            clear hK14 K14
            refine W_seq (fun K16 hK16 => ?_)
            refine W_block ?_
            refine W_region (WL_cons rfl (WX_q rfl rfl (q_move rfl rfl) (WL_cons rfl (WX_q rfl rfl (q_move rfl rfl) (WL_cons rfl (WX_q rfl rfl (q_move rfl rfl) (WL_cons rfl (WX_q rfl rfl (q_move rfl rfl) (WL_cons rfl (?_))))))))))
            first | refine WX_q rfl rfl (q_index_own G rfl rfl rfl rfl rfl (by omega) (by rw [List.length_map, pre_len]; omega)) ?_ | refine WX_q rfl rfl (q_index_own G rfl rfl rfl rfl rfl (by omega) (by rw [List.length_map, over_len (by rw [pre_len]; omega), pre_len]; omega)) ?_
            refine WL_cons rfl (?_)
            first | refine WX_q rfl rfl (q_load_rpt G rfl rfl rfl rfl rfl (pre_get (by omega)) rfl) ?_ | refine WX_q rfl rfl (q_load_rpt G rfl rfl rfl rfl rfl (over_get (by rw [pre_len]; omega)) rfl) ?_
            refine WL_cons rfl (?_)
            first | refine WX_q rfl rfl (q_arith rfl rfl rfl rfl (by omega) (by omega)) ?_ | refine WX_q rfl rfl (q_wrap rfl rfl rfl rfl) ?_
            refine WL_cons rfl (WX_q rfl rfl (q_move rfl rfl) (WL_cons rfl (?_)))
            first | refine WX_q rfl rfl (q_len' G rfl rfl rfl rfl (List.length_map _)) ?_ | refine WX_q rfl rfl (q_len' G rfl rfl rfl rfl (by rw [List.length_map, over_len (by rw [pre_len]; omega), pre_len])) ?_ | refine WX_q rfl rfl (q_len G rfl rfl rfl rfl) ?_
            refine WL_cons rfl (?_)
            first | refine WX_q rfl rfl (q_quo_pos rfl rfl rfl (by omega) (by omega) (by omega)) ?_ | refine WX_q rfl rfl (q_quo rfl rfl rfl (by omega)) ?_
            refine WL_cons rfl (?_)
            first | refine WX_q rfl rfl (q_index_own G rfl rfl rfl rfl rfl (by omega) (by rw [List.length_map, pre_len]; omega)) ?_ | refine WX_q rfl rfl (q_index_own G rfl rfl rfl rfl rfl (by omega) (by rw [List.length_map, over_len (by rw [pre_len]; omega), pre_len]; omega)) ?_
            refine WL_cons rfl (?_)
            first | refine WX_store_row G rfl rfl rfl rfl rfl (pre_get (by omega)) rfl rfl rfl rfl rfl (Nat.le_of_ble_eq_true rfl) rfl ?_ | refine WX_store_row G rfl rfl rfl rfl rfl (over_get (by rw [pre_len]; omega)) rfl rfl rfl rfl rfl (Nat.le_of_ble_eq_true rfl) rfl ?_
            refine WL_nil (hK16 _ ?_)
            clear hK16 K16
            refine W_region (WL_cons rfl (WX_q rfl rfl (q_move rfl rfl) (WL_cons rfl (?_))))
            first | refine WX_q rfl rfl (q_arith rfl rfl rfl rfl (by omega) (by omega)) ?_ | refine WX_q rfl rfl (q_wrap rfl rfl rfl rfl) ?_
            refine WL_cons rfl (WX_q rfl rfl (q_assign rfl rfl) (?_))
            refine WL_nil ⟨(j + 1), ?_, ?_, ⟨⟨_, rfl, by rfl⟩, rfl, trivial⟩, ⟨⟨_, rfl, by exact congrArg (Row.row _ _) (over_set (g := shO xs) (f := encI) (by rw [pre_len]; omega))⟩, rfl, rfl, trivial⟩, rfl, rfl, rfl⟩
            · omega
            · omega
          · try rw [h3]
            try simp only [decide_eq_true_eq, decide_eq_false_iff_not, beq_iff_eq, bne_iff_ne, ne_eq, Bool.not_eq_true', Bool.not_eq_false', beq_eq_false_iff_ne, bne_eq_false_iff_eq, Bool.not_eq_true, Bool.not_eq_false, Int.not_lt, Int.not_le, gt_iff_lt, ge_iff_le, Bool.and_eq_true, Bool.and_eq_false_iff, Bool.or_eq_true, Bool.or_eq_false_iff] at h3
            refine W_exit (hK12 _ ?_)
            clear hK14 K14 hK12 K12
            refine W_seq (fun K17 hK17 => ?_)
            refine W_region (WL_cons rfl (WX_q rfl rfl (q_move rfl rfl) (WL_cons rfl (WX_q rfl rfl (q_assign rfl rfl) (WL_cons rfl (WX_q rfl rfl (q_assign rfl rfl) (?_)))))))
            refine WL_nil (hK17 _ ?_)
            clear hK17 K17
            refine W_ret (fin_many rfl rfl rfl rfl (rcs_cons (rc_own rfl ?_) (rcs_cons (rc_v ?_) rcs_nil)))
            all_goals (first | rfl | (simp_all [shT]; done) | (have e : j = 8 := (by omega); subst e; simp only [shT, h1, if_true]; rw [← shO_eq]; exact congrArg (List.map encI) ((over_fin' (g := shO xs) (xs := pre (isG xs xs.length) 8) (by rw [pre_len])).trans (by rw [pre_len]))))

end Go.Proofs.Ytbepplocdmnchaa
