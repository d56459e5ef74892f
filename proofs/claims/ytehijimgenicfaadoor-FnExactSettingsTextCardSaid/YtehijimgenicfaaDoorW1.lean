/- Walks through functions of the program, one contract each (written by gen.py). -/
import Derived.Test.YtehijimgenicfaaDoorS
import Derived.Test.YtehijimgenicfaaDoorM
set_option maxRecDepth 20000
set_option linter.unusedVariables false
set_option linter.unusedSimpArgs false
namespace Go.Proofs.YtehijimgenicfaaDoor
open Go Go.Rf

theorem c_spec_l1Num_rec (n : Int) (h0 : -9223372036854775807 ≤ n) (h1 : n ≤ 9223372036854775807) (ih : ∀ k : Int, 0 ≤ k → (n < 0 ∨ k < n) → k ≤ 9223372036854775807 → Ctr Tryd.prog 53 [.v (.int .i64 k)] (.one (.v (.string (numT k))))) : Ctr Tryd.prog 53 [.v (.int .i64 n)] (.one (.v (.string (numT n)))) := by
  refine Ctr.of (n := 25) G Tryd.func53 rfl (by kernel_rfl) rfl rfl rfl (fun w0 => ?_)
  refine W_seq (fun K1 hK1 => ?_)
  refine W_region (WL_cons rfl (WX_q rfl rfl (q_assign rfl rfl) (?_)))
  refine WL_nil (hK1 _ ?_)
  clear hK1 K1
  refine W_seq (fun K2 hK2 => ?_)
  refine W_seq (fun K3 hK3 => ?_)
  refine W_region (WL_cons rfl (WX_q rfl rfl (q_move rfl rfl) (WL_cons rfl (WX_q rfl rfl (q_cmp rfl rfl rfl rfl) (?_)))))
  refine WL_nil (hK3 _ ?_)
  clear hK3 K3
  refine W_cond rfl (fun h1 => ?_) (fun h1 => ?_)
  · try rw [h1]
    try simp only [decide_eq_true_eq, decide_eq_false_iff_not, beq_iff_eq, bne_iff_ne, ne_eq, Bool.not_eq_true', Bool.not_eq_false', beq_eq_false_iff_ne, bne_eq_false_iff_eq, Bool.not_eq_true, Bool.not_eq_false, Int.not_lt, Int.not_le, gt_iff_lt, ge_iff_le, Bool.and_eq_true, Bool.and_eq_false_iff, Bool.or_eq_true, Bool.or_eq_false_iff] at h1
    refine W_seq (fun K4 hK4 => ?_)
    refine W_region (WL_cons rfl (WX_q rfl rfl (q_move rfl rfl) (WL_cons rfl (?_))))
    refine WX_q rfl rfl (q_neg rfl rfl (by omega) (by omega)) ?_
    refine WL_cons rfl (?_)
    refine WX_q rfl rfl (q_call rfl (ArgsOK.of rfl) (ih _ (by omega) (by omega) (by omega)) rfl) ?_
    refine WL_cons rfl (?_)
    refine WX_q rfl rfl (q_cat rfl rfl rfl (by first | (have hz := numT_size (n := -n) (by omega) (by omega); rw [size_lit]; simp only [List.size_toArray, List.length_cons, List.length_nil]; omega) | (have hz := numT_size (n := (k : Int) / 10) (by omega) (by omega); rw [ByteArray.size_extract]; simp only [size_lit, List.size_toArray, List.length_cons, List.length_nil]; omega))) ?_
    refine WL_cons rfl (WX_q rfl rfl (q_assign rfl rfl) (?_))
    refine WL_nil (hK4 _ ?_)
    clear hK4 K4
    refine W_ret (fin_one rfl (rc_v ?_))
    all_goals clear hK2 K2
    all_goals (first | (rw [numT_neg h1]; done) | (have e : ((k : Int) + 1).toNat = k + 1 := (by omega); rw [e]; exact congrArg Value.string ((digit_at (by omega)).trans (numT_small (by omega)).symm)) | (have e : ((k : Int) % 10).toNat = k % 10 := (by omega); have e2 : ((k : Int) % 10 + 1).toNat = k % 10 + 1 := (by omega); rw [e, e2, digit_at (by omega), numT_step (by omega)]; rfl))
  · try rw [h1]
    try simp only [decide_eq_true_eq, decide_eq_false_iff_not, beq_iff_eq, bne_iff_ne, ne_eq, Bool.not_eq_true', Bool.not_eq_false', beq_eq_false_iff_ne, bne_eq_false_iff_eq, Bool.not_eq_true, Bool.not_eq_false, Int.not_lt, Int.not_le, gt_iff_lt, ge_iff_le, Bool.and_eq_true, Bool.and_eq_false_iff, Bool.or_eq_true, Bool.or_eq_false_iff] at h1
    refine W_skip (hK2 _ ?_)
    clear hK2 K2
    refine W_seq (fun K5 hK5 => ?_)
    refine W_seq (fun K6 hK6 => ?_)
    refine W_region (WL_cons rfl (WX_q rfl rfl (q_move rfl rfl) (WL_cons rfl (WX_q rfl rfl (q_cmp rfl rfl rfl rfl) (?_)))))
    refine WL_nil (hK6 _ ?_)
    clear hK6 K6
    refine W_cond rfl (fun h2 => ?_) (fun h2 => ?_)
    · try rw [h2]
      try simp only [decide_eq_true_eq, decide_eq_false_iff_not, beq_iff_eq, bne_iff_ne, ne_eq, Bool.not_eq_true', Bool.not_eq_false', beq_eq_false_iff_ne, bne_eq_false_iff_eq, Bool.not_eq_true, Bool.not_eq_false, Int.not_lt, Int.not_le, gt_iff_lt, ge_iff_le, Bool.and_eq_true, Bool.and_eq_false_iff, Bool.or_eq_true, Bool.or_eq_false_iff] at h2
      obtain ⟨k, rfl⟩ : ∃ k : Nat, n = (k : Int) := ⟨n.toNat, by omega⟩
      refine W_seq (fun K7 hK7 => ?_)
      refine W_region (WL_cons rfl (WX_q rfl rfl (q_move rfl rfl) (WL_cons rfl (WX_q rfl rfl (q_move rfl rfl) (WL_cons rfl (?_))))))
      first | refine WX_q rfl rfl (q_arith rfl rfl rfl rfl (by omega) (by omega)) ?_ | refine WX_q rfl rfl (q_wrap rfl rfl rfl rfl) ?_
      refine WL_cons rfl (?_)
      refine WX_q rfl rfl (q_cut_str G rfl rfl rfl rfl rfl (by omega) (by omega) (by rw [size_lit]; simp only [List.size_toArray, List.length_cons, List.length_nil]; omega)) ?_
      refine WL_cons rfl (WX_q rfl rfl (q_assign rfl rfl) (?_))
      refine WL_nil (hK7 _ ?_)
      clear hK7 K7
      refine W_ret (fin_one rfl (rc_v ?_))
      all_goals clear hK5 K5
      all_goals (first | (rw [numT_neg h1]; done) | (have e : ((k : Int) + 1).toNat = k + 1 := (by omega); rw [e]; exact congrArg Value.string ((digit_at (by omega)).trans (numT_small (by omega)).symm)) | (have e : ((k : Int) % 10).toNat = k % 10 := (by omega); have e2 : ((k : Int) % 10 + 1).toNat = k % 10 + 1 := (by omega); rw [e, e2, digit_at (by omega), numT_step (by omega)]; rfl))
    · try rw [h2]
      try simp only [decide_eq_true_eq, decide_eq_false_iff_not, beq_iff_eq, bne_iff_ne, ne_eq, Bool.not_eq_true', Bool.not_eq_false', beq_eq_false_iff_ne, bne_eq_false_iff_eq, Bool.not_eq_true, Bool.not_eq_false, Int.not_lt, Int.not_le, gt_iff_lt, ge_iff_le, Bool.and_eq_true, Bool.and_eq_false_iff, Bool.or_eq_true, Bool.or_eq_false_iff] at h2
      obtain ⟨k, rfl⟩ : ∃ k : Nat, n = (k : Int) := ⟨n.toNat, by omega⟩
      refine W_skip (hK5 _ ?_)
      clear hK5 K5
      refine W_seq (fun K8 hK8 => ?_)
      refine W_draws mixed (by kernel_rfl) (QL_cons rfl (QX_q rfl rfl (q_move rfl rfl) (QL_cons rfl (?_))))
      first | refine QX_q rfl rfl (q_quo_pos rfl rfl rfl (by omega) (by omega) (by omega)) ?_ | refine QX_q rfl rfl (q_quo rfl rfl rfl (by omega)) ?_
      refine QL_cons rfl (?_)
      refine QX_q rfl rfl (q_call rfl (ArgsOK.of rfl) (ih _ (by omega) (by omega) (by omega)) rfl) ?_
      refine QL_cons rfl (QX_q rfl rfl (q_move rfl rfl) (QL_cons rfl (?_)))
      first | refine QX_q rfl rfl (q_rem_pos rfl rfl rfl (by omega) (by omega)) ?_ | refine QX_q rfl rfl (q_rem rfl rfl rfl (by omega)) ?_
      refine QL_cons rfl (QX_q rfl rfl (q_move rfl rfl) (QL_cons rfl (?_)))
      first | refine QX_q rfl rfl (q_rem_pos rfl rfl rfl (by omega) (by omega)) ?_ | refine QX_q rfl rfl (q_rem rfl rfl rfl (by omega)) ?_
      refine QL_cons rfl (?_)
      first | refine QX_q rfl rfl (q_arith rfl rfl rfl rfl (by omega) (by omega)) ?_ | refine QX_q rfl rfl (q_wrap rfl rfl rfl rfl) ?_
      refine QL_cons rfl (?_)
      refine QX_q rfl rfl (q_cut_str G rfl rfl rfl rfl rfl (by omega) (by omega) (by rw [size_lit]; simp only [List.size_toArray, List.length_cons, List.length_nil]; omega)) ?_
      refine QL_cons rfl (?_)
      refine QX_q rfl rfl (q_cat rfl rfl rfl (by first | (have hz := numT_size (n := -n) (by omega) (by omega); rw [size_lit]; simp only [List.size_toArray, List.length_cons, List.length_nil]; omega) | (have hz := numT_size (n := (k : Int) / 10) (by omega) (by omega); rw [ByteArray.size_extract]; simp only [size_lit, List.size_toArray, List.length_cons, List.length_nil]; omega))) ?_
      refine QL_cons rfl (QX_q rfl rfl (q_assign rfl rfl) (?_))
      refine QL_nil (hK8 _ ?_)
      clear hK8 K8
      refine W_ret (fin_one rfl (rc_v ?_))
      all_goals (first | (rw [numT_neg h1]; done) | (have e : ((k : Int) + 1).toNat = k + 1 := (by omega); rw [e]; exact congrArg Value.string ((digit_at (by omega)).trans (numT_small (by omega)).symm)) | (have e : ((k : Int) % 10).toNat = k % 10 := (by omega); have e2 : ((k : Int) % 10 + 1).toNat = k % 10 + 1 := (by omega); rw [e, e2, digit_at (by omega), numT_step (by omega)]; rfl))

end Go.Proofs.YtehijimgenicfaaDoor
