/- Walks through functions of the program, one contract each (written by gen.py). -/
import Derived.Test.YtbepplocdmnchaaW10
set_option maxRecDepth 20000
set_option linter.unusedVariables false
set_option linter.unusedSimpArgs false
namespace Go.Proofs.Ytbepplocdmnchaa
open Go Go.Rf

theorem c_impl_IrqShares (xs : List Sample) (hn : xs.length ≤ 9223372036854775807) : Ctr Try.prog 42 [.lst 3 (xs.map encSc)] (.many [.fr 3 1 ((shT xs).map encI), .v (.bool (someS xs))]) := by
  refine Ctr.of (n := 25) G Try.func42 rfl (by kernel_rfl) rfl rfl rfl (fun w0 => ?_)
  refine W_seq (fun K1 hK1 => ?_)
  refine W_region (WL_cons rfl (WX_q rfl rfl (q_assign rfl rfl) (WL_cons rfl (WX_q rfl rfl (q_assign rfl rfl) (?_)))))
  refine WL_nil (hK1 _ ?_)
  clear hK1 K1
  refine W_seq (fun K2 hK2 => ?_)
  refine W_seq (fun K3 hK3 => ?_)
  refine W_region (WL_cons rfl (WX_q rfl rfl (q_move rfl rfl) (WL_cons rfl (?_))))
  refine WX_q rfl rfl (q_call rfl (ArgsOK.of rfl) (c_impl_areSome _ (by first | assumption | omega)) rfl) ?_
  refine WL_cons rfl (WX_q rfl rfl (q_not rfl rfl) (?_))
  refine WL_nil (hK3 _ ?_)
  clear hK3 K3
  refine W_cond rfl (fun h1 => ?_) (fun h1 => ?_)
  · try rw [h1]
    try simp only [decide_eq_true_eq, decide_eq_false_iff_not, beq_iff_eq, bne_iff_ne, ne_eq, Bool.not_eq_true', Bool.not_eq_false', beq_eq_false_iff_ne, bne_eq_false_iff_eq, Bool.not_eq_true, Bool.not_eq_false, Int.not_lt, Int.not_le, gt_iff_lt, ge_iff_le, Bool.and_eq_true, Bool.and_eq_false_iff, Bool.or_eq_true, Bool.or_eq_false_iff] at h1
    refine W_seq (fun K4 hK4 => ?_)
    refine W_region (WL_cons rfl (WX_q rfl rfl (q_assign rfl rfl) (WL_cons rfl (WX_q rfl rfl (q_assign rfl rfl) (?_)))))
    refine WL_nil (hK4 _ ?_)
    clear hK4 K4
    refine W_ret (fin_many rfl rfl rfl rfl (rcs_cons (rc_nil ?_) (rcs_cons (rc_v ?_) rcs_nil)))
    all_goals clear hK2 K2
    all_goals (first | rfl | (simp_all [shT]; done))
  · try rw [h1]
    try simp only [decide_eq_true_eq, decide_eq_false_iff_not, beq_iff_eq, bne_iff_ne, ne_eq, Bool.not_eq_true', Bool.not_eq_false', beq_eq_false_iff_ne, bne_eq_false_iff_eq, Bool.not_eq_true, Bool.not_eq_false, Int.not_lt, Int.not_le, gt_iff_lt, ge_iff_le, Bool.and_eq_true, Bool.and_eq_false_iff, Bool.or_eq_true, Bool.or_eq_false_iff] at h1
    have hok := goodS_ok (someS_good h1)
    have hpos := someS_pos h1
    refine W_skip (hK2 _ ?_)
    clear hK2 K2
    refine W_seq (fun K5 hK5 => ?_)
    refine W_region (WL_cons rfl (WX_lit G 1 rfl rfl rfl rfl rfl rfl rfl rfl (WL_cons rfl (WX_q rfl rfl (q_assign rfl rfl) (?_)))))
    refine WL_nil (hK5 _ ?_)
    clear hK5 K5
    refine W_seq (fun K6 hK6 => ?_)
    refine W_seq (fun K7 hK7 => ?_)
    refine W_region (WL_cons rfl (WX_q rfl rfl (q_move rfl rfl) (?_)))
    refine WL_nil (hK7 _ ?_)
    clear hK7 K7
    refine W_block ?_
    refine W_loopK [0] [] (fun (q : Nat) => [(4, .own 0), (10, .v (.int .i64 (q : Int)))]) (fun (q : Nat) => [(0, some (.row 3 1 ((pre (shG xs) q).map encI)))]) (fun (q : Nat) => q ≤ 8) (fun (q : Nat) => 8 - q) 0 rfl rfl ?_ ?_ ?_ ?_
    · omega
    · exact ⟨⟨_, rfl, by (first | rfl | (simp; done) | (simp; omega))⟩, rfl, ⟨⟨_, rfl, by (first | rfl | (simp; done) | (simp; omega))⟩, rfl, trivial⟩⟩
    · exact ⟨⟨_, rfl, by rfl⟩, rfl, rfl, trivial⟩
    · intro q hq
      simp only [List.cons_append, List.nil_append]
      refine W_seq (fun K8 hK8 => ?_)
      refine W_region (WL_cons rfl (WX_q rfl rfl (q_cmp rfl rfl rfl rfl) (?_)))
      refine WL_nil (hK8 _ ?_)
      clear hK8 K8
      refine W_seq (fun K9 hK9 => ?_)
      refine W_cond rfl (fun h2 => ?_) (fun h2 => ?_)
      · try rw [h2]
        try simp only [decide_eq_true_eq, decide_eq_false_iff_not, beq_iff_eq, bne_iff_ne, ne_eq, Bool.not_eq_true', Bool.not_eq_false', beq_eq_false_iff_ne, bne_eq_false_iff_eq, Bool.not_eq_true, Bool.not_eq_false, Int.not_lt, Int.not_le, gt_iff_lt, ge_iff_le, Bool.and_eq_true, Bool.and_eq_false_iff, Bool.or_eq_true, Bool.or_eq_false_iff] at h2
        have hsg := isG_le (xs := xs) (i := xs.length) (q := q)
        refine W_skip (hK9 _ ?_)
        clear hK9 K9
        refine W_seq (fun K10 hK10 => ?_)
        refine W_block ?_
        refine W_seq (fun K11 hK11 => ?_)
        refine W_region (WL_cons rfl (WX_q rfl rfl (q_move rfl rfl) (WL_cons rfl (WX_alloc_f G 2 rfl rfl rfl rfl rfl (WL_cons rfl (WX_store G rfl rfl rfl rfl rfl rfl rfl rfl rfl rfl rfl (?_)))))))
        refine WL_nil (hK11 _ ?_)
        clear hK11 K11
        refine W_region (WL_cons rfl (WX_q rfl rfl (q_move rfl rfl) (WL_cons rfl (WX_q rfl rfl (q_move rfl rfl) (WL_cons rfl (WX_q rfl rfl (q_func rfl rfl) (WL_cons rfl (?_))))))))
        refine WX_q rfl rfl (q_call rfl (ArgsOK.of rfl) (Ctr.int (c_impl_countSamples xs 76 [.int .i64 (q : Int)] (fun x => decide (x.q = (q : Int))) (by omega) (fun k hk => c_impl_IrqShares_1 _ _)) (rfl : _ = isG xs xs.length q)) rfl) ?_
        refine WL_cons rfl (?_)
        first | refine WX_q rfl rfl (q_arith rfl rfl rfl rfl (by omega) (by omega)) ?_ | refine WX_q rfl rfl (q_wrap rfl rfl rfl rfl) ?_
        refine WL_cons rfl (WX_q rfl rfl (q_move rfl rfl) (WL_cons rfl (?_)))
        first | refine WX_q rfl rfl (q_len' G rfl rfl rfl rfl (List.length_map _)) ?_ | refine WX_q rfl rfl (q_len G rfl rfl rfl rfl) ?_
        refine WL_cons rfl (?_)
        first | refine WX_q rfl rfl (q_quo_pos rfl rfl rfl (by omega) (by omega) (by omega)) ?_ | refine WX_q rfl rfl (q_quo rfl rfl rfl (by omega)) ?_
        refine WL_cons rfl (WX_lit G 3 rfl rfl rfl rfl rfl rfl rfl rfl (WL_cons rfl (?_)))
        refine WX_append G np rfl rfl rfl rfl rfl rfl rfl rfl rfl (by simp [pre_len]; omega) rfl rfl ?_
        refine WL_cons rfl (WX_q rfl rfl (q_assign rfl rfl) (?_))
        refine WL_nil (hK10 _ ?_)
        clear hK10 K10
        refine W_region (WL_cons rfl (?_))
        first | refine WX_q rfl rfl (q_arith rfl rfl rfl rfl (by omega) (by omega)) ?_ | refine WX_q rfl rfl (q_wrap rfl rfl rfl rfl) ?_
        refine WL_cons rfl (WX_q rfl rfl (q_move rfl rfl) (?_))
        refine WL_nil ⟨(q + 1), ?_, ?_, ⟨⟨_, rfl, by rfl⟩, rfl, ⟨⟨_, rfl, by rfl⟩, rfl, trivial⟩⟩, ⟨⟨_, rfl, by exact congrArg (Row.row _ _) (pre_snoc (g := shG xs) (f := encI) (i := q))⟩, rfl, rfl, trivial⟩, rfl, rfl, rfl⟩
        · omega
        · omega
      · try rw [h2]
        try simp only [decide_eq_true_eq, decide_eq_false_iff_not, beq_iff_eq, bne_iff_ne, ne_eq, Bool.not_eq_true', Bool.not_eq_false', beq_eq_false_iff_ne, bne_eq_false_iff_eq, Bool.not_eq_true, Bool.not_eq_false, Int.not_lt, Int.not_le, gt_iff_lt, ge_iff_le, Bool.and_eq_true, Bool.and_eq_false_iff, Bool.or_eq_true, Bool.or_eq_false_iff] at h2
        have e : q = 8 := (by omega)
        subst e
        refine W_exit (hK6 _ ?_)
        clear hK9 K9 hK6 K6
        refine W_seq (fun K12 hK12 => ?_)
        refine W_region (WL_cons rfl (WX_q rfl rfl (q_move rfl rfl) (WL_cons rfl (WX_q rfl rfl (q_assign rfl rfl) (WL_cons rfl (WX_q rfl rfl (q_assign rfl rfl) (?_)))))))
        refine WL_nil (hK12 _ ?_)
        clear hK12 K12
        refine W_ret (fin_many rfl rfl rfl rfl (rcs_cons (rc_own rfl ?_) (rcs_cons (rc_v ?_) rcs_nil)))
        all_goals (first | rfl | (simp_all [shT]; done))

end Go.Proofs.Ytbepplocdmnchaa
