/- Walks through functions of the program, one contract each (written by gen.py). -/
import Derived.Test.YtbepplocdmnchaaW2
import Derived.Test.YtbepplocdmnchaaW16
set_option maxRecDepth 20000
set_option linter.unusedVariables false
set_option linter.unusedSimpArgs false
namespace Go.Proofs.Ytbepplocdmnchaa
open Go Go.Rf

theorem c_impl_WithoutIrq_1 (x : Sample) (q : Int) : Ctr Try.prog 74 [.v (encS x), .ept [.int .i64 q]] (.one (.v (.bool (x.q == q)))) := by
  refine Ctr.of (n := 8) G Try.func74 rfl (by kernel_rfl) rfl rfl rfl (fun w0 => ?_)
  refine W_seq (fun K1 hK1 => ?_)
  refine W_region (WL_cons rfl (WX_box 1 rfl rfl rfl rfl rfl rfl rfl (WL_cons rfl (WX_q rfl rfl (q_assign rfl rfl) (?_)))))
  refine WL_nil (hK1 _ ?_)
  clear hK1 K1
  refine W_seq (fun K2 hK2 => ?_)
  refine W_region (WL_cons rfl (WX_q rfl rfl (q_field_ptr G rfl rfl rfl rfl) (WL_cons rfl (WX_q rfl rfl (q_load_box G rfl rfl rfl rfl rfl rfl rfl) (WL_cons rfl (WX_q rfl rfl (q_load_ept G rfl rfl rfl rfl rfl) (WL_cons rfl (WX_q rfl rfl (q_cmp rfl rfl rfl rfl) (WL_cons rfl (WX_q rfl rfl (q_assign rfl rfl) (?_)))))))))))
  refine WL_nil (hK2 _ ?_)
  clear hK2 K2
  refine W_ret (fin_one rfl (rc_v ?_))
  all_goals (rfl)

theorem c_spec_WithoutIrq (xs : List Sample) (q : Int) (hn : xs.length ≤ 1048576) : Ctr Try.prog 32 [.lst 3 (xs.map encSc), .v (.int .i64 q)] (.many [.fr 48 3 ((woT xs q).map encSc), .v (.bool (someS xs && inside q 0 7))]) := by
  refine Ctr.of (n := 39) G Try.func32 rfl (by kernel_rfl) rfl rfl rfl (fun w0 => ?_)
  refine W_seq (fun K1 hK1 => ?_)
  refine W_region (WL_cons rfl (WX_q rfl rfl (q_assign rfl rfl) (WL_cons rfl (WX_q rfl rfl (q_assign rfl rfl) (?_)))))
  refine WL_nil (hK1 _ ?_)
  clear hK1 K1
  refine W_seq (fun K2 hK2 => ?_)
  refine W_region (WL_cons rfl (WX_lit G 1 rfl rfl rfl rfl rfl rfl rfl rfl (WL_cons rfl (WX_q rfl rfl (q_assign rfl rfl) (?_)))))
  refine WL_nil (hK2 _ ?_)
  clear hK2 K2
  refine W_seq (fun K3 hK3 => ?_)
  refine W_seq (fun K4 hK4 => ?_)
  refine W_region (WL_cons rfl (WX_q rfl rfl (q_move rfl rfl) (WL_cons rfl (?_))))
  refine WX_q rfl rfl (q_call rfl (ArgsOK.of rfl) (c_spec_l26Some _ (by first | assumption | omega)) rfl) ?_
  refine WL_cons rfl (WX_q rfl rfl (q_not rfl rfl) (WL_cons rfl (WX_q rfl rfl (q_move rfl rfl) (WL_part rfl rfl rfl (fun h1 => ?_) (fun h1 => ?_)))))
  · try rw [h1]
    try simp only [decide_eq_true_eq, decide_eq_false_iff_not, beq_iff_eq, bne_iff_ne, ne_eq, Bool.not_eq_true', Bool.not_eq_false', beq_eq_false_iff_ne, bne_eq_false_iff_eq, Bool.not_eq_true, Bool.not_eq_false, Int.not_lt, Int.not_le, gt_iff_lt, ge_iff_le, Bool.and_eq_true, Bool.and_eq_false_iff, Bool.or_eq_true, Bool.or_eq_false_iff] at h1
    refine WL_skip rfl rfl rfl rfl rfl rfl (WL_skip rfl rfl rfl rfl rfl rfl (WL_skip rfl rfl rfl rfl rfl rfl (WL_cons rfl (WX_q rfl rfl (q_pick_t rfl rfl rfl) (?_)))))
    refine WL_nil (hK4 _ ?_)
    clear hK4 K4
    refine W_true rfl ?_
    refine W_seq (fun K5 hK5 => ?_)
    refine W_region (WL_cons rfl (WX_q rfl rfl (q_move rfl rfl) (WL_cons rfl (WX_q rfl rfl (q_assign rfl rfl) (WL_cons rfl (WX_q rfl rfl (q_assign rfl rfl) (?_)))))))
    refine WL_nil (hK5 _ ?_)
    clear hK5 K5
    refine W_ret (fin_many rfl rfl rfl rfl (rcs_cons (rc_own rfl ?_) (rcs_cons (rc_v ?_) rcs_nil)))
    all_goals clear hK3 K3
    all_goals (first | rfl | (simp_all [woT]; done) | (have e := keep_all (p := (fun x : Sample => x.q == q)) (xs := xs) (j := i) (by omega); simp_all [woT]; done))
  · try rw [h1]
    try simp only [decide_eq_true_eq, decide_eq_false_iff_not, beq_iff_eq, bne_iff_ne, ne_eq, Bool.not_eq_true', Bool.not_eq_false', beq_eq_false_iff_ne, bne_eq_false_iff_eq, Bool.not_eq_true, Bool.not_eq_false, Int.not_lt, Int.not_le, gt_iff_lt, ge_iff_le, Bool.and_eq_true, Bool.and_eq_false_iff, Bool.or_eq_true, Bool.or_eq_false_iff] at h1
    refine WL_run rfl rfl rfl (WX_q rfl rfl (q_move rfl rfl) (WL_run rfl rfl rfl (?_)))
    refine WX_q rfl rfl (q_call rfl (ArgsOK.of rfl) (c_spec_l6Irq _) rfl) ?_
    refine WL_run rfl rfl rfl (WX_q rfl rfl (q_not rfl rfl) (WL_cons rfl (WX_q rfl rfl (q_pick_f rfl rfl rfl) (?_))))
    refine WL_nil (hK4 _ ?_)
    clear hK4 K4
    refine W_cond rfl (fun h2 => ?_) (fun h2 => ?_)
    · try rw [h2]
      try simp only [decide_eq_true_eq, decide_eq_false_iff_not, beq_iff_eq, bne_iff_ne, ne_eq, Bool.not_eq_true', Bool.not_eq_false', beq_eq_false_iff_ne, bne_eq_false_iff_eq, Bool.not_eq_true, Bool.not_eq_false, Int.not_lt, Int.not_le, gt_iff_lt, ge_iff_le, Bool.and_eq_true, Bool.and_eq_false_iff, Bool.or_eq_true, Bool.or_eq_false_iff] at h2
      refine W_seq (fun K6 hK6 => ?_)
      refine W_region (WL_cons rfl (WX_q rfl rfl (q_move rfl rfl) (WL_cons rfl (WX_q rfl rfl (q_assign rfl rfl) (WL_cons rfl (WX_q rfl rfl (q_assign rfl rfl) (?_)))))))
      refine WL_nil (hK6 _ ?_)
      clear hK6 K6
      refine W_ret (fin_many rfl rfl rfl rfl (rcs_cons (rc_own rfl ?_) (rcs_cons (rc_v ?_) rcs_nil)))
      all_goals clear hK3 K3
      all_goals (first | rfl | (simp_all [woT]; done) | (have e := keep_all (p := (fun x : Sample => x.q == q)) (xs := xs) (j := i) (by omega); simp_all [woT]; done))
    · try rw [h2]
      try simp only [decide_eq_true_eq, decide_eq_false_iff_not, beq_iff_eq, bne_iff_ne, ne_eq, Bool.not_eq_true', Bool.not_eq_false', beq_eq_false_iff_ne, bne_eq_false_iff_eq, Bool.not_eq_true, Bool.not_eq_false, Int.not_lt, Int.not_le, gt_iff_lt, ge_iff_le, Bool.and_eq_true, Bool.and_eq_false_iff, Bool.or_eq_true, Bool.or_eq_false_iff] at h2
      refine W_skip (hK3 _ ?_)
      clear hK3 K3
      refine W_seq (fun K7 hK7 => ?_)
      refine W_seq (fun K8 hK8 => ?_)
      refine W_region (WL_cons rfl (WX_q rfl rfl (q_assign rfl rfl) (?_)))
      refine WL_nil (hK8 _ ?_)
      clear hK8 K8
      refine W_block ?_
      refine W_loopK [0, 1] [] (fun (i : Nat) => [(6, .own 0), (7, .v (.int .i64 (i : Int)))]) (fun (i : Nat) => [(0, some (.row 48 3 ((keepL (fun x : Sample => x.q == q) xs i).map encSc)))]) (fun (i : Nat) => i ≤ xs.length) (fun (i : Nat) => xs.length - i) 0 rfl rfl ?_ ?_ ?_ ?_
      · exact Nat.zero_le _
      · exact ⟨⟨_, rfl, by (first | rfl | (simp; done) | (simp; omega))⟩, rfl, ⟨⟨_, rfl, by (first | rfl | (simp; done) | (simp; omega))⟩, rfl, trivial⟩⟩
      · exact ⟨⟨_, rfl, by rfl⟩, rfl, rfl, trivial⟩
      · intro i hinv
        have hi : i ≤ xs.length := hinv
        have hk2 := keepL_le (p := (fun x : Sample => x.q == q)) (xs := xs) (j := i)
        simp only [List.cons_append, List.nil_append]
        refine W_seq (fun K9 hK9 => ?_)
        refine W_seq (fun K10 hK10 => ?_)
        refine W_region (WL_cons rfl (WX_q rfl rfl (q_move rfl rfl) (WL_cons rfl (WX_q rfl rfl (q_move rfl rfl) (WL_cons rfl (?_))))))
        first | refine WX_q rfl rfl (q_len' G rfl rfl rfl rfl (List.length_map _)) ?_ | refine WX_q rfl rfl (q_len G rfl rfl rfl rfl) ?_
        refine WL_cons rfl (WX_q rfl rfl (q_cmp rfl rfl rfl rfl) (?_))
        refine WL_nil (hK10 _ ?_)
        clear hK10 K10
        refine W_cond rfl (fun h3 => ?_) (fun h3 => ?_)
        · try rw [h3]
          try simp only [decide_eq_true_eq, decide_eq_false_iff_not, beq_iff_eq, bne_iff_ne, ne_eq, Bool.not_eq_true', Bool.not_eq_false', beq_eq_false_iff_ne, bne_eq_false_iff_eq, Bool.not_eq_true, Bool.not_eq_false, Int.not_lt, Int.not_le, gt_iff_lt, ge_iff_le, Bool.and_eq_true, Bool.and_eq_false_iff, Bool.or_eq_true, Bool.or_eq_false_iff] at h3
          refine W_skip (hK9 _ ?_)
          clear hK9 K9
          refine W_seq (fun K11 hK11 => ?_)
          refine W_block ?_
          refine W_seq (fun K12 hK12 => ?_)
          refine W_region (WL_cons rfl (WX_q rfl rfl (q_move rfl rfl) (WL_cons rfl (WX_q rfl rfl (q_move rfl rfl) (WL_cons rfl (?_))))))
          refine WX_q rfl rfl (q_index_lst G rfl rfl rfl rfl (by omega) (getN (by omega))) ?_
          refine WL_cons rfl (WX_q rfl rfl (q_field_ept G rfl rfl rfl rfl) (WL_cons rfl (WX_q rfl rfl (q_load_ept G rfl rfl rfl rfl rfl) (WL_cons rfl (WX_q rfl rfl (q_move rfl rfl) (WL_cons rfl (WX_q rfl rfl (q_cmp rfl rfl rfl rfl) (?_))))))))
          refine WL_nil (hK12 _ ?_)
          clear hK12 K12
          refine W_cond rfl (fun h4 => ?_) (fun h4 => ?_)
          · try rw [h4]
            try simp only [decide_eq_true_eq, decide_eq_false_iff_not, beq_iff_eq, bne_iff_ne, ne_eq, Bool.not_eq_true', Bool.not_eq_false', beq_eq_false_iff_ne, bne_eq_false_iff_eq, Bool.not_eq_true, Bool.not_eq_false, Int.not_lt, Int.not_le, gt_iff_lt, ge_iff_le, Bool.and_eq_true, Bool.and_eq_false_iff, Bool.or_eq_true, Bool.or_eq_false_iff] at h4
            refine W_region (WL_cons rfl (WX_q rfl rfl (q_move rfl rfl) (WL_cons rfl (WX_q rfl rfl (q_move rfl rfl) (WL_cons rfl (WX_q rfl rfl (q_move rfl rfl) (WL_cons rfl (?_))))))))
            refine WX_q rfl rfl (q_index_lst G rfl rfl rfl rfl (by omega) (getN (by omega))) ?_
            refine WL_cons rfl (WX_q rfl rfl (q_load_ept_struct G rfl rfl rfl rfl) (WL_cons rfl (WX_lit G 2 rfl rfl rfl rfl rfl rfl rfl rfl (WL_cons rfl (?_)))))
            refine WX_append G np rfl rfl rfl rfl rfl rfl rfl rfl rfl (by simp; omega) rfl rfl ?_
            refine WL_cons rfl (WX_q rfl rfl (q_assign rfl rfl) (?_))
            refine WL_nil (hK11 _ ?_)
            clear hK11 K11
            refine W_region (WL_cons rfl (WX_q rfl rfl (q_move rfl rfl) (WL_cons rfl (?_))))
            first | refine WX_q rfl rfl (q_arith rfl rfl rfl rfl (by omega) (by omega)) ?_ | refine WX_q rfl rfl (q_wrap rfl rfl rfl rfl) ?_
            refine WL_cons rfl (WX_q rfl rfl (q_assign rfl rfl) (?_))
            refine WL_nil ⟨(i + 1), ?_, ?_, ⟨⟨_, rfl, by rfl⟩, rfl, ⟨⟨_, rfl, by rfl⟩, rfl, trivial⟩⟩, ⟨⟨_, rfl, by (first | exact congrArg (fun z => Row.row _ _ (List.map _ z)) (keep_t (p := (fun x : Sample => x.q == q)) (xs := xs) (j := i) (by omega) (by simpa using (by assumption))).symm | (refine congrArg (Row.row _ _) ?_; rw [keep_f (p := (fun x : Sample => x.q == q)) (xs := xs) (j := i) (by omega) (by simp only [beq_eq_false_iff_ne, ne_eq]; assumption), List.map_append]; rfl))⟩, rfl, rfl, trivial⟩, rfl, rfl, rfl⟩
            · omega
            · omega
          · try rw [h4]
            try simp only [decide_eq_true_eq, decide_eq_false_iff_not, beq_iff_eq, bne_iff_ne, ne_eq, Bool.not_eq_true', Bool.not_eq_false', beq_eq_false_iff_ne, bne_eq_false_iff_eq, Bool.not_eq_true, Bool.not_eq_false, Int.not_lt, Int.not_le, gt_iff_lt, ge_iff_le, Bool.and_eq_true, Bool.and_eq_false_iff, Bool.or_eq_true, Bool.or_eq_false_iff] at h4
            refine W_skip (hK11 _ ?_)
            clear hK11 K11
            refine W_region (WL_cons rfl (WX_q rfl rfl (q_move rfl rfl) (WL_cons rfl (?_))))
            first | refine WX_q rfl rfl (q_arith rfl rfl rfl rfl (by omega) (by omega)) ?_ | refine WX_q rfl rfl (q_wrap rfl rfl rfl rfl) ?_
            refine WL_cons rfl (WX_q rfl rfl (q_assign rfl rfl) (?_))
            refine WL_nil ⟨(i + 1), ?_, ?_, ⟨⟨_, rfl, by rfl⟩, rfl, ⟨⟨_, rfl, by rfl⟩, rfl, trivial⟩⟩, ⟨⟨_, rfl, by (first | exact congrArg (fun z => Row.row _ _ (List.map _ z)) (keep_t (p := (fun x : Sample => x.q == q)) (xs := xs) (j := i) (by omega) (by simpa using (by assumption))).symm | (refine congrArg (Row.row _ _) ?_; rw [keep_f (p := (fun x : Sample => x.q == q)) (xs := xs) (j := i) (by omega) (by simp only [beq_eq_false_iff_ne, ne_eq]; assumption), List.map_append]; rfl))⟩, rfl, rfl, trivial⟩, rfl, rfl, rfl⟩
            · omega
            · omega
        · try rw [h3]
          try simp only [decide_eq_true_eq, decide_eq_false_iff_not, beq_iff_eq, bne_iff_ne, ne_eq, Bool.not_eq_true', Bool.not_eq_false', beq_eq_false_iff_ne, bne_eq_false_iff_eq, Bool.not_eq_true, Bool.not_eq_false, Int.not_lt, Int.not_le, gt_iff_lt, ge_iff_le, Bool.and_eq_true, Bool.and_eq_false_iff, Bool.or_eq_true, Bool.or_eq_false_iff] at h3
          refine W_exit (hK7 _ ?_)
          clear hK9 K9 hK7 K7
          refine W_seq (fun K13 hK13 => ?_)
          refine W_region (WL_cons rfl (WX_q rfl rfl (q_move rfl rfl) (WL_cons rfl (WX_q rfl rfl (q_assign rfl rfl) (WL_cons rfl (WX_q rfl rfl (q_assign rfl rfl) (?_)))))))
          refine WL_nil (hK13 _ ?_)
          clear hK13 K13
          refine W_ret (fin_many rfl rfl rfl rfl (rcs_cons (rc_own rfl ?_) (rcs_cons (rc_v ?_) rcs_nil)))
          all_goals (first | rfl | (simp_all [woT]; done) | (have e := keep_all (p := (fun x : Sample => x.q == q)) (xs := xs) (j := i) (by omega); simp_all [woT]; done))

theorem c_impl_WithoutIrq (xs : List Sample) (q : Int) (hn : xs.length ≤ 1048576) : Ctr Try.prog 33 [.lst 3 (xs.map encSc), .v (.int .i64 q)] (.many [.fr 48 3 ((woT xs q).map encSc), .v (.bool (someS xs && inside q 0 7))]) := by
  refine Ctr.of (n := 19) G Try.func33 rfl (by kernel_rfl) rfl rfl rfl (fun w0 => ?_)
  refine W_seq (fun K1 hK1 => ?_)
  refine W_region (WL_cons rfl (WX_box 1 rfl rfl rfl rfl rfl rfl rfl (WL_cons rfl (WX_q rfl rfl (q_assign rfl rfl) (WL_cons rfl (WX_q rfl rfl (q_assign rfl rfl) (?_)))))))
  refine WL_nil (hK1 _ ?_)
  clear hK1 K1
  refine W_seq (fun K2 hK2 => ?_)
  refine W_seq (fun K3 hK3 => ?_)
  refine W_region (WL_cons rfl (WX_q rfl rfl (q_move rfl rfl) (WL_cons rfl (?_))))
  refine WX_q rfl rfl (q_call rfl (ArgsOK.of rfl) (c_impl_areSome _ (by first | assumption | omega)) rfl) ?_
  refine WL_cons rfl (WX_q rfl rfl (q_not rfl rfl) (WL_cons rfl (WX_q rfl rfl (q_move rfl rfl) (WL_part rfl rfl rfl (fun h1 => ?_) (fun h1 => ?_)))))
  · try rw [h1]
    try simp only [decide_eq_true_eq, decide_eq_false_iff_not, beq_iff_eq, bne_iff_ne, ne_eq, Bool.not_eq_true', Bool.not_eq_false', beq_eq_false_iff_ne, bne_eq_false_iff_eq, Bool.not_eq_true, Bool.not_eq_false, Int.not_lt, Int.not_le, gt_iff_lt, ge_iff_le, Bool.and_eq_true, Bool.and_eq_false_iff, Bool.or_eq_true, Bool.or_eq_false_iff] at h1
    refine WL_skip rfl rfl rfl rfl rfl rfl (WL_skip rfl rfl rfl rfl rfl rfl (WL_skip rfl rfl rfl rfl rfl rfl (WL_cons rfl (WX_q rfl rfl (q_pick_t rfl rfl rfl) (?_)))))
    refine WL_nil (hK3 _ ?_)
    clear hK3 K3
    refine W_true rfl ?_
    refine W_seq (fun K4 hK4 => ?_)
    refine W_region (WL_cons rfl (WX_q rfl rfl (q_assign rfl rfl) (WL_cons rfl (WX_q rfl rfl (q_assign rfl rfl) (?_)))))
    refine WL_nil (hK4 _ ?_)
    clear hK4 K4
    refine W_ret (fin_many rfl rfl rfl rfl (rcs_cons (rc_nil ?_) (rcs_cons (rc_v ?_) rcs_nil)))
    all_goals clear hK2 K2
    all_goals (first | rfl | (simp_all [woT]; done))
  · try rw [h1]
    try simp only [decide_eq_true_eq, decide_eq_false_iff_not, beq_iff_eq, bne_iff_ne, ne_eq, Bool.not_eq_true', Bool.not_eq_false', beq_eq_false_iff_ne, bne_eq_false_iff_eq, Bool.not_eq_true, Bool.not_eq_false, Int.not_lt, Int.not_le, gt_iff_lt, ge_iff_le, Bool.and_eq_true, Bool.and_eq_false_iff, Bool.or_eq_true, Bool.or_eq_false_iff] at h1
    refine WL_run rfl rfl rfl (WX_q rfl rfl (q_load_box G rfl rfl rfl rfl rfl rfl rfl) (WL_run rfl rfl rfl (?_)))
    refine WX_q rfl rfl (q_call rfl (ArgsOK.of rfl) (c_impl_isIrq _) rfl) ?_
    refine WL_run rfl rfl rfl (WX_q rfl rfl (q_not rfl rfl) (WL_cons rfl (WX_q rfl rfl (q_pick_f rfl rfl rfl) (?_))))
    refine WL_nil (hK3 _ ?_)
    clear hK3 K3
    refine W_cond rfl (fun h2 => ?_) (fun h2 => ?_)
    · try rw [h2]
      try simp only [decide_eq_true_eq, decide_eq_false_iff_not, beq_iff_eq, bne_iff_ne, ne_eq, Bool.not_eq_true', Bool.not_eq_false', beq_eq_false_iff_ne, bne_eq_false_iff_eq, Bool.not_eq_true, Bool.not_eq_false, Int.not_lt, Int.not_le, gt_iff_lt, ge_iff_le, Bool.and_eq_true, Bool.and_eq_false_iff, Bool.or_eq_true, Bool.or_eq_false_iff] at h2
      refine W_seq (fun K5 hK5 => ?_)
      refine W_region (WL_cons rfl (WX_q rfl rfl (q_assign rfl rfl) (WL_cons rfl (WX_q rfl rfl (q_assign rfl rfl) (?_)))))
      refine WL_nil (hK5 _ ?_)
      clear hK5 K5
      refine W_ret (fin_many rfl rfl rfl rfl (rcs_cons (rc_nil ?_) (rcs_cons (rc_v ?_) rcs_nil)))
      all_goals clear hK2 K2
      all_goals (first | rfl | (simp_all [woT]; done))
    · try rw [h2]
      try simp only [decide_eq_true_eq, decide_eq_false_iff_not, beq_iff_eq, bne_iff_ne, ne_eq, Bool.not_eq_true', Bool.not_eq_false', beq_eq_false_iff_ne, bne_eq_false_iff_eq, Bool.not_eq_true, Bool.not_eq_false, Int.not_lt, Int.not_le, gt_iff_lt, ge_iff_le, Bool.and_eq_true, Bool.and_eq_false_iff, Bool.or_eq_true, Bool.or_eq_false_iff] at h2
      refine W_skip (hK2 _ ?_)
      clear hK2 K2
      refine W_seq (fun K6 hK6 => ?_)
      refine W_region (WL_cons rfl (WX_lit G 2 rfl rfl rfl rfl rfl rfl rfl rfl (WL_cons rfl (WX_q rfl rfl (q_move rfl rfl) (WL_cons rfl (?_))))))
      refine WX_append G np rfl rfl rfl rfl rfl rfl rfl rfl rfl (by simp; omega) rfl rfl ?_
      refine WL_cons rfl (WX_q rfl rfl (q_func rfl rfl) (WL_cons rfl (?_)))
      refine WX_callm 3 [1, 0] rfl rfl rfl (c_slices_DeleteFunc_impl_Sample_impl_Sample xs 74 q (fun x : Sample => x.q == q) (by omega) (fun k hk => c_impl_WithoutIrq_1 _ _)) rfl (RowsIn.cons rfl (RowsIn.cons rfl RowsIn.nil)) rfl rfl rfl ?_
      refine WL_cons rfl (WX_q rfl rfl (q_assign rfl rfl) (WL_cons rfl (WX_q rfl rfl (q_assign rfl rfl) (?_))))
      refine WL_nil (hK6 _ ?_)
      clear hK6 K6
      refine W_ret (fin_many rfl rfl rfl rfl (rcs_cons (rc_own rfl ?_) (rcs_cons (rc_v ?_) rcs_nil)))
      all_goals (first | rfl | (simp_all [woT]; done))

end Go.Proofs.Ytbepplocdmnchaa
