/- Walks through functions of the program, one contract each (written by gen.py). -/
import Derived.Test.YtbepplocdmnchaaX1
import Derived.Test.YtbepplocdmnchaaRfP
set_option maxRecDepth 20000
set_option linter.unusedVariables false
set_option linter.unusedSimpArgs false
namespace Go.Proofs.Ytbepplocdmnchaa
open Go Go.Rf

theorem c_spec_l1Least (a b : Int) : Ctr Try.prog 83 [.v (.int .i64 a), .v (.int .i64 b)] (.one (.v (.int .i64 (min a b)))) := by
  refine Ctr.of (n := 10) G Try.func83 rfl (by kernel_rfl) rfl rfl rfl (fun w0 => ?_)
  refine W_seq (fun K1 hK1 => ?_)
  refine W_region (WL_cons rfl (WX_q rfl rfl (q_assign rfl rfl) (?_)))
  refine WL_nil (hK1 _ ?_)
  clear hK1 K1
  refine W_seq (fun K2 hK2 => ?_)
  refine W_seq (fun K3 hK3 => ?_)
  refine W_region (WL_cons rfl (WX_q rfl rfl (q_move rfl rfl) (WL_cons rfl (WX_q rfl rfl (q_move rfl rfl) (WL_cons rfl (WX_q rfl rfl (q_cmp rfl rfl rfl rfl) (?_)))))))
  refine WL_nil (hK3 _ ?_)
  clear hK3 K3
  refine W_cond rfl (fun h1 => ?_) (fun h1 => ?_)
  · try rw [h1]
    try simp only [decide_eq_true_eq, decide_eq_false_iff_not, beq_iff_eq, bne_iff_ne, ne_eq, Bool.not_eq_true', Bool.not_eq_false', beq_eq_false_iff_ne, bne_eq_false_iff_eq, Bool.not_eq_true, Bool.not_eq_false, Int.not_lt, Int.not_le, gt_iff_lt, ge_iff_le, Bool.and_eq_true, Bool.and_eq_false_iff, Bool.or_eq_true, Bool.or_eq_false_iff] at h1
    refine W_seq (fun K4 hK4 => ?_)
    refine W_region (WL_cons rfl (WX_q rfl rfl (q_move rfl rfl) (WL_cons rfl (WX_q rfl rfl (q_assign rfl rfl) (?_)))))
    refine WL_nil (hK4 _ ?_)
    clear hK4 K4
    refine W_ret (fin_one rfl (rc_v ?_))
    all_goals clear hK2 K2
    all_goals (simp_all; omega)
  · try rw [h1]
    try simp only [decide_eq_true_eq, decide_eq_false_iff_not, beq_iff_eq, bne_iff_ne, ne_eq, Bool.not_eq_true', Bool.not_eq_false', beq_eq_false_iff_ne, bne_eq_false_iff_eq, Bool.not_eq_true, Bool.not_eq_false, Int.not_lt, Int.not_le, gt_iff_lt, ge_iff_le, Bool.and_eq_true, Bool.and_eq_false_iff, Bool.or_eq_true, Bool.or_eq_false_iff] at h1
    refine W_skip (hK2 _ ?_)
    clear hK2 K2
    refine W_seq (fun K5 hK5 => ?_)
    refine W_region (WL_cons rfl (WX_q rfl rfl (q_move rfl rfl) (WL_cons rfl (WX_q rfl rfl (q_assign rfl rfl) (?_)))))
    refine WL_nil (hK5 _ ?_)
    clear hK5 K5
    refine W_ret (fin_one rfl (rc_v ?_))
    all_goals (simp_all; omega)

theorem c_spec_l1Most (a b : Int) : Ctr Try.prog 84 [.v (.int .i64 a), .v (.int .i64 b)] (.one (.v (.int .i64 (max a b)))) := by
  refine Ctr.of (n := 10) G Try.func84 rfl (by kernel_rfl) rfl rfl rfl (fun w0 => ?_)
  refine W_seq (fun K1 hK1 => ?_)
  refine W_region (WL_cons rfl (WX_q rfl rfl (q_assign rfl rfl) (?_)))
  refine WL_nil (hK1 _ ?_)
  clear hK1 K1
  refine W_seq (fun K2 hK2 => ?_)
  refine W_seq (fun K3 hK3 => ?_)
  refine W_region (WL_cons rfl (WX_q rfl rfl (q_move rfl rfl) (WL_cons rfl (WX_q rfl rfl (q_move rfl rfl) (WL_cons rfl (WX_q rfl rfl (q_cmp rfl rfl rfl rfl) (?_)))))))
  refine WL_nil (hK3 _ ?_)
  clear hK3 K3
  refine W_cond rfl (fun h1 => ?_) (fun h1 => ?_)
  · try rw [h1]
    try simp only [decide_eq_true_eq, decide_eq_false_iff_not, beq_iff_eq, bne_iff_ne, ne_eq, Bool.not_eq_true', Bool.not_eq_false', beq_eq_false_iff_ne, bne_eq_false_iff_eq, Bool.not_eq_true, Bool.not_eq_false, Int.not_lt, Int.not_le, gt_iff_lt, ge_iff_le, Bool.and_eq_true, Bool.and_eq_false_iff, Bool.or_eq_true, Bool.or_eq_false_iff] at h1
    refine W_seq (fun K4 hK4 => ?_)
    refine W_region (WL_cons rfl (WX_q rfl rfl (q_move rfl rfl) (WL_cons rfl (WX_q rfl rfl (q_assign rfl rfl) (?_)))))
    refine WL_nil (hK4 _ ?_)
    clear hK4 K4
    refine W_ret (fin_one rfl (rc_v ?_))
    all_goals clear hK2 K2
    all_goals (simp_all; omega)
  · try rw [h1]
    try simp only [decide_eq_true_eq, decide_eq_false_iff_not, beq_iff_eq, bne_iff_ne, ne_eq, Bool.not_eq_true', Bool.not_eq_false', beq_eq_false_iff_ne, bne_eq_false_iff_eq, Bool.not_eq_true, Bool.not_eq_false, Int.not_lt, Int.not_le, gt_iff_lt, ge_iff_le, Bool.and_eq_true, Bool.and_eq_false_iff, Bool.or_eq_true, Bool.or_eq_false_iff] at h1
    refine W_skip (hK2 _ ?_)
    clear hK2 K2
    refine W_seq (fun K5 hK5 => ?_)
    refine W_region (WL_cons rfl (WX_q rfl rfl (q_move rfl rfl) (WL_cons rfl (WX_q rfl rfl (q_assign rfl rfl) (?_)))))
    refine WL_nil (hK5 _ ?_)
    clear hK5 K5
    refine W_ret (fin_one rfl (rc_v ?_))
    all_goals (simp_all; omega)

set_option maxHeartbeats 1600000 in
theorem c_spec_l1Cur_samples {x : Cur} {n : Int} (h : okC n x) (hn : n ≤ 900000000000) : CtrX (α := List Sample × Cur) Try.prog 77 [.ptr 0 0] [.box [.lst 1 (x.c.map encU), .v (.int .i64 x.a), .v (.int .u64 x.s)]] (fun y => y.1.length ≤ 60 ∧ okC (n + 300) y.2) (fun y => .one (.fr 48 3 (y.1.map encSc))) (fun y => [some (.box [.lst 1 (y.2.c.map encU), .v (.int .i64 y.2.a), .v (.int .u64 y.2.s)])]) := by
  refine CtrX.of (n := 92) (k := 1) G Try.func77 rfl (by kernel_rfl) rfl rfl rfl rfl (fun _ => rfl) rfl rfl (fun w0 _ hpin => ?_)
  refine W_seq (fun K1 hK1 => ?_)
  refine W_region (WL_cons rfl (WX_q rfl rfl (q_assign rfl rfl) (?_)))
  refine WL_nil (hK1 _ ?_)
  clear hK1 K1
  refine W_seq (fun K2 hK2 => ?_)
  refine W_region (WL_cons rfl (WX_lit G 2 rfl rfl rfl rfl rfl rfl rfl rfl (WL_cons rfl (WX_q rfl rfl (q_assign rfl rfl) (?_)))))
  refine WL_nil (hK2 _ ?_)
  clear hK2 K2
  refine W_seq (fun K3 hK3 => ?_)
  refine W_region (WL_cons rfl (WX_q rfl rfl (q_move rfl rfl) (WL_cons rfl (WX_lit G 3 rfl rfl rfl rfl rfl rfl rfl rfl (WL_cons rfl (?_))))))
  refine WX_callx 3 [0, 2] rfl rfl rfl (x_among h (by omega) [0, 5, 100, 99900] (0) (99900) (by decide) (by decide)) rfl (RowsIn.cons rfl (RowsIn.cons rfl RowsIn.nil)) rfl (fun _ => rfl) rfl (fun x1 ⟨hv1, hc1⟩ => ?_)
  refine WL_cons rfl (WX_q rfl rfl (q_assign rfl rfl) (?_))
  refine WL_nil (hK3 _ ?_)
  clear hK3 K3
  refine W_seq (fun K4 hK4 => ?_)
  refine W_seq (fun K5 hK5 => ?_)
  refine W_region (WL_cons rfl (WX_q rfl rfl (q_move rfl rfl) (WL_cons rfl (?_))))
  refine WX_callx 3 [0] rfl rfl rfl (x_pick hc1 (by omega) (10)) rfl (RowsIn.cons rfl RowsIn.nil) rfl (fun _ => rfl) rfl (fun x2 ⟨hv2, hc2⟩ => ?_)
  refine WL_cons rfl (WX_q rfl rfl (q_assign rfl rfl) (?_))
  refine WL_nil (hK5 _ ?_)
  clear hK5 K5
  refine W_block ?_
  refine W_loopK [0] [2] (fun (z : Nat × Cur × Int × List Sample) => [(3, .own 1), (4, .v (.int .i64 z.2.2.1)), (5, .v (.int .i64 (x2.1 - z.1)))]) (fun (z : Nat × Cur × Int × List Sample) => [(0, some (.box [.lst 1 (z.2.1.c.map encU), .v (.int .i64 z.2.1.a), .v (.int .u64 z.2.1.s)])), (1, some (.row 48 3 (z.2.2.2.map encSc)))]) (fun (z : Nat × Cur × Int × List Sample) => (z.1 : Int) ≤ x2.1 ∧ z.2.2.2.length ≤ z.1 ∧ (0 ≤ z.2.2.1 ∧ z.2.2.1 ≤ 100000) ∧ okC (n + 4 + 6 * z.1) z.2.1) (fun (z : Nat × Cur × Int × List Sample) => x2.1.toNat - z.1) (0, x2.2, x1.1, []) rfl rfl ?_ ?_ ?_ ?_
  · exact ⟨hv2.1, Nat.le_refl _, ⟨by show 0 ≤ x1.1; omega, by show x1.1 ≤ 100000; omega⟩, hc2.mono (by simp; omega)⟩
  · exact ⟨⟨_, rfl, by (first | rfl | simp)⟩, rfl, ⟨⟨_, rfl, by (first | rfl | simp)⟩, rfl, ⟨⟨_, rfl, by (first | rfl | simp)⟩, rfl, trivial⟩⟩⟩
  · exact ⟨⟨_, rfl, by rfl⟩, rfl, rfl, ⟨⟨_, rfl, by rfl⟩, rfl, rfl, trivial⟩⟩
  · intro z hinv
    obtain ⟨hz1, hz2, hz3, hz⟩ := hinv
    simp only [List.cons_append, List.nil_append]
    refine W_seq (fun K6 hK6 => ?_)
    refine W_seq (fun K7 hK7 => ?_)
    refine W_region (WL_cons rfl (WX_q rfl rfl (q_move rfl rfl) (WL_cons rfl (WX_q rfl rfl (q_cmp rfl rfl rfl rfl) (?_)))))
    refine WL_nil (hK7 _ ?_)
    clear hK7 K7
    refine W_cond rfl (fun h1 => ?_) (fun h1 => ?_)
    · try rw [h1]
      try simp only [decide_eq_true_eq, decide_eq_false_iff_not, beq_iff_eq, bne_iff_ne, ne_eq, Bool.not_eq_true', Bool.not_eq_false', beq_eq_false_iff_ne, bne_eq_false_iff_eq, Bool.not_eq_true, Bool.not_eq_false, Int.not_lt, Int.not_le, gt_iff_lt, ge_iff_le, Bool.and_eq_true, Bool.and_eq_false_iff, Bool.or_eq_true, Bool.or_eq_false_iff] at h1
      refine W_skip (hK6 _ ?_)
      clear hK6 K6
      refine W_seq (fun K8 hK8 => ?_)
      refine W_block ?_
      refine W_seq (fun K9 hK9 => ?_)
      refine W_region (WL_cons rfl (WX_q rfl rfl (q_move rfl rfl) (WL_cons rfl (WX_q rfl rfl (q_move rfl rfl) (WL_cons rfl (WX_lit G 4 rfl rfl rfl rfl rfl rfl rfl rfl (WL_cons rfl (?_))))))))
      refine WX_callx 4 [0, 3] rfl rfl rfl (x_among hz (by omega) [0, 0, 1, 3, 20] (0) (20) (by decide) (by decide)) rfl (RowsIn.cons rfl (RowsIn.cons rfl RowsIn.nil)) rfl (fun _ => rfl) rfl (fun x3 ⟨hv3, hc3⟩ => ?_)
      refine WL_cons rfl (?_)
      first | refine WX_q rfl rfl (q_arith rfl rfl rfl rfl (by omega) (by omega)) ?_ | refine WX_q rfl rfl (q_wrap rfl rfl rfl rfl) ?_
      refine WL_cons rfl (?_)
      refine WX_q rfl rfl (q_call rfl (ArgsOK.of rfl) (c_spec_l1Least _ _) rfl) ?_
      refine WL_cons rfl (WX_q rfl rfl (q_assign rfl rfl) (?_))
      refine WL_nil (hK9 _ ?_)
      clear hK9 K9
      refine W_region (WL_cons rfl (WX_q rfl rfl (q_move rfl rfl) (WL_cons rfl (WX_q rfl rfl (q_move rfl rfl) (WL_cons rfl (WX_lit G 5 rfl rfl rfl rfl rfl rfl rfl rfl (WL_cons rfl (?_))))))))
      refine WX_callx 5 [0, 4] rfl rfl rfl (x_among hc3 (by omega) [0, 1, 1, 2, 7] (0) (7) (by decide) (by decide)) rfl (RowsIn.cons rfl (RowsIn.cons rfl RowsIn.nil)) rfl (fun _ => rfl) rfl (fun x4 ⟨hv4, hc4⟩ => ?_)
      refine WL_cons rfl (WX_q rfl rfl (q_move rfl rfl) (WL_cons rfl (WX_q rfl rfl (q_move rfl rfl) (WL_cons rfl (WX_lit G 6 rfl rfl rfl rfl rfl rfl rfl rfl (WL_cons rfl (?_)))))))
      refine WX_callx 6 [0, 5] rfl rfl rfl (x_among hc4 (by omega) [0, 1, 2, 3, 8, 63, 64, 500] (0) (500) (by decide) (by decide)) rfl (RowsIn.cons rfl (RowsIn.cons rfl RowsIn.nil)) rfl (fun _ => rfl) rfl (fun x5 ⟨hv5, hc5⟩ => ?_)
      refine WL_cons rfl (?_)
      first | refine WX_q rfl rfl (q_arith rfl rfl rfl rfl (by omega) (by omega)) ?_ | refine WX_q rfl rfl (q_wrap rfl rfl rfl rfl) ?_
      refine WL_cons rfl (?_)
      refine WX_q rfl rfl (q_call rfl (ArgsOK.of rfl) (c_spec_l1Most _ _) rfl) ?_
      refine WL_cons rfl (WX_q rfl rfl (q_move rfl rfl) (WL_cons rfl (WX_q rfl rfl (q_build G rfl rfl rfl rfl) (WL_cons rfl (WX_lit G 7 rfl rfl rfl rfl rfl rfl rfl rfl (WL_cons rfl (?_)))))))
      refine WX_append G (by rw [hpin]; decide) rfl rfl rfl rfl rfl rfl rfl rfl rfl (by simp; omega) rfl rfl ?_
      refine WL_cons rfl (WX_q rfl rfl (q_assign rfl rfl) (?_))
      refine WL_nil (hK8 _ ?_)
      clear hK8 K8
      refine W_region (WL_cons rfl (WX_q rfl rfl (q_move rfl rfl) (WL_cons rfl (?_))))
      first | refine WX_q rfl rfl (q_arith rfl rfl rfl rfl (by omega) (by omega)) ?_ | refine WX_q rfl rfl (q_wrap rfl rfl rfl rfl) ?_
      refine WL_cons rfl (WX_q rfl rfl (q_assign rfl rfl) (?_))
      refine WL_nil ⟨(z.1 + 1, x5.2, min 100000 (z.2.2.1 + x3.1), z.2.2.2 ++ [⟨x4.1, max 0 (min 100000 (z.2.2.1 + x3.1) - x5.1), min 100000 (z.2.2.1 + x3.1)⟩]), ?_, ?_, ⟨⟨_, rfl, by (first | rfl | exact congrArg (fun v => AV.v (.int .i64 v)) (by show x2.1 - (z.1 : Int) - 1 = x2.1 - ((z.1 + 1 : Nat) : Int); omega))⟩, rfl, ⟨⟨_, rfl, by (first | rfl | exact congrArg (fun v => AV.v (.int .i64 v)) (by show x2.1 - (z.1 : Int) - 1 = x2.1 - ((z.1 + 1 : Nat) : Int); omega))⟩, rfl, ⟨⟨_, rfl, by (first | rfl | exact congrArg (fun v => AV.v (.int .i64 v)) (by show x2.1 - (z.1 : Int) - 1 = x2.1 - ((z.1 + 1 : Nat) : Int); omega))⟩, rfl, trivial⟩⟩⟩, ⟨⟨_, rfl, by (first | rfl | exact congrArg (Row.row _ _) (by rw [List.map_append]; rfl))⟩, rfl, rfl, ⟨⟨_, rfl, by (first | rfl | exact congrArg (Row.row _ _) (by rw [List.map_append]; rfl))⟩, rfl, rfl, trivial⟩⟩, rfl, rfl, rfl⟩
      · exact ⟨by show ((z.1 + 1 : Nat) : Int) ≤ x2.1; omega, by show (z.2.2.2 ++ [_]).length ≤ z.1 + 1; simp; omega, ⟨by show 0 ≤ min 100000 (z.2.2.1 + x3.1); omega, by show min 100000 (z.2.2.1 + x3.1) ≤ 100000; omega⟩, hc5.mono (by simp; omega)⟩
      · (show x2.1.toNat - (z.1 + 1) < x2.1.toNat - z.1; omega)
    · try rw [h1]
      try simp only [decide_eq_true_eq, decide_eq_false_iff_not, beq_iff_eq, bne_iff_ne, ne_eq, Bool.not_eq_true', Bool.not_eq_false', beq_eq_false_iff_ne, bne_eq_false_iff_eq, Bool.not_eq_true, Bool.not_eq_false, Int.not_lt, Int.not_le, gt_iff_lt, ge_iff_le, Bool.and_eq_true, Bool.and_eq_false_iff, Bool.or_eq_true, Bool.or_eq_false_iff] at h1
      refine W_exit (hK4 _ ?_)
      clear hK6 K6 hK4 K4
      refine W_seq (fun K10 hK10 => ?_)
      refine W_seq (fun K11 hK11 => ?_)
      refine W_region (WL_cons rfl (WX_q rfl rfl (q_move rfl rfl) (WL_cons rfl (?_))))
      first | refine WX_q rfl rfl (q_len' G rfl rfl rfl rfl (List.length_map _)) ?_ | refine WX_q rfl rfl (q_len G rfl rfl rfl rfl) ?_
      refine WL_cons rfl (WX_q rfl rfl (q_cmp rfl rfl rfl rfl) (?_))
      refine WL_nil (hK11 _ ?_)
      clear hK11 K11
      refine W_cond rfl (fun h2 => ?_) (fun h2 => ?_)
      · try rw [h2]
        try simp only [decide_eq_true_eq, decide_eq_false_iff_not, beq_iff_eq, bne_iff_ne, ne_eq, Bool.not_eq_true', Bool.not_eq_false', beq_eq_false_iff_ne, bne_eq_false_iff_eq, Bool.not_eq_true, Bool.not_eq_false, Int.not_lt, Int.not_le, gt_iff_lt, ge_iff_le, Bool.and_eq_true, Bool.and_eq_false_iff, Bool.or_eq_true, Bool.or_eq_false_iff] at h2
        refine W_seq (fun K12 hK12 => ?_)
        refine W_region (WL_cons rfl (WX_q rfl rfl (q_move rfl rfl) (WL_cons rfl (WX_q rfl rfl (q_assign rfl rfl) (?_)))))
        refine WL_nil (hK12 _ ?_)
        clear hK12 K12
        refine W_ret (finx ((z.2.2.2, z.2.1)) (finm_one rfl (rc_own rfl ?_) rfl (AftOK.stays rfl ?_ rfl AftOK.nil)) (⟨?_, ?_⟩))
        all_goals clear hK10 K10
        all_goals (first | rfl | exact hz.mono (by omega) | (rw [List.map_set]; rfl) | (show (List.set _ _ _).length ≤ 60; rw [List.length_set]; omega) | (show z.2.2.2.length ≤ 60; omega))
      · try rw [h2]
        try simp only [decide_eq_true_eq, decide_eq_false_iff_not, beq_iff_eq, bne_iff_ne, ne_eq, Bool.not_eq_true', Bool.not_eq_false', beq_eq_false_iff_ne, bne_eq_false_iff_eq, Bool.not_eq_true, Bool.not_eq_false, Int.not_lt, Int.not_le, gt_iff_lt, ge_iff_le, Bool.and_eq_true, Bool.and_eq_false_iff, Bool.or_eq_true, Bool.or_eq_false_iff] at h2
        refine W_skip (hK10 _ ?_)
        clear hK10 K10
        refine W_seq (fun K13 hK13 => ?_)
        refine W_region (WL_cons rfl (WX_q rfl rfl (q_move rfl rfl) (WL_cons rfl (WX_q rfl rfl (q_move rfl rfl) (WL_cons rfl (?_))))))
        first | refine WX_q rfl rfl (q_len' G rfl rfl rfl rfl (List.length_map _)) ?_ | refine WX_q rfl rfl (q_len G rfl rfl rfl rfl) ?_
        refine WL_cons rfl (?_)
        refine WX_callx 3 [0] rfl rfl rfl (x_pick hz (by omega) z.2.2.2.length) rfl (RowsIn.cons rfl RowsIn.nil) rfl (fun _ => rfl) rfl (fun x6 ⟨hv6, hc6⟩ => ?_)
        refine WL_cons rfl (WX_q rfl rfl (q_assign rfl rfl) (?_))
        refine WL_nil (hK13 _ ?_)
        clear hK13 K13
        refine W_seq (fun K14 hK14 => ?_)
        refine W_region (WL_cons rfl (WX_q rfl rfl (q_move rfl rfl) (WL_cons rfl (WX_q rfl rfl (q_move rfl rfl) (WL_cons rfl (?_))))))
        refine WX_q rfl rfl (q_index_own G rfl rfl rfl rfl rfl (by omega) (by rw [List.length_map]; omega)) ?_
        refine WL_cons rfl (?_)
        refine WX_q rfl rfl (q_load_rpt_struct G rfl rfl rfl rfl (getNI (by omega) (by omega)) rfl) ?_
        refine WL_cons rfl (WX_alloc_s G 4 rfl rfl rfl rfl rfl (WL_cons rfl (WX_store G rfl rfl rfl rfl rfl rfl rfl rfl rfl rfl rfl (?_))))
        refine WL_nil (hK14 _ ?_)
        clear hK14 K14
        refine W_seq (fun K15 hK15 => ?_)
        refine W_seq (fun K16 hK16 => ?_)
        refine W_region (WL_cons rfl (WX_q rfl rfl (q_move rfl rfl) (WL_cons rfl (?_))))
        refine WX_callx 4 [0] rfl rfl rfl (x_pick hc6 (by omega) (50)) rfl (RowsIn.cons rfl RowsIn.nil) rfl (fun _ => rfl) rfl (fun x7 ⟨hv7, hc7⟩ => ?_)
        refine WL_nil (hK16 _ ?_)
        clear hK16 K16
        refine W_block ?_
        refine W_seq (fun K17 hK17 => ?_)
        refine W_region (WL_cons rfl (WX_q rfl rfl (q_cmp rfl rfl rfl rfl) (WL_cons rfl (WX_q rfl rfl (q_assign rfl rfl) (?_)))))
        refine WL_nil (hK17 _ ?_)
        clear hK17 K17
        refine W_cond rfl (fun h3 => ?_) (fun h3 => ?_)
        · try rw [h3]
          try simp only [decide_eq_true_eq, decide_eq_false_iff_not, beq_iff_eq, bne_iff_ne, ne_eq, Bool.not_eq_true', Bool.not_eq_false', beq_eq_false_iff_ne, bne_eq_false_iff_eq, Bool.not_eq_true, Bool.not_eq_false, Int.not_lt, Int.not_le, gt_iff_lt, ge_iff_le, Bool.and_eq_true, Bool.and_eq_false_iff, Bool.or_eq_true, Bool.or_eq_false_iff] at h3
          refine W_region (WL_cons rfl (WX_q rfl rfl (q_move rfl rfl) (WL_cons rfl (WX_lit G 5 rfl rfl rfl rfl rfl rfl rfl rfl (WL_cons rfl (?_))))))
          refine WX_callx 5 [0, 4] rfl rfl rfl (x_among hc7 (by omega) [-1, 8] (-1) (8) (by decide) (by decide)) rfl (RowsIn.cons rfl (RowsIn.cons rfl RowsIn.nil)) rfl (fun _ => rfl) rfl (fun x8 ⟨hv8, hc8⟩ => ?_)
          refine WL_cons rfl (WX_q rfl rfl (q_field_ptr G rfl rfl rfl rfl) (WL_cons rfl (WX_store G rfl rfl rfl rfl rfl rfl rfl rfl rfl rfl rfl (?_))))
          refine WL_nil (hK15 _ ?_)
          clear hK15 K15
          refine W_seq (fun K18 hK18 => ?_)
          refine W_region (WL_cons rfl (WX_q rfl rfl (q_move rfl rfl) (WL_cons rfl (WX_q rfl rfl (q_move rfl rfl) (WL_cons rfl (WX_q rfl rfl (q_load_box_struct G rfl rfl rfl rfl rfl rfl) (WL_cons rfl (?_))))))))
          refine WX_q rfl rfl (q_index_own G rfl rfl rfl rfl rfl (by omega) (by rw [List.length_map]; omega)) ?_
          refine WL_cons rfl (?_)
          refine WX_store_row G rfl rfl rfl rfl rfl (getNI (by omega) (by omega)) rfl rfl rfl rfl rfl (Nat.le_of_ble_eq_true rfl) rfl ?_
          refine WL_nil (hK18 _ ?_)
          clear hK18 K18
          refine W_seq (fun K19 hK19 => ?_)
          refine W_region (WL_cons rfl (WX_q rfl rfl (q_move rfl rfl) (WL_cons rfl (WX_q rfl rfl (q_assign rfl rfl) (?_)))))
          refine WL_nil (hK19 _ ?_)
          clear hK19 K19
          refine W_ret (finx ((z.2.2.2.set x6.1.toNat ⟨x8.1, (z.2.2.2.getD x6.1.toNat default).a, (z.2.2.2.getD x6.1.toNat default).g⟩, x8.2)) (finm_one rfl (rc_own rfl ?_) rfl (AftOK.stays rfl ?_ rfl AftOK.nil)) (⟨?_, ?_⟩))
          all_goals (first | rfl | exact hc8.mono (by omega) | (rw [List.map_set]; rfl) | (show (List.set _ _ _).length ≤ 60; rw [List.length_set]; omega) | (show z.2.2.2.length ≤ 60; omega))
        · try rw [h3]
          try simp only [decide_eq_true_eq, decide_eq_false_iff_not, beq_iff_eq, bne_iff_ne, ne_eq, Bool.not_eq_true', Bool.not_eq_false', beq_eq_false_iff_ne, bne_eq_false_iff_eq, Bool.not_eq_true, Bool.not_eq_false, Int.not_lt, Int.not_le, gt_iff_lt, ge_iff_le, Bool.and_eq_true, Bool.and_eq_false_iff, Bool.or_eq_true, Bool.or_eq_false_iff] at h3
          refine W_seq (fun K20 hK20 => ?_)
          refine W_region (WL_cons rfl (WX_q rfl rfl (q_cmp rfl rfl rfl rfl) (WL_cons rfl (WX_q rfl rfl (q_assign rfl rfl) (?_)))))
          refine WL_nil (hK20 _ ?_)
          clear hK20 K20
          refine W_cond rfl (fun h4 => ?_) (fun h4 => ?_)
          · try rw [h4]
            try simp only [decide_eq_true_eq, decide_eq_false_iff_not, beq_iff_eq, bne_iff_ne, ne_eq, Bool.not_eq_true', Bool.not_eq_false', beq_eq_false_iff_ne, bne_eq_false_iff_eq, Bool.not_eq_true, Bool.not_eq_false, Int.not_lt, Int.not_le, gt_iff_lt, ge_iff_le, Bool.and_eq_true, Bool.and_eq_false_iff, Bool.or_eq_true, Bool.or_eq_false_iff] at h4
            refine W_region (WL_cons rfl (WX_q rfl rfl (q_move rfl rfl) (WL_cons rfl (WX_q rfl rfl (q_field_ptr G rfl rfl rfl rfl) (WL_cons rfl (WX_q rfl rfl (q_load_box G rfl rfl rfl rfl rfl rfl rfl) (WL_cons rfl (?_))))))))
            first | refine WX_q rfl rfl (q_arith rfl rfl rfl rfl (by omega) (by omega)) ?_ | refine WX_q rfl rfl (q_wrap rfl rfl rfl rfl) ?_
            refine WL_cons rfl (WX_lit G 5 rfl rfl rfl rfl rfl rfl rfl rfl (WL_cons rfl (?_)))
            refine WX_callx 5 [0, 4] rfl rfl rfl (x_amongv hc7 (by omega) [-1, IntKind.i64.wrap ((z.2.2.2.getD x6.1.toNat default).g + 1)] (by simp)) rfl (RowsIn.cons rfl (RowsIn.cons rfl RowsIn.nil)) rfl (fun _ => rfl) rfl (fun x9 ⟨hv9, hc9⟩ => ?_)
            refine WL_cons rfl (WX_q rfl rfl (q_field_ptr G rfl rfl rfl rfl) (WL_cons rfl (WX_store G rfl rfl rfl rfl rfl rfl rfl rfl rfl rfl rfl (?_))))
            refine WL_nil (hK15 _ ?_)
            clear hK15 K15
            refine W_seq (fun K21 hK21 => ?_)
            refine W_region (WL_cons rfl (WX_q rfl rfl (q_move rfl rfl) (WL_cons rfl (WX_q rfl rfl (q_move rfl rfl) (WL_cons rfl (WX_q rfl rfl (q_load_box_struct G rfl rfl rfl rfl rfl rfl) (WL_cons rfl (?_))))))))
            refine WX_q rfl rfl (q_index_own G rfl rfl rfl rfl rfl (by omega) (by rw [List.length_map]; omega)) ?_
            refine WL_cons rfl (?_)
            refine WX_store_row G rfl rfl rfl rfl rfl (getNI (by omega) (by omega)) rfl rfl rfl rfl rfl (Nat.le_of_ble_eq_true rfl) rfl ?_
            refine WL_nil (hK21 _ ?_)
            clear hK21 K21
            refine W_seq (fun K22 hK22 => ?_)
            refine W_region (WL_cons rfl (WX_q rfl rfl (q_move rfl rfl) (WL_cons rfl (WX_q rfl rfl (q_assign rfl rfl) (?_)))))
            refine WL_nil (hK22 _ ?_)
            clear hK22 K22
            refine W_ret (finx ((z.2.2.2.set x6.1.toNat ⟨(z.2.2.2.getD x6.1.toNat default).q, x9.1, (z.2.2.2.getD x6.1.toNat default).g⟩, x9.2)) (finm_one rfl (rc_own rfl ?_) rfl (AftOK.stays rfl ?_ rfl AftOK.nil)) (⟨?_, ?_⟩))
            all_goals (first | rfl | exact hc9.mono (by omega) | (rw [List.map_set]; rfl) | (show (List.set _ _ _).length ≤ 60; rw [List.length_set]; omega) | (show z.2.2.2.length ≤ 60; omega))
          · try rw [h4]
            try simp only [decide_eq_true_eq, decide_eq_false_iff_not, beq_iff_eq, bne_iff_ne, ne_eq, Bool.not_eq_true', Bool.not_eq_false', beq_eq_false_iff_ne, bne_eq_false_iff_eq, Bool.not_eq_true, Bool.not_eq_false, Int.not_lt, Int.not_le, gt_iff_lt, ge_iff_le, Bool.and_eq_true, Bool.and_eq_false_iff, Bool.or_eq_true, Bool.or_eq_false_iff] at h4
            refine W_seq (fun K23 hK23 => ?_)
            refine W_region (WL_cons rfl (WX_q rfl rfl (q_cmp rfl rfl rfl rfl) (WL_cons rfl (WX_q rfl rfl (q_assign rfl rfl) (?_)))))
            refine WL_nil (hK23 _ ?_)
            clear hK23 K23
            refine W_cond rfl (fun h5 => ?_) (fun h5 => ?_)
            · try rw [h5]
              try simp only [decide_eq_true_eq, decide_eq_false_iff_not, beq_iff_eq, bne_iff_ne, ne_eq, Bool.not_eq_true', Bool.not_eq_false', beq_eq_false_iff_ne, bne_eq_false_iff_eq, Bool.not_eq_true, Bool.not_eq_false, Int.not_lt, Int.not_le, gt_iff_lt, ge_iff_le, Bool.and_eq_true, Bool.and_eq_false_iff, Bool.or_eq_true, Bool.or_eq_false_iff] at h5
              refine W_region (WL_cons rfl (WX_q rfl rfl (q_move rfl rfl) (WL_cons rfl (WX_q rfl rfl (q_field_ptr G rfl rfl rfl rfl) (WL_cons rfl (WX_q rfl rfl (q_load_box G rfl rfl rfl rfl rfl rfl rfl) (WL_cons rfl (WX_lit G 5 rfl rfl rfl rfl rfl rfl rfl rfl (WL_cons rfl (?_))))))))))
              refine WX_callx 5 [0, 4] rfl rfl rfl (x_amongv hc7 (by omega) [(z.2.2.2.getD x6.1.toNat default).a, 100000, 100001] (by simp)) rfl (RowsIn.cons rfl (RowsIn.cons rfl RowsIn.nil)) rfl (fun _ => rfl) rfl (fun x10 ⟨hv10, hc10⟩ => ?_)
              refine WL_cons rfl (WX_q rfl rfl (q_field_ptr G rfl rfl rfl rfl) (WL_cons rfl (WX_store G rfl rfl rfl rfl rfl rfl rfl rfl rfl rfl rfl (?_))))
              refine WL_nil (hK15 _ ?_)
              clear hK15 K15
              refine W_seq (fun K24 hK24 => ?_)
              refine W_region (WL_cons rfl (WX_q rfl rfl (q_move rfl rfl) (WL_cons rfl (WX_q rfl rfl (q_move rfl rfl) (WL_cons rfl (WX_q rfl rfl (q_load_box_struct G rfl rfl rfl rfl rfl rfl) (WL_cons rfl (?_))))))))
              refine WX_q rfl rfl (q_index_own G rfl rfl rfl rfl rfl (by omega) (by rw [List.length_map]; omega)) ?_
              refine WL_cons rfl (?_)
              refine WX_store_row G rfl rfl rfl rfl rfl (getNI (by omega) (by omega)) rfl rfl rfl rfl rfl (Nat.le_of_ble_eq_true rfl) rfl ?_
              refine WL_nil (hK24 _ ?_)
              clear hK24 K24
              refine W_seq (fun K25 hK25 => ?_)
              refine W_region (WL_cons rfl (WX_q rfl rfl (q_move rfl rfl) (WL_cons rfl (WX_q rfl rfl (q_assign rfl rfl) (?_)))))
              refine WL_nil (hK25 _ ?_)
              clear hK25 K25
              refine W_ret (finx ((z.2.2.2.set x6.1.toNat ⟨(z.2.2.2.getD x6.1.toNat default).q, (z.2.2.2.getD x6.1.toNat default).a, x10.1⟩, x10.2)) (finm_one rfl (rc_own rfl ?_) rfl (AftOK.stays rfl ?_ rfl AftOK.nil)) (⟨?_, ?_⟩))
              all_goals (first | rfl | exact hc10.mono (by omega) | (rw [List.map_set]; rfl) | (show (List.set _ _ _).length ≤ 60; rw [List.length_set]; omega) | (show z.2.2.2.length ≤ 60; omega))
            · try rw [h5]
              try simp only [decide_eq_true_eq, decide_eq_false_iff_not, beq_iff_eq, bne_iff_ne, ne_eq, Bool.not_eq_true', Bool.not_eq_false', beq_eq_false_iff_ne, bne_eq_false_iff_eq, Bool.not_eq_true, Bool.not_eq_false, Int.not_lt, Int.not_le, gt_iff_lt, ge_iff_le, Bool.and_eq_true, Bool.and_eq_false_iff, Bool.or_eq_true, Bool.or_eq_false_iff] at h5
              refine W_seq (fun K26 hK26 => ?_)
              refine W_region (WL_cons rfl (WX_q rfl rfl (q_cmp rfl rfl rfl rfl) (WL_cons rfl (WX_q rfl rfl (q_assign rfl rfl) (?_)))))
              refine WL_nil (hK26 _ ?_)
              clear hK26 K26
              refine W_cond rfl (fun h6 => ?_) (fun h6 => ?_)
              · try rw [h6]
                try simp only [decide_eq_true_eq, decide_eq_false_iff_not, beq_iff_eq, bne_iff_ne, ne_eq, Bool.not_eq_true', Bool.not_eq_false', beq_eq_false_iff_ne, bne_eq_false_iff_eq, Bool.not_eq_true, Bool.not_eq_false, Int.not_lt, Int.not_le, gt_iff_lt, ge_iff_le, Bool.and_eq_true, Bool.and_eq_false_iff, Bool.or_eq_true, Bool.or_eq_false_iff] at h6
                refine W_block ?_
                refine W_loopK [0, 6, 7] [2, 3] (fun (v : Cur × List Sample) => [(3, .own 1)]) (fun (v : Cur × List Sample) => [(0, some (.box [.lst 1 (v.1.c.map encU), .v (.int .i64 v.1.a), .v (.int .u64 v.1.s)])), (1, some (.row 48 3 (v.2.map encSc)))]) (fun (v : Cur × List Sample) => z.2.2.2.length ≤ v.2.length ∧ v.2.length ≤ 50 ∧ okC (n + 90 + 2 * v.2.length) v.1) (fun (v : Cur × List Sample) => 60 - v.2.length) (x7.2, z.2.2.2) rfl rfl ?_ ?_ ?_ ?_
                · exact ⟨Nat.le_refl _, by show z.2.2.2.length ≤ 50; omega, hc7.mono (by show _ ≤ n + 90 + 2 * (z.2.2.2.length : Int); omega)⟩
                · exact ⟨⟨_, rfl, by (first | rfl | simp)⟩, rfl, trivial⟩
                · exact ⟨⟨_, rfl, by rfl⟩, rfl, rfl, ⟨⟨_, rfl, by rfl⟩, rfl, rfl, trivial⟩⟩
                · intro v hinv
                  obtain ⟨hw1, hw2, hw⟩ := hinv
                  simp only [List.cons_append, List.nil_append]
                  refine W_seq (fun K27 hK27 => ?_)
                  refine W_seq (fun K28 hK28 => ?_)
                  refine W_region (WL_cons rfl (WX_q rfl rfl (q_move rfl rfl) (WL_cons rfl (?_))))
                  first | refine WX_q rfl rfl (q_len' G rfl rfl rfl rfl (List.length_map _)) ?_ | refine WX_q rfl rfl (q_len G rfl rfl rfl rfl) ?_
                  refine WL_cons rfl (WX_q rfl rfl (q_move rfl rfl) (WL_cons rfl (?_)))
                  refine WX_callx 4 [0] rfl rfl rfl (x_pick hw (by omega) (2)) rfl (RowsIn.cons rfl RowsIn.nil) rfl (fun _ => rfl) rfl (fun x11 ⟨hv11, hc11⟩ => ?_)
                  refine WL_cons rfl (?_)
                  first | refine WX_q rfl rfl (q_arith rfl rfl rfl rfl (by omega) (by omega)) ?_ | refine WX_q rfl rfl (q_wrap rfl rfl rfl rfl) ?_
                  refine WL_cons rfl (WX_q rfl rfl (q_cmp rfl rfl rfl rfl) (?_))
                  refine WL_nil (hK28 _ ?_)
                  clear hK28 K28
                  refine W_cond rfl (fun h7 => ?_) (fun h7 => ?_)
                  · try rw [h7]
                    try simp only [decide_eq_true_eq, decide_eq_false_iff_not, beq_iff_eq, bne_iff_ne, ne_eq, Bool.not_eq_true', Bool.not_eq_false', beq_eq_false_iff_ne, bne_eq_false_iff_eq, Bool.not_eq_true, Bool.not_eq_false, Int.not_lt, Int.not_le, gt_iff_lt, ge_iff_le, Bool.and_eq_true, Bool.and_eq_false_iff, Bool.or_eq_true, Bool.or_eq_false_iff] at h7
                    refine W_skip (hK27 _ ?_)
                    clear hK27 K27
                    refine W_block ?_
                    refine W_region (WL_cons rfl (WX_q rfl rfl (q_move rfl rfl) (WL_cons rfl (WX_q rfl rfl (q_build G rfl rfl rfl rfl) (WL_cons rfl (WX_lit G 5 rfl rfl rfl rfl rfl rfl rfl rfl (WL_cons rfl (?_))))))))
                    refine WX_append G (by rw [hpin]; decide) rfl rfl rfl rfl rfl rfl rfl rfl rfl (by simp; omega) rfl rfl ?_
                    refine WL_cons rfl (WX_q rfl rfl (q_assign rfl rfl) (?_))
                    refine WL_nil ⟨(x11.2, v.2 ++ [⟨3, 99990, 100000⟩]), ?_, ?_, ⟨⟨_, rfl, by rfl⟩, rfl, trivial⟩, ⟨⟨_, rfl, by (first | rfl | exact congrArg (Row.row _ _) (by rw [List.map_append]; rfl))⟩, rfl, rfl, ⟨⟨_, rfl, by (first | rfl | exact congrArg (Row.row _ _) (by rw [List.map_append]; rfl))⟩, rfl, rfl, trivial⟩⟩, rfl, rfl, rfl⟩
                    · exact ⟨by show _ ≤ (v.2 ++ [_]).length; simp; omega, by show (v.2 ++ [_]).length ≤ 50; simp; omega, hc11.mono (by show _ ≤ n + 90 + 2 * ((v.2 ++ [(⟨3, 99990, 100000⟩ : Sample)]).length : Int); simp; omega)⟩
                    · (show 60 - (v.2 ++ [_]).length < 60 - v.2.length; simp; omega)
                  · try rw [h7]
                    try simp only [decide_eq_true_eq, decide_eq_false_iff_not, beq_iff_eq, bne_iff_ne, ne_eq, Bool.not_eq_true', Bool.not_eq_false', beq_eq_false_iff_ne, bne_eq_false_iff_eq, Bool.not_eq_true, Bool.not_eq_false, Int.not_lt, Int.not_le, gt_iff_lt, ge_iff_le, Bool.and_eq_true, Bool.and_eq_false_iff, Bool.or_eq_true, Bool.or_eq_false_iff] at h7
                    refine W_exit (hK15 _ ?_)
                    clear hK27 K27 hK15 K15
                    refine W_seq (fun K29 hK29 => ?_)
                    refine W_region (WL_cons rfl (WX_q rfl rfl (q_move rfl rfl) (WL_cons rfl (WX_q rfl rfl (q_move rfl rfl) (WL_cons rfl (WX_q rfl rfl (q_load_box_struct G rfl rfl rfl rfl rfl rfl) (WL_cons rfl (?_))))))))
                    refine WX_q rfl rfl (q_index_own G rfl rfl rfl rfl rfl (by omega) (by rw [List.length_map]; omega)) ?_
                    refine WL_cons rfl (?_)
                    refine WX_store_row G rfl rfl rfl rfl rfl (getNI (by omega) (by omega)) rfl rfl rfl rfl rfl (Nat.le_of_ble_eq_true rfl) rfl ?_
                    refine WL_nil (hK29 _ ?_)
                    clear hK29 K29
                    refine W_seq (fun K30 hK30 => ?_)
                    refine W_region (WL_cons rfl (WX_q rfl rfl (q_move rfl rfl) (WL_cons rfl (WX_q rfl rfl (q_assign rfl rfl) (?_)))))
                    refine WL_nil (hK30 _ ?_)
                    clear hK30 K30
                    refine W_ret (finx ((v.2.set x6.1.toNat (z.2.2.2.getD x6.1.toNat default), x11.2)) (finm_one rfl (rc_own rfl ?_) rfl (AftOK.stays rfl ?_ rfl AftOK.nil)) (⟨?_, ?_⟩))
                    all_goals (first | rfl | exact hc11.mono (by omega) | (rw [List.map_set]; rfl) | (show (List.set _ _ _).length ≤ 60; rw [List.length_set]; omega) | (show z.2.2.2.length ≤ 60; omega))
              · try rw [h6]
                try simp only [decide_eq_true_eq, decide_eq_false_iff_not, beq_iff_eq, bne_iff_ne, ne_eq, Bool.not_eq_true', Bool.not_eq_false', beq_eq_false_iff_ne, bne_eq_false_iff_eq, Bool.not_eq_true, Bool.not_eq_false, Int.not_lt, Int.not_le, gt_iff_lt, ge_iff_le, Bool.and_eq_true, Bool.and_eq_false_iff, Bool.or_eq_true, Bool.or_eq_false_iff] at h6
                refine W_skip (hK15 _ ?_)
                clear hK15 K15
                refine W_seq (fun K31 hK31 => ?_)
                refine W_region (WL_cons rfl (WX_q rfl rfl (q_move rfl rfl) (WL_cons rfl (WX_q rfl rfl (q_move rfl rfl) (WL_cons rfl (WX_q rfl rfl (q_load_box_struct G rfl rfl rfl rfl rfl rfl) (WL_cons rfl (?_))))))))
                refine WX_q rfl rfl (q_index_own G rfl rfl rfl rfl rfl (by omega) (by rw [List.length_map]; omega)) ?_
                refine WL_cons rfl (?_)
                refine WX_store_row G rfl rfl rfl rfl rfl (getNI (by omega) (by omega)) rfl rfl rfl rfl rfl (Nat.le_of_ble_eq_true rfl) rfl ?_
                refine WL_nil (hK31 _ ?_)
                clear hK31 K31
                refine W_seq (fun K32 hK32 => ?_)
                refine W_region (WL_cons rfl (WX_q rfl rfl (q_move rfl rfl) (WL_cons rfl (WX_q rfl rfl (q_assign rfl rfl) (?_)))))
                refine WL_nil (hK32 _ ?_)
                clear hK32 K32
                refine W_ret (finx ((z.2.2.2.set x6.1.toNat (z.2.2.2.getD x6.1.toNat default), x7.2)) (finm_one rfl (rc_own rfl ?_) rfl (AftOK.stays rfl ?_ rfl AftOK.nil)) (⟨?_, ?_⟩))
                all_goals (first | rfl | exact hc7.mono (by omega) | (rw [List.map_set]; rfl) | (show (List.set _ _ _).length ≤ 60; rw [List.length_set]; omega) | (show z.2.2.2.length ≤ 60; omega))

end Go.Proofs.Ytbepplocdmnchaa
