/- Walks through functions of the program, one contract each (written by gen.py). -/
import Derived.Test.YteplehpcplbioaaX2
set_option maxRecDepth 20000
set_option linter.unusedVariables false
set_option linter.unusedSimpArgs false
namespace Go.Proofs.Yteplehpcplbioaa
open Go Go.Rf

set_option maxHeartbeats 1600000 in
theorem c_spec_DrawRunUses (l : List Int) (hl : bytesOK l) : CtrX (α := Bucket × List Int × Int) Try.prog 52 [.lst 1 (l.map encU)] [] (fun y => (bkIn y.1 ∧ y.2.1.length ≤ 100 ∧ (0 ≤ y.2.2 ∧ y.2.2 ≤ 1001)) ∧ True) (fun y => (.many [.v (encB y.1), .fr 3 1 (y.2.1.map encI), .v (.int .i64 y.2.2)])) (fun y => []) := by
  have h : okC 0 (⟨l, 0, 0⟩ : Cur) := ⟨hl, Int.le_refl _, Int.le_refl _⟩
  refine CtrX.of (n := 59) (k := 0) G Try.func52 rfl (by kernel_rfl) rfl rfl rfl rfl (fun _ => rfl) rfl rfl (fun w0 _ hpin => ?_)
  refine W_seq (fun K1 hK1 => ?_)
  refine W_region (WL_cons rfl (WX_alloc_s G 1 rfl rfl rfl rfl rfl (WL_cons rfl (WX_q rfl rfl (q_assign rfl rfl) (WL_cons rfl (WX_q rfl rfl (q_assign rfl rfl) (?_)))))))
  refine WL_nil (hK1 _ ?_)
  clear hK1 K1
  refine W_pinT (t := 0) rfl (fun y => ?_)
  refine W_seq (fun K2 hK2 => ?_)
  refine W_region (WL_cons rfl (WX_q rfl rfl (q_move rfl rfl) (WL_cons rfl (WX_q rfl rfl (q_build G rfl rfl rfl rfl) (WL_cons rfl (WX_box 2 rfl rfl rfl rfl rfl rfl rfl (WL_cons rfl (WX_q rfl rfl (q_assign rfl rfl) (?_)))))))))
  refine WL_nil (hK2 _ ?_)
  clear hK2 K2
  refine W_unpin (id := 1) rfl ?_
  refine W_seq (fun K3 hK3 => ?_)
  refine W_region (WL_cons rfl (WX_q rfl rfl (q_move rfl rfl) (WL_cons rfl (?_))))
  refine WX_callx 2 [1] rfl rfl rfl (c_spec_l1Cur_bucket h (by omega) 2 (by omega)) rfl (RowsIn.cons rfl RowsIn.nil) rfl (fun _ => rfl) rfl (fun x1 ⟨hv1, hc1⟩ => ?_)
  refine WL_cons rfl (WX_alloc_s G 3 rfl rfl rfl rfl rfl (WL_cons rfl (WX_store G rfl rfl rfl rfl rfl rfl rfl rfl rfl rfl rfl (?_))))
  refine WL_nil (hK3 _ ?_)
  clear hK3 K3
  refine W_seq (fun K4 hK4 => ?_)
  refine W_region (WL_cons rfl (WX_lit G 4 rfl rfl rfl rfl rfl rfl rfl rfl (WL_cons rfl (WX_q rfl rfl (q_assign rfl rfl) (?_)))))
  refine WL_nil (hK4 _ ?_)
  clear hK4 K4
  refine W_seq (fun K5 hK5 => ?_)
  refine W_region (WL_cons rfl (WX_q rfl rfl (q_field_ptr G rfl rfl rfl rfl) (WL_cons rfl (WX_q rfl rfl (q_load_box G rfl rfl rfl rfl rfl rfl rfl) (WL_cons rfl (WX_q rfl rfl (q_assign rfl rfl) (?_)))))))
  refine WL_nil (hK5 _ ?_)
  clear hK5 K5
  refine W_seq (fun K6 hK6 => ?_)
  refine W_seq (fun K7 hK7 => ?_)
  refine W_region (WL_cons rfl (WX_q rfl rfl (q_move rfl rfl) (WL_cons rfl (?_))))
  refine WX_callx 4 [1] rfl rfl rfl (x_pick hc1 (by omega) (8)) rfl (RowsIn.cons rfl RowsIn.nil) rfl (fun _ => rfl) rfl (fun x2 ⟨hv2, hc2⟩ => ?_)
  refine WL_cons rfl (WX_q rfl rfl (q_assign rfl rfl) (?_))
  refine WL_nil (hK7 _ ?_)
  clear hK7 K7
  refine W_block ?_
  refine W_loopK [2, 5, 6] [0, 2] (fun (z : Nat × Cur × Int × List Int) => [(7, .own 3), (8, .v (.int .i64 z.2.2.1)), (9, .v (.int .i64 (x2.1 - z.1)))]) (fun (z : Nat × Cur × Int × List Int) => [(1, some (.box [.lst 1 (z.2.1.c.map encU), .v (.int .i64 z.2.1.a), .v (.int .u64 z.2.1.s)])), (3, some (.row 3 1 (z.2.2.2.map encI)))]) (fun (z : Nat × Cur × Int × List Int) => (z.1 : Int) ≤ x2.1 ∧ z.2.2.2.length ≤ z.1 ∧ (-1 ≤ z.2.2.1 ∧ z.2.2.1 ≤ 100001 + 10 * z.1) ∧ okC (100 + 2 * z.1) z.2.1) (fun (z : Nat × Cur × Int × List Int) => x2.1.toNat - z.1) (0, x2.2, x1.1.t, []) rfl rfl ?_ ?_ ?_ ?_
  · exact ⟨hv2.1, Nat.le_refl _, by simp only [bkIn] at hv1; exact ⟨by show -1 ≤ x1.1.t; omega, by show x1.1.t ≤ 100001 + 10 * ((0 : Nat) : Int); omega⟩, hc2.mono (by simp)⟩
  · exact ⟨⟨_, rfl, by (first | rfl | simp)⟩, rfl, ⟨⟨_, rfl, by (first | rfl | simp)⟩, rfl, ⟨⟨_, rfl, by (first | rfl | simp)⟩, rfl, trivial⟩⟩⟩
  · exact ⟨⟨_, rfl, by rfl⟩, rfl, rfl, ⟨⟨_, rfl, by rfl⟩, rfl, rfl, trivial⟩⟩
  · intro z hinv
    obtain ⟨hz1, hz2, hz3, hz⟩ := hinv
    simp only [List.cons_append, List.nil_append]
    refine W_seq (fun K8 hK8 => ?_)
    refine W_seq (fun K9 hK9 => ?_)
    refine W_region (WL_cons rfl (WX_q rfl rfl (q_move rfl rfl) (WL_cons rfl (WX_q rfl rfl (q_cmp rfl rfl rfl rfl) (?_)))))
    refine WL_nil (hK9 _ ?_)
    clear hK9 K9
    refine W_cond rfl (fun h1 => ?_) (fun h1 => ?_)
    · try rw [h1]
      try simp only [decide_eq_true_eq, decide_eq_false_iff_not, beq_iff_eq, bne_iff_ne, ne_eq, Bool.not_eq_true', Bool.not_eq_false', beq_eq_false_iff_ne, bne_eq_false_iff_eq, Bool.not_eq_true, Bool.not_eq_false, Int.not_lt, Int.not_le, gt_iff_lt, ge_iff_le, Bool.and_eq_true, Bool.and_eq_false_iff, Bool.or_eq_true, Bool.or_eq_false_iff] at h1
      refine W_skip (hK8 _ ?_)
      clear hK8 K8
      refine W_seq (fun K10 hK10 => ?_)
      refine W_block ?_
      refine W_seq (fun K11 hK11 => ?_)
      refine W_region (WL_cons rfl (WX_q rfl rfl (q_move rfl rfl) (WL_cons rfl (WX_q rfl rfl (q_move rfl rfl) (WL_cons rfl (WX_lit G 5 rfl rfl rfl rfl rfl rfl rfl rfl (WL_cons rfl (?_))))))))
      refine WX_callx 5 [1, 4] rfl rfl rfl (x_among hz (by omega) [0, 0, 1, 2, 10] (0) (10) (by decide) (by decide)) rfl (RowsIn.cons rfl (RowsIn.cons rfl RowsIn.nil)) rfl (fun _ => rfl) rfl (fun x3 ⟨hv3, hc3⟩ => ?_)
      refine WL_cons rfl (?_)
      first | refine WX_q rfl rfl (q_arith rfl rfl rfl rfl (by omega) (by omega)) ?_ | refine WX_q rfl rfl (q_wrap rfl rfl rfl rfl) ?_
      refine WL_cons rfl (WX_q rfl rfl (q_assign rfl rfl) (?_))
      refine WL_nil (hK11 _ ?_)
      clear hK11 K11
      refine W_region (WL_cons rfl (WX_q rfl rfl (q_move rfl rfl) (WL_cons rfl (WX_q rfl rfl (q_move rfl rfl) (WL_cons rfl (WX_lit G 6 rfl rfl rfl rfl rfl rfl rfl rfl (WL_cons rfl (?_))))))))
      refine WX_append G (by rw [hpin]; decide) rfl rfl rfl rfl rfl rfl rfl rfl rfl (by simp; omega) rfl rfl ?_
      refine WL_cons rfl (WX_q rfl rfl (q_assign rfl rfl) (?_))
      refine WL_nil (hK10 _ ?_)
      clear hK10 K10
      refine W_region (WL_cons rfl (WX_q rfl rfl (q_move rfl rfl) (WL_cons rfl (?_))))
      first | refine WX_q rfl rfl (q_arith rfl rfl rfl rfl (by omega) (by omega)) ?_ | refine WX_q rfl rfl (q_wrap rfl rfl rfl rfl) ?_
      refine WL_cons rfl (WX_q rfl rfl (q_assign rfl rfl) (?_))
      refine WL_nil ⟨(z.1 + 1, x3.2, z.2.2.1 + x3.1, z.2.2.2 ++ [z.2.2.1 + x3.1]), ?_, ?_, ⟨⟨_, rfl, by (first | rfl | exact congrArg (fun v => AV.v (.int .i64 v)) (by show x2.1 - (z.1 : Int) - 1 = x2.1 - ((z.1 + 1 : Nat) : Int); omega))⟩, rfl, ⟨⟨_, rfl, by (first | rfl | exact congrArg (fun v => AV.v (.int .i64 v)) (by show x2.1 - (z.1 : Int) - 1 = x2.1 - ((z.1 + 1 : Nat) : Int); omega))⟩, rfl, ⟨⟨_, rfl, by (first | rfl | exact congrArg (fun v => AV.v (.int .i64 v)) (by show x2.1 - (z.1 : Int) - 1 = x2.1 - ((z.1 + 1 : Nat) : Int); omega))⟩, rfl, trivial⟩⟩⟩, ⟨⟨_, rfl, by (first | rfl | exact congrArg (Row.row _ _) (by rw [List.map_append]; rfl))⟩, rfl, rfl, ⟨⟨_, rfl, by (first | rfl | exact congrArg (Row.row _ _) (by rw [List.map_append]; rfl))⟩, rfl, rfl, trivial⟩⟩, rfl, rfl, rfl⟩
      · exact ⟨by show ((z.1 + 1 : Nat) : Int) ≤ x2.1; omega, by show (z.2.2.2 ++ [_]).length ≤ z.1 + 1; simp; omega, ⟨by show -1 ≤ z.2.2.1 + x3.1; omega, by show z.2.2.1 + x3.1 ≤ 100001 + 10 * ((z.1 + 1 : Nat) : Int); omega⟩, hc3.mono (by simp; omega)⟩
      · (show x2.1.toNat - (z.1 + 1) < x2.1.toNat - z.1; omega)
    · try rw [h1]
      try simp only [decide_eq_true_eq, decide_eq_false_iff_not, beq_iff_eq, bne_iff_ne, ne_eq, Bool.not_eq_true', Bool.not_eq_false', beq_eq_false_iff_ne, bne_eq_false_iff_eq, Bool.not_eq_true, Bool.not_eq_false, Int.not_lt, Int.not_le, gt_iff_lt, ge_iff_le, Bool.and_eq_true, Bool.and_eq_false_iff, Bool.or_eq_true, Bool.or_eq_false_iff] at h1
      refine W_exit (hK6 _ ?_)
      clear hK8 K8 hK6 K6
      refine W_seq (fun K12 hK12 => ?_)
      refine W_seq (fun K13 hK13 => ?_)
      refine W_region (WL_cons rfl (WX_q rfl rfl (q_move rfl rfl) (WL_cons rfl (?_))))
      refine WX_callx 4 [1] rfl rfl rfl (x_pick hz (by omega) (24)) rfl (RowsIn.cons rfl RowsIn.nil) rfl (fun _ => rfl) rfl (fun x4 ⟨hv4, hc4⟩ => ?_)
      refine WL_nil (hK13 _ ?_)
      clear hK13 K13
      refine W_block ?_
      refine W_seq (fun K14 hK14 => ?_)
      refine W_region (WL_cons rfl (WX_q rfl rfl (q_cmp rfl rfl rfl rfl) (WL_cons rfl (WX_q rfl rfl (q_assign rfl rfl) (?_)))))
      refine WL_nil (hK14 _ ?_)
      clear hK14 K14
      refine W_cond rfl (fun h2 => ?_) (fun h2 => ?_)
      · try rw [h2]
        try simp only [decide_eq_true_eq, decide_eq_false_iff_not, beq_iff_eq, bne_iff_ne, ne_eq, Bool.not_eq_true', Bool.not_eq_false', beq_eq_false_iff_ne, bne_eq_false_iff_eq, Bool.not_eq_true, Bool.not_eq_false, Int.not_lt, Int.not_le, gt_iff_lt, ge_iff_le, Bool.and_eq_true, Bool.and_eq_false_iff, Bool.or_eq_true, Bool.or_eq_false_iff] at h2
        refine W_region (WL_cons rfl (WX_q rfl rfl (q_move rfl rfl) (WL_cons rfl (WX_q rfl rfl (q_move rfl rfl) (WL_cons rfl (WX_lit G 5 rfl rfl rfl rfl rfl rfl rfl rfl (WL_cons rfl (?_))))))))
        refine WX_callx 5 [1, 4] rfl rfl rfl (x_among hc4 (by omega) [0, 100001] (0) (100001) (by decide) (by decide)) rfl (RowsIn.cons rfl (RowsIn.cons rfl RowsIn.nil)) rfl (fun _ => rfl) rfl (fun x5 ⟨hv5, hc5⟩ => ?_)
        refine WL_cons rfl (WX_lit G 6 rfl rfl rfl rfl rfl rfl rfl rfl (WL_cons rfl (?_)))
        refine WX_append G (by rw [hpin]; decide) rfl rfl rfl rfl rfl rfl rfl rfl rfl (by simp; omega) rfl rfl ?_
        refine WL_cons rfl (WX_q rfl rfl (q_assign rfl rfl) (?_))
        refine WL_nil (hK12 _ ?_)
        clear hK12 K12
        refine W_seq (fun K15 hK15 => ?_)
        refine W_drawsH 7 [2, 3, 4, 5] mixed (by kernel_rfl) rfl rfl (fun r0 => ?_) (fun _ h => h)
        refine WA_take 0 rfl (by kernel_rfl) (by kernel_rfl) rfl rfl rfl rfl (q_load_box_struct G rfl rfl rfl rfl rfl rfl) (WA_take 1 rfl (by kernel_rfl) (by kernel_rfl) rfl rfl rfl rfl (q_move rfl rfl) (WA_take 2 rfl (by kernel_rfl) (by kernel_rfl) rfl rfl rfl rfl (q_move rfl rfl) (?_)))
        refine WA_branch (rs := [3]) (by kernel_rfl) rfl (AllB.cons ?_ AllB.nil)
        refine WB_run [2, 3, 4, 5] rfl rfl (WX_callx 6 [1] rfl rfl rfl (c_spec_l1Cur_cost hc5 (by omega)) rfl (RowsIn.cons rfl RowsIn.nil) rfl (fun _ => rfl) rfl (fun x6 ⟨hv6, hc6⟩ => WL_nil ⟨rfl, ?_⟩))
        refine WA_branch (rs := [4]) (by kernel_rfl) rfl (AllB.cons ?_ AllB.nil)
        refine WB_run [2, 3, 4, 5] rfl rfl (WX_store G rfl rfl rfl rfl rfl rfl rfl rfl rfl rfl rfl (WL_nil ⟨rfl, ?_⟩))
        refine WA_take 5 rfl (by kernel_rfl) (by kernel_rfl) rfl rfl rfl rfl (q_assign rfl rfl) (WA_take 6 rfl (by kernel_rfl) (by kernel_rfl) rfl rfl rfl rfl (q_assign rfl rfl) (?_))
        refine WA_end (by kernel_rfl) (hK15 _ ?_)
        clear hK15 K15
        refine W_ret (finx ((x1.1, z.2.2.2 ++ [x5.1], x6.1)) (finm_many rfl rfl rfl rfl (rcs_cons (rc_agg rfl ?_) (rcs_cons (rc_own rfl ?_) (rcs_cons (rc_v ?_) rcs_nil))) rfl AftOK.nil) (⟨?_, ?_⟩))
        all_goals (first | rfl | trivial | (rw [List.map_append]; rfl) | exact ⟨hv1, by show _ ≤ 100; (try simp); omega, hv6⟩ | exact ⟨hv1, by show _ ≤ 100; (try simp); omega, hv8⟩ | exact ⟨hv1, by show _ ≤ 100; (try simp); omega, hv9⟩)
      · try rw [h2]
        try simp only [decide_eq_true_eq, decide_eq_false_iff_not, beq_iff_eq, bne_iff_ne, ne_eq, Bool.not_eq_true', Bool.not_eq_false', beq_eq_false_iff_ne, bne_eq_false_iff_eq, Bool.not_eq_true, Bool.not_eq_false, Int.not_lt, Int.not_le, gt_iff_lt, ge_iff_le, Bool.and_eq_true, Bool.and_eq_false_iff, Bool.or_eq_true, Bool.or_eq_false_iff] at h2
        refine W_seq (fun K16 hK16 => ?_)
        refine W_region (WL_cons rfl (WX_q rfl rfl (q_cmp rfl rfl rfl rfl) (WL_cons rfl (WX_q rfl rfl (q_assign rfl rfl) (?_)))))
        refine WL_nil (hK16 _ ?_)
        clear hK16 K16
        refine W_cond rfl (fun h3 => ?_) (fun h3 => ?_)
        · try rw [h3]
          try simp only [decide_eq_true_eq, decide_eq_false_iff_not, beq_iff_eq, bne_iff_ne, ne_eq, Bool.not_eq_true', Bool.not_eq_false', beq_eq_false_iff_ne, bne_eq_false_iff_eq, Bool.not_eq_true, Bool.not_eq_false, Int.not_lt, Int.not_le, gt_iff_lt, ge_iff_le, Bool.and_eq_true, Bool.and_eq_false_iff, Bool.or_eq_true, Bool.or_eq_false_iff] at h3
          refine W_block ?_
          refine W_loopK [2, 5, 6, 8] [0, 2] (fun (v : Cur × List Int) => [(7, .own 3)]) (fun (v : Cur × List Int) => [(1, some (.box [.lst 1 (v.1.c.map encU), .v (.int .i64 v.1.a), .v (.int .u64 v.1.s)])), (3, some (.row 3 1 (v.2.map encI)))]) (fun (v : Cur × List Int) => v.2.length ≤ 60 ∧ okC (200 + 2 * v.2.length) v.1) (fun (v : Cur × List Int) => 60 - v.2.length) (x4.2, z.2.2.2) rfl rfl ?_ ?_ ?_ ?_
          · exact ⟨by show z.2.2.2.length ≤ 60; omega, hc4.mono (by show _ ≤ 200 + 2 * (z.2.2.2.length : Int); omega)⟩
          · exact ⟨⟨_, rfl, by (first | rfl | simp)⟩, rfl, trivial⟩
          · exact ⟨⟨_, rfl, by rfl⟩, rfl, rfl, ⟨⟨_, rfl, by rfl⟩, rfl, rfl, trivial⟩⟩
          · intro v hinv
            obtain ⟨hw1, hw⟩ := hinv
            simp only [List.cons_append, List.nil_append]
            refine W_seq (fun K17 hK17 => ?_)
            refine W_seq (fun K18 hK18 => ?_)
            refine W_region (WL_cons rfl (WX_q rfl rfl (q_move rfl rfl) (WL_cons rfl (?_))))
            first | refine WX_q rfl rfl (q_len' G rfl rfl rfl rfl (List.length_map _)) ?_ | refine WX_q rfl rfl (q_len G rfl rfl rfl rfl) ?_
            refine WL_cons rfl (WX_q rfl rfl (q_move rfl rfl) (WL_cons rfl (?_)))
            refine WX_callx 4 [1] rfl rfl rfl (x_pick hw (by omega) (2)) rfl (RowsIn.cons rfl RowsIn.nil) rfl (fun _ => rfl) rfl (fun x7 ⟨hv7, hc7⟩ => ?_)
            refine WL_cons rfl (?_)
            first | refine WX_q rfl rfl (q_arith rfl rfl rfl rfl (by omega) (by omega)) ?_ | refine WX_q rfl rfl (q_wrap rfl rfl rfl rfl) ?_
            refine WL_cons rfl (WX_q rfl rfl (q_cmp rfl rfl rfl rfl) (?_))
            refine WL_nil (hK18 _ ?_)
            clear hK18 K18
            refine W_cond rfl (fun h4 => ?_) (fun h4 => ?_)
            · try rw [h4]
              try simp only [decide_eq_true_eq, decide_eq_false_iff_not, beq_iff_eq, bne_iff_ne, ne_eq, Bool.not_eq_true', Bool.not_eq_false', beq_eq_false_iff_ne, bne_eq_false_iff_eq, Bool.not_eq_true, Bool.not_eq_false, Int.not_lt, Int.not_le, gt_iff_lt, ge_iff_le, Bool.and_eq_true, Bool.and_eq_false_iff, Bool.or_eq_true, Bool.or_eq_false_iff] at h4
              refine W_skip (hK17 _ ?_)
              clear hK17 K17
              refine W_block ?_
              refine W_region (WL_cons rfl (WX_q rfl rfl (q_move rfl rfl) (WL_cons rfl (WX_q rfl rfl (q_move rfl rfl) (WL_cons rfl (WX_lit G 5 rfl rfl rfl rfl rfl rfl rfl rfl (WL_cons rfl (?_))))))))
              refine WX_append G (by rw [hpin]; decide) rfl rfl rfl rfl rfl rfl rfl rfl rfl (by simp; omega) rfl rfl ?_
              refine WL_cons rfl (WX_q rfl rfl (q_assign rfl rfl) (?_))
              refine WL_nil ⟨(x7.2, v.2 ++ [z.2.2.1]), ?_, ?_, ⟨⟨_, rfl, by rfl⟩, rfl, trivial⟩, ⟨⟨_, rfl, by (first | rfl | exact congrArg (Row.row _ _) (by rw [List.map_append]; rfl))⟩, rfl, rfl, ⟨⟨_, rfl, by (first | rfl | exact congrArg (Row.row _ _) (by rw [List.map_append]; rfl))⟩, rfl, rfl, trivial⟩⟩, rfl, rfl, rfl⟩
              · exact ⟨by show (v.2 ++ [_]).length ≤ 60; simp; omega, hc7.mono (by show _ ≤ 200 + 2 * ((v.2 ++ [z.2.2.1]).length : Int); simp; omega)⟩
              · (show 60 - (v.2 ++ [_]).length < 60 - v.2.length; simp; omega)
            · try rw [h4]
              try simp only [decide_eq_true_eq, decide_eq_false_iff_not, beq_iff_eq, bne_iff_ne, ne_eq, Bool.not_eq_true', Bool.not_eq_false', beq_eq_false_iff_ne, bne_eq_false_iff_eq, Bool.not_eq_true, Bool.not_eq_false, Int.not_lt, Int.not_le, gt_iff_lt, ge_iff_le, Bool.and_eq_true, Bool.and_eq_false_iff, Bool.or_eq_true, Bool.or_eq_false_iff] at h4
              refine W_exit (hK12 _ ?_)
              clear hK17 K17 hK12 K12
              refine W_seq (fun K19 hK19 => ?_)
              refine W_drawsH 7 [2, 3] mixed (by kernel_rfl) rfl rfl (fun r0 => ?_) (fun _ h => h)
              refine WA_take 0 rfl (by kernel_rfl) (by kernel_rfl) rfl rfl rfl rfl (q_load_box_struct G rfl rfl rfl rfl rfl rfl) (WA_take 1 rfl (by kernel_rfl) (by kernel_rfl) rfl rfl rfl rfl (q_move rfl rfl) (WA_take 2 rfl (by kernel_rfl) (by kernel_rfl) rfl rfl rfl rfl (q_move rfl rfl) (?_)))
              refine WA_branch (rs := [3]) (by kernel_rfl) rfl (AllB.cons ?_ AllB.nil)
              refine WB_run [2, 3] rfl rfl (WX_callx 4 [1] rfl rfl rfl (c_spec_l1Cur_cost hc7 (by omega)) rfl (RowsIn.cons rfl RowsIn.nil) rfl (fun _ => rfl) rfl (fun x8 ⟨hv8, hc8⟩ => WL_nil ⟨rfl, ?_⟩))
              refine WA_branch (rs := [4]) (by kernel_rfl) rfl (AllB.cons ?_ AllB.nil)
              refine WB_run [2, 3] rfl rfl (WX_store G rfl rfl rfl rfl rfl rfl rfl rfl rfl rfl rfl (WL_nil ⟨rfl, ?_⟩))
              refine WA_take 5 rfl (by kernel_rfl) (by kernel_rfl) rfl rfl rfl rfl (q_assign rfl rfl) (WA_take 6 rfl (by kernel_rfl) (by kernel_rfl) rfl rfl rfl rfl (q_assign rfl rfl) (?_))
              refine WA_end (by kernel_rfl) (hK19 _ ?_)
              clear hK19 K19
              refine W_ret (finx ((x1.1, v.2, x8.1)) (finm_many rfl rfl rfl rfl (rcs_cons (rc_agg rfl ?_) (rcs_cons (rc_own rfl ?_) (rcs_cons (rc_v ?_) rcs_nil))) rfl AftOK.nil) (⟨?_, ?_⟩))
              all_goals (first | rfl | trivial | (rw [List.map_append]; rfl) | exact ⟨hv1, by show _ ≤ 100; (try simp); omega, hv6⟩ | exact ⟨hv1, by show _ ≤ 100; (try simp); omega, hv8⟩ | exact ⟨hv1, by show _ ≤ 100; (try simp); omega, hv9⟩)
        · try rw [h3]
          try simp only [decide_eq_true_eq, decide_eq_false_iff_not, beq_iff_eq, bne_iff_ne, ne_eq, Bool.not_eq_true', Bool.not_eq_false', beq_eq_false_iff_ne, bne_eq_false_iff_eq, Bool.not_eq_true, Bool.not_eq_false, Int.not_lt, Int.not_le, gt_iff_lt, ge_iff_le, Bool.and_eq_true, Bool.and_eq_false_iff, Bool.or_eq_true, Bool.or_eq_false_iff] at h3
          refine W_skip (hK12 _ ?_)
          clear hK12 K12
          refine W_seq (fun K20 hK20 => ?_)
          refine W_drawsH 7 [2, 3] mixed (by kernel_rfl) rfl rfl (fun r0 => ?_) (fun _ h => h)
          refine WA_take 0 rfl (by kernel_rfl) (by kernel_rfl) rfl rfl rfl rfl (q_load_box_struct G rfl rfl rfl rfl rfl rfl) (WA_take 1 rfl (by kernel_rfl) (by kernel_rfl) rfl rfl rfl rfl (q_move rfl rfl) (WA_take 2 rfl (by kernel_rfl) (by kernel_rfl) rfl rfl rfl rfl (q_move rfl rfl) (?_)))
          refine WA_branch (rs := [3]) (by kernel_rfl) rfl (AllB.cons ?_ AllB.nil)
          refine WB_run [2, 3] rfl rfl (WX_callx 4 [1] rfl rfl rfl (c_spec_l1Cur_cost hc4 (by omega)) rfl (RowsIn.cons rfl RowsIn.nil) rfl (fun _ => rfl) rfl (fun x9 ⟨hv9, hc9⟩ => WL_nil ⟨rfl, ?_⟩))
          refine WA_branch (rs := [4]) (by kernel_rfl) rfl (AllB.cons ?_ AllB.nil)
          refine WB_run [2, 3] rfl rfl (WX_store G rfl rfl rfl rfl rfl rfl rfl rfl rfl rfl rfl (WL_nil ⟨rfl, ?_⟩))
          refine WA_take 5 rfl (by kernel_rfl) (by kernel_rfl) rfl rfl rfl rfl (q_assign rfl rfl) (WA_take 6 rfl (by kernel_rfl) (by kernel_rfl) rfl rfl rfl rfl (q_assign rfl rfl) (?_))
          refine WA_end (by kernel_rfl) (hK20 _ ?_)
          clear hK20 K20
          refine W_ret (finx ((x1.1, z.2.2.2, x9.1)) (finm_many rfl rfl rfl rfl (rcs_cons (rc_agg rfl ?_) (rcs_cons (rc_own rfl ?_) (rcs_cons (rc_v ?_) rcs_nil))) rfl AftOK.nil) (⟨?_, ?_⟩))
          all_goals (first | rfl | trivial | (rw [List.map_append]; rfl) | exact ⟨hv1, by show _ ≤ 100; (try simp); omega, hv6⟩ | exact ⟨hv1, by show _ ≤ 100; (try simp); omega, hv8⟩ | exact ⟨hv1, by show _ ≤ 100; (try simp); omega, hv9⟩)

end Go.Proofs.Yteplehpcplbioaa
