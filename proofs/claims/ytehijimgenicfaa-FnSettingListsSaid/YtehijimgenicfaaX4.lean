/- Walks through functions of the program, one contract each (written by gen.py). -/
import Derived.Test.YtehijimgenicfaaX3
set_option maxRecDepth 20000
set_option linter.unusedVariables false
set_option linter.unusedSimpArgs false
namespace Go.Proofs.Ytehijimgenicfaa
open Go Go.Rf

set_option maxHeartbeats 1600000 in
theorem c_spec_l1Cur_settings {x : Cur} {n : Int} (h : okC n x) (hn : n ≤ 800000000000) : CtrX (α := List Setting × Cur) Try.prog 38 [.ptr 0 0] [.box [.lst 1 (x.c.map encU), .v (.int .i64 x.a), .v (.int .u64 x.s)]] (fun y => (y.1.length ≤ 34 ∧ namesOK y.1) ∧ okC (n + 200) y.2) (fun y => .one (.fr 39 6 (y.1.map encTc))) (fun y => [some (.box [.lst 1 (y.2.c.map encU), .v (.int .i64 y.2.a), .v (.int .u64 y.2.s)])]) := by
  refine CtrX.of (n := 32) (k := 1) G Try.func38 rfl (by kernel_rfl) rfl rfl rfl rfl (fun _ => rfl) rfl rfl (fun w0 _ hpin => ?_)
  refine W_seq (fun K1 hK1 => ?_)
  refine W_region (WL_cons rfl (WX_q rfl rfl (q_assign rfl rfl) (?_)))
  refine WL_nil (hK1 _ ?_)
  clear hK1 K1
  refine W_seq (fun K2 hK2 => ?_)
  refine W_region (WL_cons rfl (WX_lit G 2 rfl rfl rfl rfl rfl rfl rfl rfl (WL_cons rfl (WX_q rfl rfl (q_assign rfl rfl) (?_)))))
  refine WL_nil (hK2 _ ?_)
  clear hK2 K2
  refine W_seq (fun K3 hK3 => ?_)
  refine W_seq (fun K4 hK4 => ?_)
  refine W_region (WL_cons rfl (WX_q rfl rfl (q_assign rfl rfl) (?_)))
  refine WL_nil (hK4 _ ?_)
  clear hK4 K4
  refine W_block ?_
  refine W_loopK [0] [] (fun (z : Nat × Cur × List Setting) => [(3, .own 1), (4, .v (.int .i64 (1 + z.1)))]) (fun (z : Nat × Cur × List Setting) => [(0, some (.box [.lst 1 (z.2.1.c.map encU), .v (.int .i64 z.2.1.a), .v (.int .u64 z.2.1.s)])), (1, some (.row 39 6 (z.2.2.map encTc)))]) (fun (z : Nat × Cur × List Setting) => z.1 ≤ 4 ∧ z.2.2.length ≤ 33 ∧ namesOK z.2.2 ∧ okC (n + 30 * z.1) z.2.1) (fun (z : Nat × Cur × List Setting) => 4 - z.1) (0, x, []) rfl rfl ?_ ?_ ?_ ?_
  · exact ⟨Nat.zero_le _, Nat.zero_le _, (fun i hi => absurd hi (Nat.not_lt_zero i)), h.mono (by simp)⟩
  · exact ⟨⟨_, rfl, by (first | rfl | simp)⟩, rfl, ⟨⟨_, rfl, by (first | rfl | simp)⟩, rfl, trivial⟩⟩
  · exact ⟨⟨_, rfl, by rfl⟩, rfl, rfl, ⟨⟨_, rfl, by rfl⟩, rfl, rfl, trivial⟩⟩
  · intro z hinv
    obtain ⟨hz1, hz2, hz3, hz⟩ := hinv
    simp only [List.cons_append, List.nil_append]
    refine W_seq (fun K5 hK5 => ?_)
    refine W_seq (fun K6 hK6 => ?_)
    refine W_region (WL_cons rfl (WX_q rfl rfl (q_move rfl rfl) (WL_cons rfl (WX_q rfl rfl (q_cmp rfl rfl rfl rfl) (?_)))))
    refine WL_nil (hK6 _ ?_)
    clear hK6 K6
    refine W_cond rfl (fun h1 => ?_) (fun h1 => ?_)
    · try rw [h1]
      try simp only [decide_eq_true_eq, decide_eq_false_iff_not, beq_iff_eq, bne_iff_ne, ne_eq, Bool.not_eq_true', Bool.not_eq_false', beq_eq_false_iff_ne, bne_eq_false_iff_eq, Bool.not_eq_true, Bool.not_eq_false, Int.not_lt, Int.not_le, gt_iff_lt, ge_iff_le, Bool.and_eq_true, Bool.and_eq_false_iff, Bool.or_eq_true, Bool.or_eq_false_iff] at h1
      refine W_skip (hK5 _ ?_)
      clear hK5 K5
      refine W_seq (fun K7 hK7 => ?_)
      refine W_block ?_
      refine W_seq (fun K8 hK8 => ?_)
      refine W_region (WL_cons rfl (WX_q rfl rfl (q_move rfl rfl) (WL_cons rfl (?_))))
      refine WX_callx 2 [0] rfl rfl rfl (x_one hz (by omega) (2)) rfl (RowsIn.cons rfl RowsIn.nil) rfl (fun _ => rfl) rfl (fun x1 ⟨hv1, hc1⟩ => ?_)
      refine WL_nil (hK8 _ ?_)
      clear hK8 K8
      refine W_cond rfl (fun h2 => ?_) (fun h2 => ?_)
      · try rw [h2]
        try simp only [decide_eq_true_eq, decide_eq_false_iff_not, beq_iff_eq, bne_iff_ne, ne_eq, Bool.not_eq_true', Bool.not_eq_false', beq_eq_false_iff_ne, bne_eq_false_iff_eq, Bool.not_eq_true, Bool.not_eq_false, Int.not_lt, Int.not_le, gt_iff_lt, ge_iff_le, Bool.and_eq_true, Bool.and_eq_false_iff, Bool.or_eq_true, Bool.or_eq_false_iff] at h2
        refine W_seq (fun K9 hK9 => ?_)
        refine W_region (WL_cons rfl (WX_q rfl rfl (q_move rfl rfl) (WL_cons rfl (WX_q rfl rfl (q_move rfl rfl) (WL_cons rfl (WX_q rfl rfl (q_move rfl rfl) (WL_cons rfl (?_))))))))
        refine WX_callx 2 [0] rfl rfl rfl (c_spec_l1Cur_setting hc1 (by omega) _) rfl (RowsIn.cons rfl RowsIn.nil) rfl (fun _ => rfl) rfl (fun x2 ⟨hv2, hc2⟩ => ?_)
        refine WL_cons rfl (?_)
        refine WX_call 3 rfl rfl rfl (ArgsOK.of rfl) (c_spec_PutSetting z.2.2 x2.1 (by omega) hz3 (by omega)) rfl rfl ?_
        refine WL_cons rfl (WX_q rfl rfl (q_move rfl rfl) (WL_cons rfl (WX_q rfl rfl (q_extract rfl rfl rfl) (WL_cons rfl (WX_q rfl rfl (q_extract rfl rfl rfl) (WL_cons rfl (WX_q rfl rfl (q_assign rfl rfl) (WL_cons rfl (WX_q rfl rfl (q_assign rfl rfl) (?_))))))))))
        refine WL_nil (hK9 _ ?_)
        clear hK9 K9
        refine W_seq (fun K10 hK10 => ?_)
        refine W_region (WL_cons rfl (WX_q rfl rfl (q_move rfl rfl) (?_)))
        refine WL_nil (hK10 _ ?_)
        clear hK10 K10
        refine W_cond rfl (fun h3 => ?_) (fun h3 => ?_)
        · try rw [h3]
          try simp only [decide_eq_true_eq, decide_eq_false_iff_not, beq_iff_eq, bne_iff_ne, ne_eq, Bool.not_eq_true', Bool.not_eq_false', beq_eq_false_iff_ne, bne_eq_false_iff_eq, Bool.not_eq_true, Bool.not_eq_false, Int.not_lt, Int.not_le, gt_iff_lt, ge_iff_le, Bool.and_eq_true, Bool.and_eq_false_iff, Bool.or_eq_true, Bool.or_eq_false_iff] at h3
          refine W_region (WL_cons rfl (WX_q rfl rfl (q_move rfl rfl) (WL_cons rfl (WX_q rfl rfl (q_assign rfl rfl) (?_)))))
          refine WL_nil (hK7 _ ?_)
          clear hK7 K7
          refine W_rento (tx := 3) (id := 2) (id' := 1) (by rw [hpin]; decide) rfl rfl rfl rfl rfl rfl rfl ?_
          refine W_region (WL_cons rfl (WX_q rfl rfl (q_move rfl rfl) (WL_cons rfl (?_))))
          first | refine WX_q rfl rfl (q_arith rfl rfl rfl rfl (by omega) (by omega)) ?_ | refine WX_q rfl rfl (q_wrap rfl rfl rfl rfl) ?_
          refine WL_cons rfl (WX_q rfl rfl (q_assign rfl rfl) (?_))
          refine WL_nil ⟨(z.1 + 1, x2.2, putL z.2.2 x2.1), ?_, ?_, ⟨⟨_, rfl, by (first | rfl | (congr 2; simp; omega))⟩, rfl, ⟨⟨_, rfl, by (first | rfl | (congr 2; simp; omega))⟩, rfl, trivial⟩⟩, ⟨⟨_, rfl, by (first | rfl | (simp only [ptT]; rw [if_pos h3]; done))⟩, rfl, rfl, ⟨⟨_, rfl, by (first | rfl | (simp only [ptT]; rw [if_pos h3]; done))⟩, rfl, rfl, trivial⟩⟩, rfl, rfl, rfl⟩
          · first | exact ⟨by show z.1 + 1 ≤ 4; omega, put_len h3, put_names hz3 hv2, hc2.mono (by simp; omega)⟩ | exact ⟨by show z.1 + 1 ≤ 4; omega, hz2, hz3, hc2.mono (by simp; omega)⟩ | exact ⟨by show z.1 + 1 ≤ 4; omega, hz2, hz3, hc1.mono (by simp; omega)⟩
          · (show 4 - (z.1 + 1) < 4 - z.1; omega)
        · try rw [h3]
          try simp only [decide_eq_true_eq, decide_eq_false_iff_not, beq_iff_eq, bne_iff_ne, ne_eq, Bool.not_eq_true', Bool.not_eq_false', beq_eq_false_iff_ne, bne_eq_false_iff_eq, Bool.not_eq_true, Bool.not_eq_false, Int.not_lt, Int.not_le, gt_iff_lt, ge_iff_le, Bool.and_eq_true, Bool.and_eq_false_iff, Bool.or_eq_true, Bool.or_eq_false_iff] at h3
          refine W_skip (hK7 _ ?_)
          clear hK7 K7
          refine W_region (WL_cons rfl (WX_q rfl rfl (q_move rfl rfl) (WL_cons rfl (?_))))
          first | refine WX_q rfl rfl (q_arith rfl rfl rfl rfl (by omega) (by omega)) ?_ | refine WX_q rfl rfl (q_wrap rfl rfl rfl rfl) ?_
          refine WL_cons rfl (WX_q rfl rfl (q_assign rfl rfl) (?_))
          refine WL_nil ⟨(z.1 + 1, x2.2, z.2.2), ?_, ?_, ⟨⟨_, rfl, by (first | rfl | (congr 2; simp; omega))⟩, rfl, ⟨⟨_, rfl, by (first | rfl | (congr 2; simp; omega))⟩, rfl, trivial⟩⟩, ⟨⟨_, rfl, by (first | rfl | (simp only [ptT]; rw [if_pos h3]; done))⟩, rfl, rfl, ⟨⟨_, rfl, by (first | rfl | (simp only [ptT]; rw [if_pos h3]; done))⟩, rfl, rfl, trivial⟩⟩, rfl, rfl, rfl⟩
          · first | exact ⟨by show z.1 + 1 ≤ 4; omega, put_len h3, put_names hz3 hv2, hc2.mono (by simp; omega)⟩ | exact ⟨by show z.1 + 1 ≤ 4; omega, hz2, hz3, hc2.mono (by simp; omega)⟩ | exact ⟨by show z.1 + 1 ≤ 4; omega, hz2, hz3, hc1.mono (by simp; omega)⟩
          · (show 4 - (z.1 + 1) < 4 - z.1; omega)
      · try rw [h2]
        try simp only [decide_eq_true_eq, decide_eq_false_iff_not, beq_iff_eq, bne_iff_ne, ne_eq, Bool.not_eq_true', Bool.not_eq_false', beq_eq_false_iff_ne, bne_eq_false_iff_eq, Bool.not_eq_true, Bool.not_eq_false, Int.not_lt, Int.not_le, gt_iff_lt, ge_iff_le, Bool.and_eq_true, Bool.and_eq_false_iff, Bool.or_eq_true, Bool.or_eq_false_iff] at h2
        refine W_skip (hK7 _ ?_)
        clear hK7 K7
        refine W_region (WL_cons rfl (WX_q rfl rfl (q_move rfl rfl) (WL_cons rfl (?_))))
        first | refine WX_q rfl rfl (q_arith rfl rfl rfl rfl (by omega) (by omega)) ?_ | refine WX_q rfl rfl (q_wrap rfl rfl rfl rfl) ?_
        refine WL_cons rfl (WX_q rfl rfl (q_assign rfl rfl) (?_))
        refine WL_nil ⟨(z.1 + 1, x1.2, z.2.2), ?_, ?_, ⟨⟨_, rfl, by (first | rfl | (congr 2; simp; omega))⟩, rfl, ⟨⟨_, rfl, by (first | rfl | (congr 2; simp; omega))⟩, rfl, trivial⟩⟩, ⟨⟨_, rfl, by (first | rfl | (simp only [ptT]; rw [if_pos h3]; done))⟩, rfl, rfl, ⟨⟨_, rfl, by (first | rfl | (simp only [ptT]; rw [if_pos h3]; done))⟩, rfl, rfl, trivial⟩⟩, rfl, rfl, rfl⟩
        · first | exact ⟨by show z.1 + 1 ≤ 4; omega, put_len h3, put_names hz3 hv2, hc2.mono (by simp; omega)⟩ | exact ⟨by show z.1 + 1 ≤ 4; omega, hz2, hz3, hc2.mono (by simp; omega)⟩ | exact ⟨by show z.1 + 1 ≤ 4; omega, hz2, hz3, hc1.mono (by simp; omega)⟩
        · (show 4 - (z.1 + 1) < 4 - z.1; omega)
    · try rw [h1]
      try simp only [decide_eq_true_eq, decide_eq_false_iff_not, beq_iff_eq, bne_iff_ne, ne_eq, Bool.not_eq_true', Bool.not_eq_false', beq_eq_false_iff_ne, bne_eq_false_iff_eq, Bool.not_eq_true, Bool.not_eq_false, Int.not_lt, Int.not_le, gt_iff_lt, ge_iff_le, Bool.and_eq_true, Bool.and_eq_false_iff, Bool.or_eq_true, Bool.or_eq_false_iff] at h1
      refine W_exit (hK3 _ ?_)
      clear hK5 K5 hK3 K3
      refine W_seq (fun K11 hK11 => ?_)
      refine W_seq (fun K12 hK12 => ?_)
      refine W_region (WL_cons rfl (WX_q rfl rfl (q_move rfl rfl) (WL_cons rfl (?_))))
      refine WX_callx 2 [0] rfl rfl rfl (x_one hz (by omega) (12)) rfl (RowsIn.cons rfl RowsIn.nil) rfl (fun _ => rfl) rfl (fun x3 ⟨hv3, hc3⟩ => ?_)
      refine WL_nil (hK12 _ ?_)
      clear hK12 K12
      refine W_cond rfl (fun h4 => ?_) (fun h4 => ?_)
      · try rw [h4]
        try simp only [decide_eq_true_eq, decide_eq_false_iff_not, beq_iff_eq, bne_iff_ne, ne_eq, Bool.not_eq_true', Bool.not_eq_false', beq_eq_false_iff_ne, bne_eq_false_iff_eq, Bool.not_eq_true, Bool.not_eq_false, Int.not_lt, Int.not_le, gt_iff_lt, ge_iff_le, Bool.and_eq_true, Bool.and_eq_false_iff, Bool.or_eq_true, Bool.or_eq_false_iff] at h4
        refine W_region (WL_cons rfl (WX_q rfl rfl (q_move rfl rfl) (WL_cons rfl (WX_q rfl rfl (q_move rfl rfl) (WL_cons rfl (?_))))))
        refine WX_callx 2 [0] rfl rfl rfl (c_spec_l1Cur_setting hc3 (by omega) _) rfl (RowsIn.cons rfl RowsIn.nil) rfl (fun _ => rfl) rfl (fun x4 ⟨hv4, hc4⟩ => ?_)
        refine WL_cons rfl (WX_lit G 3 rfl rfl rfl rfl rfl rfl rfl rfl (WL_cons rfl (?_)))
        refine WX_append G (by rw [hpin]; decide) rfl rfl rfl rfl rfl rfl rfl rfl rfl (by simp; omega) rfl rfl ?_
        refine WL_cons rfl (WX_q rfl rfl (q_assign rfl rfl) (?_))
        refine WL_nil (hK11 _ ?_)
        clear hK11 K11
        refine W_seq (fun K13 hK13 => ?_)
        refine W_region (WL_cons rfl (WX_q rfl rfl (q_move rfl rfl) (WL_cons rfl (WX_q rfl rfl (q_assign rfl rfl) (?_)))))
        refine WL_nil (hK13 _ ?_)
        clear hK13 K13
        refine W_ret (finx ((z.2.2 ++ [x4.1], x4.2)) (finm_one rfl (rc_own rfl ?_) rfl (AftOK.stays rfl ?_ rfl AftOK.nil)) (⟨?_, ?_⟩))
        all_goals (first | rfl | exact hc4.mono (by omega) | (rw [List.map_append]; rfl) | exact ⟨by show _ ≤ 34; (try simp); omega, hz3⟩ | exact ⟨by show (z.2.2 ++ [_]).length ≤ 34; simp; omega, names_snoc hz3 (by omega)⟩)
      · try rw [h4]
        try simp only [decide_eq_true_eq, decide_eq_false_iff_not, beq_iff_eq, bne_iff_ne, ne_eq, Bool.not_eq_true', Bool.not_eq_false', beq_eq_false_iff_ne, bne_eq_false_iff_eq, Bool.not_eq_true, Bool.not_eq_false, Int.not_lt, Int.not_le, gt_iff_lt, ge_iff_le, Bool.and_eq_true, Bool.and_eq_false_iff, Bool.or_eq_true, Bool.or_eq_false_iff] at h4
        refine W_skip (hK11 _ ?_)
        clear hK11 K11
        refine W_seq (fun K14 hK14 => ?_)
        refine W_region (WL_cons rfl (WX_q rfl rfl (q_move rfl rfl) (WL_cons rfl (WX_q rfl rfl (q_assign rfl rfl) (?_)))))
        refine WL_nil (hK14 _ ?_)
        clear hK14 K14
        refine W_ret (finx ((z.2.2, x3.2)) (finm_one rfl (rc_own rfl ?_) rfl (AftOK.stays rfl ?_ rfl AftOK.nil)) (⟨?_, ?_⟩))
        all_goals (first | rfl | exact hc3.mono (by omega) | (rw [List.map_append]; rfl) | exact ⟨by show _ ≤ 34; (try simp); omega, hz3⟩ | exact ⟨by show (z.2.2 ++ [_]).length ≤ 34; simp; omega, names_snoc hz3 (by omega)⟩)

end Go.Proofs.Ytehijimgenicfaa
