/- Walks through functions of the program, one contract each (written by gen.py). -/
import Derived.Test.YtbepplocdmnchaaX3
import Derived.Test.YtbepplocdmnchaaX4
import Derived.Test.YtbepplocdmnchaaM2
import Derived.Test.YtbepplocdmnchaaW5
import Derived.Test.YtbepplocdmnchaaW6
import Derived.Test.YtbepplocdmnchaaW8
import Derived.Test.YtbepplocdmnchaaW11
set_option maxRecDepth 20000
set_option linter.unusedVariables false
set_option linter.unusedSimpArgs false
namespace Go.Proofs.Ytbepplocdmnchaa
open Go Go.Rf

set_option maxHeartbeats 1600000 in
theorem c_laws_FnLoads (l : List Int) (h0 : l.length ≤ 9223372036854775807) (hb : ∀ j, 0 ≤ l.getD j default ∧ l.getD j default ≤ 255) : Ctr Try.prog 13 [.lst 1 (l.map encU)] (.one (.v (.bool true))) := by
  refine Ctr.of (n := 234) G Try.func13 rfl (by kernel_rfl) rfl rfl rfl (fun w0 => ?_)
  refine W_seq (fun K1 hK1 => ?_)
  refine W_region (WL_cons rfl (WX_q rfl rfl (q_assign rfl rfl) (?_)))
  refine WL_nil (hK1 _ ?_)
  clear hK1 K1
  refine W_seq (fun K2 hK2 => ?_)
  refine W_seq (fun K3 hK3 => ?_)
  refine W_region (WL_cons rfl (WX_q rfl rfl (q_move rfl rfl) (WL_cons rfl (?_))))
  refine WX_q rfl rfl (q_call rfl (ArgsOK.of rfl) (c_laws_rBig _ (by first | assumption | omega)) rfl) ?_
  refine WL_nil (hK3 _ ?_)
  clear hK3 K3
  refine W_cond rfl (fun h1 => ?_) (fun h1 => ?_)
  · try rw [h1]
    try simp only [decide_eq_true_eq, decide_eq_false_iff_not, beq_iff_eq, bne_iff_ne, ne_eq, Bool.not_eq_true', Bool.not_eq_false', beq_eq_false_iff_ne, bne_eq_false_iff_eq, Bool.not_eq_true, Bool.not_eq_false, Int.not_lt, Int.not_le, gt_iff_lt, ge_iff_le, Bool.and_eq_true, Bool.and_eq_false_iff, Bool.or_eq_true, Bool.or_eq_false_iff] at h1
    refine W_seq (fun K4 hK4 => ?_)
    refine W_region (WL_cons rfl (WX_q rfl rfl (q_assign rfl rfl) (?_)))
    refine WL_nil (hK4 _ ?_)
    clear hK4 K4
    refine W_ret (fin_one rfl (rc_v ?_))
    all_goals clear hK2 K2
    all_goals (first | rfl | (simp_all; done))
  · try rw [h1]
    try simp only [decide_eq_true_eq, decide_eq_false_iff_not, beq_iff_eq, bne_iff_ne, ne_eq, Bool.not_eq_true', Bool.not_eq_false', beq_eq_false_iff_ne, bne_eq_false_iff_eq, Bool.not_eq_true, Bool.not_eq_false, Int.not_lt, Int.not_le, gt_iff_lt, ge_iff_le, Bool.and_eq_true, Bool.and_eq_false_iff, Bool.or_eq_true, Bool.or_eq_false_iff] at h1
    have hl : bytesOK l := ⟨by omega, hb⟩
    refine W_skip (hK2 _ ?_)
    clear hK2 K2
    refine W_seq (fun K5 hK5 => ?_)
    refine W_region (WL_cons rfl (WX_q rfl rfl (q_move rfl rfl) (WL_cons rfl (?_))))
    refine WX_callx 1 [] rfl rfl rfl (c_spec_DrawMostWaiting l hl) rfl RowsIn.nil rfl (fun _ => rfl) rfl (fun x1 ⟨hv1, hc1⟩ => ?_)
    refine WL_cons rfl (WX_q rfl rfl (q_assign rfl rfl) (?_))
    refine WL_nil (hK5 _ ?_)
    clear hK5 K5
    refine W_seq (fun K6 hK6 => ?_)
    refine W_region (WL_cons rfl (WX_q rfl rfl (q_move rfl rfl) (WL_cons rfl (?_))))
    refine WX_q rfl rfl (q_call rfl (ArgsOK.of rfl) (c_impl_MostWaiting _ (by have := hv1; omega)) rfl) ?_
    refine WL_cons rfl (WX_q rfl rfl (q_move rfl rfl) (WL_cons rfl (WX_q rfl rfl (q_extract rfl rfl rfl) (WL_cons rfl (WX_q rfl rfl (q_extract rfl rfl rfl) (WL_cons rfl (WX_q rfl rfl (q_extract rfl rfl rfl) (WL_cons rfl (WX_q rfl rfl (q_assign rfl rfl) (WL_cons rfl (WX_q rfl rfl (q_assign rfl rfl) (WL_cons rfl (WX_q rfl rfl (q_assign rfl rfl) (?_))))))))))))))
    refine WL_nil (hK6 _ ?_)
    clear hK6 K6
    refine W_seq (fun K7 hK7 => ?_)
    refine W_seq (fun K8 hK8 => ?_)
    refine W_region (WL_cons rfl (WX_q rfl rfl (q_move rfl rfl) (WL_cons rfl (?_))))
    refine WX_q rfl rfl (q_call rfl (ArgsOK.of rfl) (c_spec_MostWaiting _ (by have := hv1; omega)) rfl) ?_
    refine WL_cons rfl (WX_q rfl rfl (q_move rfl rfl) (WL_cons rfl (WX_q rfl rfl (q_extract rfl rfl rfl) (WL_cons rfl (WX_q rfl rfl (q_extract rfl rfl rfl) (WL_cons rfl (WX_q rfl rfl (q_extract rfl rfl rfl) (WL_cons rfl (WX_q rfl rfl (q_assign rfl rfl) (WL_cons rfl (WX_q rfl rfl (q_assign rfl rfl) (WL_cons rfl (WX_q rfl rfl (q_assign rfl rfl) (?_))))))))))))))
    refine WL_nil (hK8 _ ?_)
    clear hK8 K8
    refine W_seq (fun K9 hK9 => ?_)
    refine W_region (WL_cons rfl (WX_q rfl rfl (q_move rfl rfl) (WL_cons rfl (WX_q rfl rfl (q_move rfl rfl) (WL_cons rfl (?_))))))
    refine WX_q rfl rfl (q_eqv (v' := .bool false) (q_cmp rfl rfl rfl rfl) (by first | rfl | (simp; done) | (simp [eqCells, eqCell]; done))) ?_
    refine WL_cons rfl (WX_q rfl rfl (q_move rfl rfl) (WL_run rfl rfl rfl (WX_q rfl rfl (q_move rfl rfl) (WL_run rfl rfl rfl (WX_q rfl rfl (q_move rfl rfl) (WL_run rfl rfl rfl (?_)))))))
    refine WX_q rfl rfl (q_eqv (v' := .bool false) (q_cmp rfl rfl rfl rfl) (by first | rfl | (simp; done) | (simp [eqCells, eqCell]; done))) ?_
    refine WL_cons rfl (WX_q rfl rfl (q_pick_f rfl rfl rfl) (WL_cons rfl (WX_q rfl rfl (q_move rfl rfl) (WL_run rfl rfl rfl (WX_q rfl rfl (q_move rfl rfl) (WL_run rfl rfl rfl (WX_q rfl rfl (q_move rfl rfl) (WL_run rfl rfl rfl (?_)))))))))
    refine WX_q rfl rfl (q_eqv (v' := .bool false) (q_bne (G 4 _ rfl).1 rfl rfl rfl) (by first | rfl | (simp; done) | (simp [eqCells, eqCell]; done))) ?_
    refine WL_cons rfl (WX_q rfl rfl (q_pick_f rfl rfl rfl) (?_))
    refine WL_nil (hK9 _ ?_)
    clear hK9 K9
    refine W_false rfl ?_
    refine W_skip (hK7 _ ?_)
    clear hK7 K7
    refine W_seq (fun K10 hK10 => ?_)
    refine W_region (WL_cons rfl (WX_q rfl rfl (q_assign rfl rfl) (?_)))
    refine WL_nil (hK10 _ ?_)
    clear hK10 K10
    refine W_joinX (nt := 234) (fun (a : Int) => [(10, .v (.int .i64 a)), (6, .v (.bool (someS x1))), (4, .v (.int .i64 (mwT x1).1)), (3, .own 0), (0, .lst 1 (l.map encU))]) (fun (a : Int) => [(0, some (.row 48 3 (x1.map encSc)))]) (fun a => (someS x1 = true → 0 < (mwT x1).1 → a = (mwT x1).1)) 60 [0, 3, 4, 6, 10] [0] ?_ (fun a ha => ?_)
    · skip
      refine W_seq (fun K12 hK12 => ?_)
      refine W_region (WL_cons rfl (WX_q rfl rfl (q_assign rfl rfl) (?_)))
      refine WL_nil (hK12 _ ?_)
      clear hK12 K12
      refine W_block ?_
      refine W_loopK [0, 3, 4, 5, 6] [0] (fun (i : Nat) => [(10, .v (.int .i64 (wtN x1 (mwT x1).2 i))), (11, .v (.int .i64 (i : Int)))]) (fun (i : Nat) => []) (fun (i : Nat) => i ≤ x1.length) (fun (i : Nat) => x1.length - i) 0 rfl rfl ?_ ?_ ?_ ?_
      · exact Nat.zero_le _
      · exact ⟨⟨_, rfl, by rfl⟩, rfl, ⟨⟨_, rfl, by rfl⟩, rfl, trivial⟩⟩
      · exact trivial
      · intro i hinv
        have hi := hinv
        have hlx := hv1
        have hwn := cntN_le (fun k => decide ((x1.getD k default).a ≤ (mwT x1).2) && decide ((mwT x1).2 < (x1.getD k default).g)) i
        have hwe : wtN x1 (mwT x1).2 i = cntN (fun k => decide ((x1.getD k default).a ≤ (mwT x1).2) && decide ((mwT x1).2 < (x1.getD k default).g)) i := rfl
        simp only [List.cons_append, List.nil_append]
        refine W_seq (fun K13 hK13 => ?_)
        refine W_seq (fun K14 hK14 => ?_)
        refine W_region (WL_cons rfl (WX_q rfl rfl (q_move rfl rfl) (WL_cons rfl (WX_q rfl rfl (q_move rfl rfl) (WL_cons rfl (?_))))))
        first | refine WX_q rfl rfl (q_len' G rfl rfl rfl rfl (List.length_map _)) ?_ | refine WX_q rfl rfl (q_len G rfl rfl rfl rfl) ?_
        refine WL_cons rfl (WX_q rfl rfl (q_cmp rfl rfl rfl rfl) (WL_cons rfl (WX_q rfl rfl (q_move rfl rfl) (WL_part rfl rfl rfl (fun h2 => ?_) (fun h2 => ?_)))))
        · try rw [h2]
          try simp only [decide_eq_true_eq, decide_eq_false_iff_not, beq_iff_eq, bne_iff_ne, ne_eq, Bool.not_eq_true', Bool.not_eq_false', beq_eq_false_iff_ne, bne_eq_false_iff_eq, Bool.not_eq_true, Bool.not_eq_false, Int.not_lt, Int.not_le, gt_iff_lt, ge_iff_le, Bool.and_eq_true, Bool.and_eq_false_iff, Bool.or_eq_true, Bool.or_eq_false_iff] at h2
          refine WL_run rfl rfl rfl (WX_q rfl rfl (q_move rfl rfl) (WL_cons rfl (WX_q rfl rfl (q_pick_t rfl rfl rfl) (?_))))
          refine WL_nil (hK14 _ ?_)
          clear hK14 K14
          refine W_cond rfl (fun h3 => ?_) (fun h3 => ?_)
          · try rw [h3]
            try simp only [decide_eq_true_eq, decide_eq_false_iff_not, beq_iff_eq, bne_iff_ne, ne_eq, Bool.not_eq_true', Bool.not_eq_false', beq_eq_false_iff_ne, bne_eq_false_iff_eq, Bool.not_eq_true, Bool.not_eq_false, Int.not_lt, Int.not_le, gt_iff_lt, ge_iff_le, Bool.and_eq_true, Bool.and_eq_false_iff, Bool.or_eq_true, Bool.or_eq_false_iff] at h3
            refine W_skip (hK13 _ ?_)
            clear hK13 K13
            refine W_seq (fun K15 hK15 => ?_)
            refine W_block ?_
            refine W_seq (fun K16 hK16 => ?_)
            refine W_region (WL_cons rfl (WX_q rfl rfl (q_move rfl rfl) (WL_cons rfl (WX_q rfl rfl (q_move rfl rfl) (WL_cons rfl (?_))))))
            refine WX_q rfl rfl (q_index_own G rfl rfl rfl rfl rfl (by omega) (by rw [List.length_map]; omega)) ?_
            refine WL_cons rfl (WX_q rfl rfl (q_field_rpt G rfl rfl rfl rfl) (WL_cons rfl (?_)))
            first | refine WX_q rfl rfl (q_load_rpt G rfl rfl rfl rfl rfl (getN (by omega)) rfl) ?_ | refine WX_q rfl rfl (q_load_rpt G rfl rfl rfl rfl rfl (getNI (by omega) (by omega)) rfl) ?_
            refine WL_cons rfl (WX_q rfl rfl (q_move rfl rfl) (WL_cons rfl (WX_q rfl rfl (q_cmp rfl rfl rfl rfl) (WL_cons rfl (WX_q rfl rfl (q_move rfl rfl) (WL_part rfl rfl rfl (fun h4 => ?_) (fun h4 => ?_)))))))
            · try rw [h4]
              try simp only [decide_eq_true_eq, decide_eq_false_iff_not, beq_iff_eq, bne_iff_ne, ne_eq, Bool.not_eq_true', Bool.not_eq_false', beq_eq_false_iff_ne, bne_eq_false_iff_eq, Bool.not_eq_true, Bool.not_eq_false, Int.not_lt, Int.not_le, gt_iff_lt, ge_iff_le, Bool.and_eq_true, Bool.and_eq_false_iff, Bool.or_eq_true, Bool.or_eq_false_iff] at h4
              refine WL_run rfl rfl rfl (WX_q rfl rfl (q_move rfl rfl) (WL_run rfl rfl rfl (WX_q rfl rfl (q_move rfl rfl) (WL_run rfl rfl rfl (WX_q rfl rfl (q_move rfl rfl) (WL_run rfl rfl rfl (?_)))))))
              refine WX_q rfl rfl (q_index_own G rfl rfl rfl rfl rfl (by omega) (by rw [List.length_map]; omega)) ?_
              refine WL_run rfl rfl rfl (WX_q rfl rfl (q_field_rpt G rfl rfl rfl rfl) (WL_run rfl rfl rfl (?_)))
              first | refine WX_q rfl rfl (q_load_rpt G rfl rfl rfl rfl rfl (getN (by omega)) rfl) ?_ | refine WX_q rfl rfl (q_load_rpt G rfl rfl rfl rfl rfl (getNI (by omega) (by omega)) rfl) ?_
              refine WL_run rfl rfl rfl (WX_q rfl rfl (q_cmp rfl rfl rfl rfl) (WL_cons rfl (WX_q rfl rfl (q_pick_t rfl rfl rfl) (?_))))
              refine WL_nil (hK16 _ ?_)
              clear hK16 K16
              refine W_cond rfl (fun h5 => ?_) (fun h5 => ?_)
              · try rw [h5]
                try simp only [decide_eq_true_eq, decide_eq_false_iff_not, beq_iff_eq, bne_iff_ne, ne_eq, Bool.not_eq_true', Bool.not_eq_false', beq_eq_false_iff_ne, bne_eq_false_iff_eq, Bool.not_eq_true, Bool.not_eq_false, Int.not_lt, Int.not_le, gt_iff_lt, ge_iff_le, Bool.and_eq_true, Bool.and_eq_false_iff, Bool.or_eq_true, Bool.or_eq_false_iff] at h5
                refine W_region (WL_cons rfl (WX_q rfl rfl (q_move rfl rfl) (WL_cons rfl (?_))))
                first | refine WX_q rfl rfl (q_arith rfl rfl rfl rfl (by omega) (by omega)) ?_ | refine WX_q rfl rfl (q_wrap rfl rfl rfl rfl) ?_
                refine WL_cons rfl (WX_q rfl rfl (q_assign rfl rfl) (?_))
                refine WL_nil (hK15 _ ?_)
                clear hK15 K15
                refine W_region (WL_cons rfl (WX_q rfl rfl (q_move rfl rfl) (WL_cons rfl (?_))))
                first | refine WX_q rfl rfl (q_arith rfl rfl rfl rfl (by omega) (by omega)) ?_ | refine WX_q rfl rfl (q_wrap rfl rfl rfl rfl) ?_
                refine WL_cons rfl (WX_q rfl rfl (q_assign rfl rfl) (?_))
                refine WL_nil ⟨(i + 1), ?_, ?_, ⟨⟨_, rfl, by (first | rfl | exact congrArg (fun v => AV.v (.int .i64 v)) (wtN_t (by omega) (by omega)).symm | exact congrArg (fun v => AV.v (.int .i64 v)) (wtN_f (by omega)).symm)⟩, rfl, ⟨⟨_, rfl, by (first | rfl | exact congrArg (fun v => AV.v (.int .i64 v)) (wtN_t (by omega) (by omega)).symm | exact congrArg (fun v => AV.v (.int .i64 v)) (wtN_f (by omega)).symm)⟩, rfl, trivial⟩⟩, trivial, (by first | rfl | (rw [h3]; rfl)), rfl, rfl⟩
                · omega
                · omega
              · try rw [h5]
                try simp only [decide_eq_true_eq, decide_eq_false_iff_not, beq_iff_eq, bne_iff_ne, ne_eq, Bool.not_eq_true', Bool.not_eq_false', beq_eq_false_iff_ne, bne_eq_false_iff_eq, Bool.not_eq_true, Bool.not_eq_false, Int.not_lt, Int.not_le, gt_iff_lt, ge_iff_le, Bool.and_eq_true, Bool.and_eq_false_iff, Bool.or_eq_true, Bool.or_eq_false_iff] at h5
                refine W_skip (hK15 _ ?_)
                clear hK15 K15
                refine W_region (WL_cons rfl (WX_q rfl rfl (q_move rfl rfl) (WL_cons rfl (?_))))
                first | refine WX_q rfl rfl (q_arith rfl rfl rfl rfl (by omega) (by omega)) ?_ | refine WX_q rfl rfl (q_wrap rfl rfl rfl rfl) ?_
                refine WL_cons rfl (WX_q rfl rfl (q_assign rfl rfl) (?_))
                refine WL_nil ⟨(i + 1), ?_, ?_, ⟨⟨_, rfl, by (first | rfl | exact congrArg (fun v => AV.v (.int .i64 v)) (wtN_t (by omega) (by omega)).symm | exact congrArg (fun v => AV.v (.int .i64 v)) (wtN_f (by omega)).symm)⟩, rfl, ⟨⟨_, rfl, by (first | rfl | exact congrArg (fun v => AV.v (.int .i64 v)) (wtN_t (by omega) (by omega)).symm | exact congrArg (fun v => AV.v (.int .i64 v)) (wtN_f (by omega)).symm)⟩, rfl, trivial⟩⟩, trivial, (by first | rfl | (rw [h3]; rfl)), rfl, rfl⟩
                · omega
                · omega
            · try rw [h4]
              try simp only [decide_eq_true_eq, decide_eq_false_iff_not, beq_iff_eq, bne_iff_ne, ne_eq, Bool.not_eq_true', Bool.not_eq_false', beq_eq_false_iff_ne, bne_eq_false_iff_eq, Bool.not_eq_true, Bool.not_eq_false, Int.not_lt, Int.not_le, gt_iff_lt, ge_iff_le, Bool.and_eq_true, Bool.and_eq_false_iff, Bool.or_eq_true, Bool.or_eq_false_iff] at h4
              refine WL_skip rfl rfl rfl rfl rfl rfl (WL_skip rfl rfl rfl rfl rfl rfl (WL_skip rfl rfl rfl rfl rfl rfl (WL_skip rfl rfl rfl rfl rfl rfl (WL_skip rfl rfl rfl rfl rfl rfl (WL_skip rfl rfl rfl rfl rfl rfl (WL_skip rfl rfl rfl rfl rfl rfl (WL_cons rfl (WX_q rfl rfl (q_pick_f rfl rfl rfl) (?_)))))))))
              refine WL_nil (hK16 _ ?_)
              clear hK16 K16
              refine W_false rfl ?_
              refine W_skip (hK15 _ ?_)
              clear hK15 K15
              refine W_region (WL_cons rfl (WX_q rfl rfl (q_move rfl rfl) (WL_cons rfl (?_))))
              first | refine WX_q rfl rfl (q_arith rfl rfl rfl rfl (by omega) (by omega)) ?_ | refine WX_q rfl rfl (q_wrap rfl rfl rfl rfl) ?_
              refine WL_cons rfl (WX_q rfl rfl (q_assign rfl rfl) (?_))
              refine WL_nil ⟨(i + 1), ?_, ?_, ⟨⟨_, rfl, by (first | rfl | exact congrArg (fun v => AV.v (.int .i64 v)) (wtN_t (by omega) (by omega)).symm | exact congrArg (fun v => AV.v (.int .i64 v)) (wtN_f (by omega)).symm)⟩, rfl, ⟨⟨_, rfl, by (first | rfl | exact congrArg (fun v => AV.v (.int .i64 v)) (wtN_t (by omega) (by omega)).symm | exact congrArg (fun v => AV.v (.int .i64 v)) (wtN_f (by omega)).symm)⟩, rfl, trivial⟩⟩, trivial, (by first | rfl | (rw [h3]; rfl)), rfl, rfl⟩
              · omega
              · omega
          · try rw [h3]
            try simp only [decide_eq_true_eq, decide_eq_false_iff_not, beq_iff_eq, bne_iff_ne, ne_eq, Bool.not_eq_true', Bool.not_eq_false', beq_eq_false_iff_ne, bne_eq_false_iff_eq, Bool.not_eq_true, Bool.not_eq_false, Int.not_lt, Int.not_le, gt_iff_lt, ge_iff_le, Bool.and_eq_true, Bool.and_eq_false_iff, Bool.or_eq_true, Bool.or_eq_false_iff] at h3
            exact W_exit ⟨(wtN x1 (mwT x1).2 i), (fun hok _ => absurd hok (by first | (rw [h3]; simp) | simp_all)), (by first | rfl | (rw [h3]; rfl)), rfl, rfl, rfl⟩
        · try rw [h2]
          try simp only [decide_eq_true_eq, decide_eq_false_iff_not, beq_iff_eq, bne_iff_ne, ne_eq, Bool.not_eq_true', Bool.not_eq_false', beq_eq_false_iff_ne, bne_eq_false_iff_eq, Bool.not_eq_true, Bool.not_eq_false, Int.not_lt, Int.not_le, gt_iff_lt, ge_iff_le, Bool.and_eq_true, Bool.and_eq_false_iff, Bool.or_eq_true, Bool.or_eq_false_iff] at h2
          refine WL_skip rfl rfl rfl rfl rfl rfl (WL_cons rfl (WX_q rfl rfl (q_pick_f rfl rfl rfl) (?_)))
          refine WL_nil (hK14 _ ?_)
          clear hK14 K14
          refine W_false rfl ?_
          exact W_exit ⟨(wtN x1 (mwT x1).2 i), (fun hok hp => (by have e : i = x1.length := (by omega); subst e; exact waits_is hok hp)), (by first | rfl | (rw [h3]; rfl)), rfl, rfl, rfl⟩
    · skip
      refine W_join (nt := 234) (T1 := [(3, .own 0), (0, .lst 1 (l.map encU))]) (M1 := [(0, some (.row 48 3 (x1.map encSc)))]) 120 [0, 3] [0] ?_ ?_
      · skip
        refine W_seq (fun K18 hK18 => ?_)
        refine W_region (WL_cons rfl (WX_q rfl rfl (q_move rfl rfl) (WL_cons rfl (WX_q rfl rfl (q_move rfl rfl) (WL_part rfl rfl rfl (fun h6 => ?_) (fun h6 => ?_))))))
        · try rw [h6]
          try simp only [decide_eq_true_eq, decide_eq_false_iff_not, beq_iff_eq, bne_iff_ne, ne_eq, Bool.not_eq_true', Bool.not_eq_false', beq_eq_false_iff_ne, bne_eq_false_iff_eq, Bool.not_eq_true, Bool.not_eq_false, Int.not_lt, Int.not_le, gt_iff_lt, ge_iff_le, Bool.and_eq_true, Bool.and_eq_false_iff, Bool.or_eq_true, Bool.or_eq_false_iff] at h6
          have hok := h6
          refine WL_run rfl rfl rfl (WX_q rfl rfl (q_move rfl rfl) (WL_run rfl rfl rfl (WX_q rfl rfl (q_cmp rfl rfl rfl rfl) (WL_cons rfl (WX_q rfl rfl (q_pick_t rfl rfl rfl) (WL_cons rfl (WX_q rfl rfl (q_move rfl rfl) (WL_part rfl rfl rfl (fun h7 => ?_) (fun h7 => ?_)))))))))
          · try rw [h7]
            try simp only [decide_eq_true_eq, decide_eq_false_iff_not, beq_iff_eq, bne_iff_ne, ne_eq, Bool.not_eq_true', Bool.not_eq_false', beq_eq_false_iff_ne, bne_eq_false_iff_eq, Bool.not_eq_true, Bool.not_eq_false, Int.not_lt, Int.not_le, gt_iff_lt, ge_iff_le, Bool.and_eq_true, Bool.and_eq_false_iff, Bool.or_eq_true, Bool.or_eq_false_iff] at h7
            have hpos := h7
            refine WL_run rfl rfl rfl (WX_q rfl rfl (q_move rfl rfl) (WL_run rfl rfl rfl (WX_q rfl rfl (q_move rfl rfl) (WL_run rfl rfl rfl (?_)))))
            refine WX_q rfl rfl (q_eqv (v' := .bool false) (q_cmp rfl rfl rfl rfl) (by rw [ha hok hpos]; simp)) ?_
            refine WL_cons rfl (WX_q rfl rfl (q_pick_t rfl rfl rfl) (?_))
            refine WL_nil (hK18 _ ?_)
            clear hK18 K18
            refine W_false rfl ?_
            exact W_skip ⟨rfl, rfl, rfl, rfl⟩
          · try rw [h7]
            try simp only [decide_eq_true_eq, decide_eq_false_iff_not, beq_iff_eq, bne_iff_ne, ne_eq, Bool.not_eq_true', Bool.not_eq_false', beq_eq_false_iff_ne, bne_eq_false_iff_eq, Bool.not_eq_true, Bool.not_eq_false, Int.not_lt, Int.not_le, gt_iff_lt, ge_iff_le, Bool.and_eq_true, Bool.and_eq_false_iff, Bool.or_eq_true, Bool.or_eq_false_iff] at h7
            refine WL_skip rfl rfl rfl rfl rfl rfl (WL_skip rfl rfl rfl rfl rfl rfl (WL_skip rfl rfl rfl rfl rfl rfl (WL_cons rfl (WX_q rfl rfl (q_pick_f rfl rfl rfl) (?_)))))
            refine WL_nil (hK18 _ ?_)
            clear hK18 K18
            refine W_false rfl ?_
            exact W_skip ⟨rfl, rfl, rfl, rfl⟩
        · try rw [h6]
          try simp only [decide_eq_true_eq, decide_eq_false_iff_not, beq_iff_eq, bne_iff_ne, ne_eq, Bool.not_eq_true', Bool.not_eq_false', beq_eq_false_iff_ne, bne_eq_false_iff_eq, Bool.not_eq_true, Bool.not_eq_false, Int.not_lt, Int.not_le, gt_iff_lt, ge_iff_le, Bool.and_eq_true, Bool.and_eq_false_iff, Bool.or_eq_true, Bool.or_eq_false_iff] at h6
          refine WL_skip rfl rfl rfl rfl rfl rfl (WL_skip rfl rfl rfl rfl rfl rfl (WL_cons rfl (WX_q rfl rfl (q_pick_f rfl rfl rfl) (WL_cons rfl (WX_q rfl rfl (q_move rfl rfl) (WL_skip rfl rfl rfl rfl rfl rfl (WL_skip rfl rfl rfl rfl rfl rfl (WL_skip rfl rfl rfl rfl rfl rfl (WL_cons rfl (WX_q rfl rfl (q_pick_f rfl rfl rfl) (?_)))))))))))
          refine WL_nil (hK18 _ ?_)
          clear hK18 K18
          refine W_false rfl ?_
          exact W_skip ⟨rfl, rfl, rfl, rfl⟩
      · skip
        refine W_seq (fun K19 hK19 => ?_)
        refine W_region (WL_cons rfl (WX_q rfl rfl (q_move rfl rfl) (WL_cons rfl (?_))))
        refine WX_call 121 rfl rfl rfl (ArgsOK.of rfl) (c_impl_IrqShares _ (by have := hv1; omega)) rfl rfl ?_
        refine WL_cons rfl (WX_q rfl rfl (q_move rfl rfl) (WL_cons rfl (WX_q rfl rfl (q_extract rfl rfl rfl) (WL_cons rfl (WX_q rfl rfl (q_extract rfl rfl rfl) (WL_cons rfl (WX_q rfl rfl (q_assign rfl rfl) (WL_cons rfl (WX_q rfl rfl (q_assign rfl rfl) (?_))))))))))
        refine WL_nil (hK19 _ ?_)
        clear hK19 K19
        refine W_seq (fun K20 hK20 => ?_)
        refine W_seq (fun K21 hK21 => ?_)
        refine W_region (WL_cons rfl (WX_q rfl rfl (q_move rfl rfl) (WL_cons rfl (?_))))
        refine WX_call 122 rfl rfl rfl (ArgsOK.of rfl) (c_spec_IrqShares _ (by have := hv1; omega)) rfl rfl ?_
        refine WL_cons rfl (WX_q rfl rfl (q_move rfl rfl) (WL_cons rfl (WX_q rfl rfl (q_extract rfl rfl rfl) (WL_cons rfl (WX_q rfl rfl (q_extract rfl rfl rfl) (WL_cons rfl (WX_q rfl rfl (q_assign rfl rfl) (WL_cons rfl (WX_q rfl rfl (q_assign rfl rfl) (?_))))))))))
        refine WL_nil (hK21 _ ?_)
        clear hK21 K21
        refine W_seq (fun K22 hK22 => ?_)
        refine W_region (WL_cons rfl (WX_q rfl rfl (q_move rfl rfl) (WL_cons rfl (WX_q rfl rfl (q_move rfl rfl) (WL_cons rfl (?_))))))
        refine WX_q rfl rfl (q_eqv (v' := .bool false) (q_bne (G 4 _ rfl).1 rfl rfl rfl) (by first | rfl | (simp; done) | exact congrArg Value.bool (decide_eq_false (by have := shares_sum (xs := x1); omega)))) ?_
        refine WL_cons rfl (WX_q rfl rfl (q_move rfl rfl) (WL_run rfl rfl rfl (WX_q rfl rfl (q_move rfl rfl) (WL_run rfl rfl rfl (WX_q rfl rfl (q_move rfl rfl) (WL_run rfl rfl rfl (?_)))))))
        refine WX_q rfl rfl (q_call rfl (ArgsOK.of rfl) (c_laws_rInts _ (by have := shT_len (xs := x1); omega)) rfl) ?_
        refine WL_run rfl rfl rfl (WX_q rfl rfl (q_not_t rfl rfl) (WL_cons rfl (WX_q rfl rfl (q_pick_f rfl rfl rfl) (WL_cons rfl (WX_q rfl rfl (q_move rfl rfl) (WL_run rfl rfl rfl (WX_q rfl rfl (q_move rfl rfl) (WL_run rfl rfl rfl (?_)))))))))
        refine WX_q rfl rfl (q_call rfl (ArgsOK.of rfl) (c_laws_rSum (shT x1) (by have := shT_len (xs := x1); omega) (shT_in hv1)) rfl) ?_
        refine WL_run rfl rfl rfl (?_)
        refine WX_q rfl rfl (q_eqv (v' := .bool false) (q_cmp rfl rfl rfl rfl) (by first | rfl | (simp; done) | exact congrArg Value.bool (decide_eq_false (by have := shares_sum (xs := x1); omega)))) ?_
        refine WL_cons rfl (WX_q rfl rfl (q_pick_f rfl rfl rfl) (?_))
        refine WL_nil (hK22 _ ?_)
        clear hK22 K22
        refine W_false rfl ?_
        refine W_skip (hK20 _ ?_)
        clear hK20 K20
        refine W_seq (fun K23 hK23 => ?_)
        refine W_region (WL_cons rfl (WX_q rfl rfl (q_move rfl rfl) (WL_cons rfl (?_))))
        refine WX_callx 123 [] rfl rfl rfl (c_spec_DrawBusiestSpan l hl) rfl RowsIn.nil rfl (fun _ => rfl) rfl (fun x2 ⟨hv2, hc2⟩ => ?_)
        refine WL_cons rfl (WX_q rfl rfl (q_move rfl rfl) (WL_cons rfl (WX_q rfl rfl (q_extract rfl rfl rfl) (WL_cons rfl (WX_q rfl rfl (q_extract rfl rfl rfl) (WL_cons rfl (WX_q rfl rfl (q_assign rfl rfl) (WL_cons rfl (WX_q rfl rfl (q_assign rfl rfl) (?_))))))))))
        refine WL_nil (hK23 _ ?_)
        clear hK23 K23
        refine W_seq (fun K24 hK24 => ?_)
        refine W_region (WL_cons rfl (WX_q rfl rfl (q_move rfl rfl) (WL_cons rfl (WX_q rfl rfl (q_move rfl rfl) (WL_cons rfl (?_))))))
        refine WX_q rfl rfl (q_call rfl (ArgsOK.of rfl) (c_impl_BusiestSpan _ _ (by have := hv2.1; omega)) rfl) ?_
        refine WL_cons rfl (WX_q rfl rfl (q_move rfl rfl) (WL_cons rfl (WX_q rfl rfl (q_extract rfl rfl rfl) (WL_cons rfl (WX_q rfl rfl (q_extract rfl rfl rfl) (WL_cons rfl (WX_q rfl rfl (q_extract rfl rfl rfl) (WL_cons rfl (WX_q rfl rfl (q_assign rfl rfl) (WL_cons rfl (WX_q rfl rfl (q_assign rfl rfl) (WL_cons rfl (WX_q rfl rfl (q_assign rfl rfl) (?_))))))))))))))
        refine WL_nil (hK24 _ ?_)
        clear hK24 K24
        refine W_seq (fun K25 hK25 => ?_)
        refine W_seq (fun K26 hK26 => ?_)
        refine W_region (WL_cons rfl (WX_q rfl rfl (q_move rfl rfl) (WL_cons rfl (WX_q rfl rfl (q_move rfl rfl) (WL_cons rfl (?_))))))
        refine WX_q rfl rfl (q_call rfl (ArgsOK.of rfl) (c_spec_BusiestSpan _ _ (by have := hv2.1; omega)) rfl) ?_
        refine WL_cons rfl (WX_q rfl rfl (q_move rfl rfl) (WL_cons rfl (WX_q rfl rfl (q_extract rfl rfl rfl) (WL_cons rfl (WX_q rfl rfl (q_extract rfl rfl rfl) (WL_cons rfl (WX_q rfl rfl (q_extract rfl rfl rfl) (WL_cons rfl (WX_q rfl rfl (q_assign rfl rfl) (WL_cons rfl (WX_q rfl rfl (q_assign rfl rfl) (WL_cons rfl (WX_q rfl rfl (q_assign rfl rfl) (?_))))))))))))))
        refine WL_nil (hK26 _ ?_)
        clear hK26 K26
        refine W_seq (fun K27 hK27 => ?_)
        refine W_region (WL_cons rfl (WX_q rfl rfl (q_move rfl rfl) (WL_cons rfl (WX_q rfl rfl (q_move rfl rfl) (WL_cons rfl (?_))))))
        refine WX_q rfl rfl (q_eqv (v' := .bool false) (q_cmp rfl rfl rfl rfl) (by first | rfl | (simp; done) | (simp [eqCells, eqCell]; done))) ?_
        refine WL_cons rfl (WX_q rfl rfl (q_move rfl rfl) (WL_run rfl rfl rfl (WX_q rfl rfl (q_move rfl rfl) (WL_run rfl rfl rfl (WX_q rfl rfl (q_move rfl rfl) (WL_run rfl rfl rfl (?_)))))))
        refine WX_q rfl rfl (q_eqv (v' := .bool false) (q_cmp rfl rfl rfl rfl) (by first | rfl | (simp; done) | (simp [eqCells, eqCell]; done))) ?_
        refine WL_cons rfl (WX_q rfl rfl (q_pick_f rfl rfl rfl) (WL_cons rfl (WX_q rfl rfl (q_move rfl rfl) (WL_run rfl rfl rfl (WX_q rfl rfl (q_move rfl rfl) (WL_run rfl rfl rfl (WX_q rfl rfl (q_move rfl rfl) (WL_run rfl rfl rfl (?_)))))))))
        refine WX_q rfl rfl (q_eqv (v' := .bool false) (q_bne (G 4 _ rfl).1 rfl rfl rfl) (by first | rfl | (simp; done) | (simp [eqCells, eqCell]; done))) ?_
        refine WL_cons rfl (WX_q rfl rfl (q_pick_f rfl rfl rfl) (?_))
        refine WL_nil (hK27 _ ?_)
        clear hK27 K27
        refine W_false rfl ?_
        refine W_skip (hK25 _ ?_)
        clear hK25 K25
        refine W_join (nt := 234) (T1 := [(0, .lst 1 (l.map encU))]) (M1 := []) 180 [0] [] ?_ ?_
        · skip
          refine W_seq (fun K29 hK29 => ?_)
          refine W_region (WL_cons rfl (WX_q rfl rfl (q_assign rfl rfl) (?_)))
          refine WL_nil (hK29 _ ?_)
          clear hK29 K29
          refine W_block ?_
          refine W_loopK [0, 16, 17, 18, 19, 20] [0, 120, 121, 122] (fun (i : Nat) => [(24, .v (.int .i64 (i : Int)))]) (fun (i : Nat) => []) (fun (i : Nat) => i ≤ x2.1.length) (fun (i : Nat) => x2.1.length - i) 0 rfl rfl ?_ ?_ ?_ ?_
          · exact Nat.zero_le _
          · exact ⟨⟨_, rfl, by (first | rfl | (simp; done) | (simp; omega))⟩, rfl, trivial⟩
          · exact trivial
          · intro i hinv
            have hi := hinv
            have hlx := hv2.1
            simp only [List.cons_append, List.nil_append]
            refine W_seq (fun K30 hK30 => ?_)
            refine W_seq (fun K31 hK31 => ?_)
            refine W_region (WL_cons rfl (WX_q rfl rfl (q_move rfl rfl) (WL_cons rfl (WX_q rfl rfl (q_move rfl rfl) (WL_cons rfl (?_))))))
            first | refine WX_q rfl rfl (q_len' G rfl rfl rfl rfl (List.length_map _)) ?_ | refine WX_q rfl rfl (q_len G rfl rfl rfl rfl) ?_
            refine WL_cons rfl (WX_q rfl rfl (q_cmp rfl rfl rfl rfl) (WL_cons rfl (WX_q rfl rfl (q_move rfl rfl) (WL_part rfl rfl rfl (fun h8 => ?_) (fun h8 => ?_)))))
            · try rw [h8]
              try simp only [decide_eq_true_eq, decide_eq_false_iff_not, beq_iff_eq, bne_iff_ne, ne_eq, Bool.not_eq_true', Bool.not_eq_false', beq_eq_false_iff_ne, bne_eq_false_iff_eq, Bool.not_eq_true, Bool.not_eq_false, Int.not_lt, Int.not_le, gt_iff_lt, ge_iff_le, Bool.and_eq_true, Bool.and_eq_false_iff, Bool.or_eq_true, Bool.or_eq_false_iff] at h8
              refine WL_run rfl rfl rfl (WX_q rfl rfl (q_move rfl rfl) (WL_cons rfl (WX_q rfl rfl (q_pick_t rfl rfl rfl) (?_))))
              refine WL_nil (hK31 _ ?_)
              clear hK31 K31
              refine W_cond rfl (fun h9 => ?_) (fun h9 => ?_)
              · try rw [h9]
                try simp only [decide_eq_true_eq, decide_eq_false_iff_not, beq_iff_eq, bne_iff_ne, ne_eq, Bool.not_eq_true', Bool.not_eq_false', beq_eq_false_iff_ne, bne_eq_false_iff_eq, Bool.not_eq_true, Bool.not_eq_false, Int.not_lt, Int.not_le, gt_iff_lt, ge_iff_le, Bool.and_eq_true, Bool.and_eq_false_iff, Bool.or_eq_true, Bool.or_eq_false_iff] at h9
                have hso := span_ok (xs := x2.1) (s := x2.2) (i := i) h9 (by omega)
                have hok2 := hso.1
                unfold okS at hok2
                refine W_skip (hK30 _ ?_)
                clear hK30 K30
                refine W_seq (fun K32 hK32 => ?_)
                refine W_block ?_
                refine W_seq (fun K33 hK33 => ?_)
                refine W_region (WL_cons rfl (WX_q rfl rfl (q_assign rfl rfl) (?_)))
                refine WL_nil (hK33 _ ?_)
                clear hK33 K33
                refine W_seq (fun K34 hK34 => ?_)
                refine W_seq (fun K35 hK35 => ?_)
                refine W_region (WL_cons rfl (WX_q rfl rfl (q_assign rfl rfl) (?_)))
                refine WL_nil (hK35 _ ?_)
                clear hK35 K35
                refine W_block ?_
                refine W_loopK [0, 16, 17, 18, 19, 20, 24] [0, 120, 121, 122] (fun (k : Nat) => [(25, .v (.int .i64 (spN x2.1 (x2.1.getD i default).g x2.2 k))), (26, .v (.int .i64 (k : Int)))]) (fun (k : Nat) => []) (fun (k : Nat) => k ≤ x2.1.length) (fun (k : Nat) => x2.1.length - k) 0 rfl rfl ?_ ?_ ?_ ?_
                · exact Nat.zero_le _
                · exact ⟨⟨_, rfl, by rfl⟩, rfl, ⟨⟨_, rfl, by rfl⟩, rfl, trivial⟩⟩
                · exact trivial
                · intro k hk
                  have hsn := cntN_le (fun q => decide ((x2.1.getD i default).g ≤ (x2.1.getD q default).g) && decide ((x2.1.getD q default).g < (x2.1.getD i default).g + x2.2)) k
                  have hse : spN x2.1 (x2.1.getD i default).g x2.2 k = cntN (fun q => decide ((x2.1.getD i default).g ≤ (x2.1.getD q default).g) && decide ((x2.1.getD q default).g < (x2.1.getD i default).g + x2.2)) k := rfl
                  simp only [List.cons_append, List.nil_append]
                  refine W_seq (fun K36 hK36 => ?_)
                  refine W_seq (fun K37 hK37 => ?_)
                  refine W_region (WL_cons rfl (WX_q rfl rfl (q_move rfl rfl) (WL_cons rfl (WX_q rfl rfl (q_move rfl rfl) (WL_cons rfl (?_))))))
                  first | refine WX_q rfl rfl (q_len' G rfl rfl rfl rfl (List.length_map _)) ?_ | refine WX_q rfl rfl (q_len G rfl rfl rfl rfl) ?_
                  refine WL_cons rfl (WX_q rfl rfl (q_cmp rfl rfl rfl rfl) (?_))
                  refine WL_nil (hK37 _ ?_)
                  clear hK37 K37
                  refine W_cond rfl (fun h10 => ?_) (fun h10 => ?_)
                  · try rw [h10]
                    try simp only [decide_eq_true_eq, decide_eq_false_iff_not, beq_iff_eq, bne_iff_ne, ne_eq, Bool.not_eq_true', Bool.not_eq_false', beq_eq_false_iff_ne, bne_eq_false_iff_eq, Bool.not_eq_true, Bool.not_eq_false, Int.not_lt, Int.not_le, gt_iff_lt, ge_iff_le, Bool.and_eq_true, Bool.and_eq_false_iff, Bool.or_eq_true, Bool.or_eq_false_iff] at h10
                    refine W_skip (hK36 _ ?_)
                    clear hK36 K36
                    refine W_seq (fun K38 hK38 => ?_)
                    refine W_block ?_
                    refine W_seq (fun K39 hK39 => ?_)
                    refine W_draws mixed (by kernel_rfl) (QL_cons rfl (QX_q rfl rfl (q_move rfl rfl) (QL_cons rfl (QX_q rfl rfl (q_move rfl rfl) (QL_cons rfl (?_))))))
                    refine QX_q rfl rfl (q_index_own G rfl rfl rfl rfl rfl (by omega) (by rw [List.length_map]; omega)) ?_
                    refine QL_cons rfl (QX_q rfl rfl (q_field_rpt G rfl rfl rfl rfl) (QL_cons rfl (?_)))
                    first | refine QX_q rfl rfl (q_load_rpt G rfl rfl rfl rfl rfl (getN (by omega)) rfl) ?_ | refine QX_q rfl rfl (q_load_rpt G rfl rfl rfl rfl rfl (getNI (by omega) (by omega)) rfl) ?_
                    refine QL_cons rfl (QX_q rfl rfl (q_move rfl rfl) (QL_cons rfl (QX_q rfl rfl (q_move rfl rfl) (QL_cons rfl (?_)))))
                    refine QX_q rfl rfl (q_index_own G rfl rfl rfl rfl rfl (by omega) (by rw [List.length_map]; omega)) ?_
                    refine QL_cons rfl (QX_q rfl rfl (q_field_rpt G rfl rfl rfl rfl) (QL_cons rfl (?_)))
                    first | refine QX_q rfl rfl (q_load_rpt G rfl rfl rfl rfl rfl (getN (by omega)) rfl) ?_ | refine QX_q rfl rfl (q_load_rpt G rfl rfl rfl rfl rfl (getNI (by omega) (by omega)) rfl) ?_
                    refine QL_cons rfl (QX_q rfl rfl (q_cmp rfl rfl rfl rfl) (QL_cons rfl (QX_q rfl rfl (q_move rfl rfl) (QL_part rfl rfl rfl (fun h11 => ?_) (fun h11 => ?_)))))
                    · try rw [h11]
                      try simp only [decide_eq_true_eq, decide_eq_false_iff_not, beq_iff_eq, bne_iff_ne, ne_eq, Bool.not_eq_true', Bool.not_eq_false', beq_eq_false_iff_ne, bne_eq_false_iff_eq, Bool.not_eq_true, Bool.not_eq_false, Int.not_lt, Int.not_le, gt_iff_lt, ge_iff_le, Bool.and_eq_true, Bool.and_eq_false_iff, Bool.or_eq_true, Bool.or_eq_false_iff] at h11
                      refine QL_run rfl rfl rfl (QX_q rfl rfl (q_move rfl rfl) (QL_run rfl rfl rfl (QX_q rfl rfl (q_move rfl rfl) (QL_run rfl rfl rfl (?_)))))
                      refine QX_q rfl rfl (q_index_own G rfl rfl rfl rfl rfl (by omega) (by rw [List.length_map]; omega)) ?_
                      refine QL_run rfl rfl rfl (QX_q rfl rfl (q_field_rpt G rfl rfl rfl rfl) (QL_run rfl rfl rfl (?_)))
                      first | refine QX_q rfl rfl (q_load_rpt G rfl rfl rfl rfl rfl (getN (by omega)) rfl) ?_ | refine QX_q rfl rfl (q_load_rpt G rfl rfl rfl rfl rfl (getNI (by omega) (by omega)) rfl) ?_
                      refine QL_run rfl rfl rfl (QX_q rfl rfl (q_move rfl rfl) (QL_run rfl rfl rfl (QX_q rfl rfl (q_move rfl rfl) (QL_run rfl rfl rfl (?_)))))
                      refine QX_q rfl rfl (q_index_own G rfl rfl rfl rfl rfl (by omega) (by rw [List.length_map]; omega)) ?_
                      refine QL_run rfl rfl rfl (QX_q rfl rfl (q_field_rpt G rfl rfl rfl rfl) (QL_run rfl rfl rfl (?_)))
                      first | refine QX_q rfl rfl (q_load_rpt G rfl rfl rfl rfl rfl (getN (by omega)) rfl) ?_ | refine QX_q rfl rfl (q_load_rpt G rfl rfl rfl rfl rfl (getNI (by omega) (by omega)) rfl) ?_
                      refine QL_run rfl rfl rfl (QX_q rfl rfl (q_move rfl rfl) (QL_run rfl rfl rfl (?_)))
                      first | refine QX_q rfl rfl (q_arith rfl rfl rfl rfl (by omega) (by omega)) ?_ | refine QX_q rfl rfl (q_wrap rfl rfl rfl rfl) ?_
                      refine QL_run rfl rfl rfl (QX_q rfl rfl (q_cmp rfl rfl rfl rfl) (QL_cons rfl (QX_q rfl rfl (q_pick_t rfl rfl rfl) (?_))))
                      refine QL_nil (hK39 _ ?_)
                      clear hK39 K39
                      refine W_cond rfl (fun h12 => ?_) (fun h12 => ?_)
                      · try rw [h12]
                        try simp only [decide_eq_true_eq, decide_eq_false_iff_not, beq_iff_eq, bne_iff_ne, ne_eq, Bool.not_eq_true', Bool.not_eq_false', beq_eq_false_iff_ne, bne_eq_false_iff_eq, Bool.not_eq_true, Bool.not_eq_false, Int.not_lt, Int.not_le, gt_iff_lt, ge_iff_le, Bool.and_eq_true, Bool.and_eq_false_iff, Bool.or_eq_true, Bool.or_eq_false_iff] at h12
                        refine W_region (WL_cons rfl (WX_q rfl rfl (q_move rfl rfl) (WL_cons rfl (?_))))
                        first | refine WX_q rfl rfl (q_arith rfl rfl rfl rfl (by omega) (by omega)) ?_ | refine WX_q rfl rfl (q_wrap rfl rfl rfl rfl) ?_
                        refine WL_cons rfl (WX_q rfl rfl (q_assign rfl rfl) (?_))
                        refine WL_nil (hK38 _ ?_)
                        clear hK38 K38
                        refine W_region (WL_cons rfl (WX_q rfl rfl (q_move rfl rfl) (WL_cons rfl (?_))))
                        first | refine WX_q rfl rfl (q_arith rfl rfl rfl rfl (by omega) (by omega)) ?_ | refine WX_q rfl rfl (q_wrap rfl rfl rfl rfl) ?_
                        refine WL_cons rfl (WX_q rfl rfl (q_assign rfl rfl) (?_))
                        refine WL_nil ⟨(k + 1), ?_, ?_, ⟨⟨_, rfl, by (first | rfl | exact congrArg (fun v => AV.v (.int .i64 v)) (spN_t (by omega) (by omega)).symm | exact congrArg (fun v => AV.v (.int .i64 v)) (spN_f (by omega)).symm)⟩, rfl, ⟨⟨_, rfl, by (first | rfl | exact congrArg (fun v => AV.v (.int .i64 v)) (spN_t (by omega) (by omega)).symm | exact congrArg (fun v => AV.v (.int .i64 v)) (spN_f (by omega)).symm)⟩, rfl, trivial⟩⟩, trivial, rfl, rfl, rfl⟩
                        · omega
                        · omega
                      · try rw [h12]
                        try simp only [decide_eq_true_eq, decide_eq_false_iff_not, beq_iff_eq, bne_iff_ne, ne_eq, Bool.not_eq_true', Bool.not_eq_false', beq_eq_false_iff_ne, bne_eq_false_iff_eq, Bool.not_eq_true, Bool.not_eq_false, Int.not_lt, Int.not_le, gt_iff_lt, ge_iff_le, Bool.and_eq_true, Bool.and_eq_false_iff, Bool.or_eq_true, Bool.or_eq_false_iff] at h12
                        refine W_skip (hK38 _ ?_)
                        clear hK38 K38
                        refine W_region (WL_cons rfl (WX_q rfl rfl (q_move rfl rfl) (WL_cons rfl (?_))))
                        first | refine WX_q rfl rfl (q_arith rfl rfl rfl rfl (by omega) (by omega)) ?_ | refine WX_q rfl rfl (q_wrap rfl rfl rfl rfl) ?_
                        refine WL_cons rfl (WX_q rfl rfl (q_assign rfl rfl) (?_))
                        refine WL_nil ⟨(k + 1), ?_, ?_, ⟨⟨_, rfl, by (first | rfl | exact congrArg (fun v => AV.v (.int .i64 v)) (spN_t (by omega) (by omega)).symm | exact congrArg (fun v => AV.v (.int .i64 v)) (spN_f (by omega)).symm)⟩, rfl, ⟨⟨_, rfl, by (first | rfl | exact congrArg (fun v => AV.v (.int .i64 v)) (spN_t (by omega) (by omega)).symm | exact congrArg (fun v => AV.v (.int .i64 v)) (spN_f (by omega)).symm)⟩, rfl, trivial⟩⟩, trivial, rfl, rfl, rfl⟩
                        · omega
                        · omega
                    · try rw [h11]
                      try simp only [decide_eq_true_eq, decide_eq_false_iff_not, beq_iff_eq, bne_iff_ne, ne_eq, Bool.not_eq_true', Bool.not_eq_false', beq_eq_false_iff_ne, bne_eq_false_iff_eq, Bool.not_eq_true, Bool.not_eq_false, Int.not_lt, Int.not_le, gt_iff_lt, ge_iff_le, Bool.and_eq_true, Bool.and_eq_false_iff, Bool.or_eq_true, Bool.or_eq_false_iff] at h11
                      refine QL_skip rfl rfl rfl rfl rfl rfl (QL_skip rfl rfl rfl rfl rfl rfl (QL_skip rfl rfl rfl rfl rfl rfl (QL_skip rfl rfl rfl rfl rfl rfl (QL_skip rfl rfl rfl rfl rfl rfl (QL_skip rfl rfl rfl rfl rfl rfl (QL_skip rfl rfl rfl rfl rfl rfl (QL_skip rfl rfl rfl rfl rfl rfl (QL_skip rfl rfl rfl rfl rfl rfl (QL_skip rfl rfl rfl rfl rfl rfl (QL_skip rfl rfl rfl rfl rfl rfl (QL_skip rfl rfl rfl rfl rfl rfl (QL_skip rfl rfl rfl rfl rfl rfl (QL_cons rfl (QX_q rfl rfl (q_pick_f rfl rfl rfl) (?_)))))))))))))))
                      refine QL_nil (hK39 _ ?_)
                      clear hK39 K39
                      refine W_false rfl ?_
                      refine W_skip (hK38 _ ?_)
                      clear hK38 K38
                      refine W_region (WL_cons rfl (WX_q rfl rfl (q_move rfl rfl) (WL_cons rfl (?_))))
                      first | refine WX_q rfl rfl (q_arith rfl rfl rfl rfl (by omega) (by omega)) ?_ | refine WX_q rfl rfl (q_wrap rfl rfl rfl rfl) ?_
                      refine WL_cons rfl (WX_q rfl rfl (q_assign rfl rfl) (?_))
                      refine WL_nil ⟨(k + 1), ?_, ?_, ⟨⟨_, rfl, by (first | rfl | exact congrArg (fun v => AV.v (.int .i64 v)) (spN_t (by omega) (by omega)).symm | exact congrArg (fun v => AV.v (.int .i64 v)) (spN_f (by omega)).symm)⟩, rfl, ⟨⟨_, rfl, by (first | rfl | exact congrArg (fun v => AV.v (.int .i64 v)) (spN_t (by omega) (by omega)).symm | exact congrArg (fun v => AV.v (.int .i64 v)) (spN_f (by omega)).symm)⟩, rfl, trivial⟩⟩, trivial, rfl, rfl, rfl⟩
                      · omega
                      · omega
                  · try rw [h10]
                    try simp only [decide_eq_true_eq, decide_eq_false_iff_not, beq_iff_eq, bne_iff_ne, ne_eq, Bool.not_eq_true', Bool.not_eq_false', beq_eq_false_iff_ne, bne_eq_false_iff_eq, Bool.not_eq_true, Bool.not_eq_false, Int.not_lt, Int.not_le, gt_iff_lt, ge_iff_le, Bool.and_eq_true, Bool.and_eq_false_iff, Bool.or_eq_true, Bool.or_eq_false_iff] at h10
                    have ek : k = x2.1.length := (by omega)
                    subst ek
                    have hsp := sp_is (xs := x2.1) (s := x2.2) (i := i)
                    refine W_exit (hK34 _ ?_)
                    clear hK36 K36 hK34 K34
                    refine W_seq (fun K40 hK40 => ?_)
                    refine W_region (WL_cons rfl (WX_q rfl rfl (q_move rfl rfl) (WL_cons rfl (WX_q rfl rfl (q_move rfl rfl) (WL_cons rfl (?_))))))
                    refine WX_q rfl rfl (q_eqv (v' := .bool false) (q_cmp rfl rfl rfl rfl) (by first | exact congrArg Value.bool (decide_eq_false (by omega)))) ?_
                    refine WL_cons rfl (WX_q rfl rfl (q_move rfl rfl) (WL_run rfl rfl rfl (WX_q rfl rfl (q_move rfl rfl) (WL_run rfl rfl rfl (WX_q rfl rfl (q_move rfl rfl) (WL_run rfl rfl rfl (?_)))))))
                    refine WX_q rfl rfl (q_index_own G rfl rfl rfl rfl rfl (by omega) (by rw [List.length_map]; omega)) ?_
                    refine WL_run rfl rfl rfl (WX_q rfl rfl (q_field_rpt G rfl rfl rfl rfl) (WL_run rfl rfl rfl (?_)))
                    first | refine WX_q rfl rfl (q_load_rpt G rfl rfl rfl rfl rfl (getN (by omega)) rfl) ?_ | refine WX_q rfl rfl (q_load_rpt G rfl rfl rfl rfl rfl (getNI (by omega) (by omega)) rfl) ?_
                    refine WL_run rfl rfl rfl (WX_q rfl rfl (q_move rfl rfl) (WL_run rfl rfl rfl (WX_q rfl rfl (q_cmp rfl rfl rfl rfl) (WL_run rfl rfl rfl (WX_q rfl rfl (q_move rfl rfl) (WL_part rfl rfl rfl (fun h13 => ?_) (fun h13 => ?_)))))))
                    · try rw [h13]
                      try simp only [decide_eq_true_eq, decide_eq_false_iff_not, beq_iff_eq, bne_iff_ne, ne_eq, Bool.not_eq_true', Bool.not_eq_false', beq_eq_false_iff_ne, bne_eq_false_iff_eq, Bool.not_eq_true, Bool.not_eq_false, Int.not_lt, Int.not_le, gt_iff_lt, ge_iff_le, Bool.and_eq_true, Bool.and_eq_false_iff, Bool.or_eq_true, Bool.or_eq_false_iff] at h13
                      refine WL_run rfl rfl rfl (WX_q rfl rfl (q_move rfl rfl) (WL_run rfl rfl rfl (WX_q rfl rfl (q_move rfl rfl) (WL_run rfl rfl rfl (?_)))))
                      refine WX_q rfl rfl (q_eqv (v' := .bool false) (q_cmp rfl rfl rfl rfl) (by first | exact congrArg Value.bool (decide_eq_false (by omega)))) ?_
                      refine WL_run rfl rfl rfl (WX_q rfl rfl (q_pick_t rfl rfl rfl) (WL_cons rfl (WX_q rfl rfl (q_pick_f rfl rfl rfl) (?_))))
                      refine WL_nil (hK40 _ ?_)
                      clear hK40 K40
                      refine W_false rfl ?_
                      refine W_skip (hK32 _ ?_)
                      clear hK32 K32
                      refine W_region (WL_cons rfl (WX_q rfl rfl (q_move rfl rfl) (WL_cons rfl (?_))))
                      first | refine WX_q rfl rfl (q_arith rfl rfl rfl rfl (by omega) (by omega)) ?_ | refine WX_q rfl rfl (q_wrap rfl rfl rfl rfl) ?_
                      refine WL_cons rfl (WX_q rfl rfl (q_assign rfl rfl) (?_))
                      refine WL_nil ⟨(i + 1), ?_, ?_, ⟨⟨_, rfl, by rfl⟩, rfl, trivial⟩, trivial, (by first | rfl | (rw [h9]; rfl)), rfl, rfl⟩
                      · omega
                      · omega
                    · try rw [h13]
                      try simp only [decide_eq_true_eq, decide_eq_false_iff_not, beq_iff_eq, bne_iff_ne, ne_eq, Bool.not_eq_true', Bool.not_eq_false', beq_eq_false_iff_ne, bne_eq_false_iff_eq, Bool.not_eq_true, Bool.not_eq_false, Int.not_lt, Int.not_le, gt_iff_lt, ge_iff_le, Bool.and_eq_true, Bool.and_eq_false_iff, Bool.or_eq_true, Bool.or_eq_false_iff] at h13
                      refine WL_skip rfl rfl rfl rfl rfl rfl (WL_skip rfl rfl rfl rfl rfl rfl (WL_skip rfl rfl rfl rfl rfl rfl (WL_run rfl rfl rfl (WX_q rfl rfl (q_pick_f rfl rfl rfl) (WL_cons rfl (WX_q rfl rfl (q_pick_f rfl rfl rfl) (?_)))))))
                      refine WL_nil (hK40 _ ?_)
                      clear hK40 K40
                      refine W_false rfl ?_
                      refine W_skip (hK32 _ ?_)
                      clear hK32 K32
                      refine W_region (WL_cons rfl (WX_q rfl rfl (q_move rfl rfl) (WL_cons rfl (?_))))
                      first | refine WX_q rfl rfl (q_arith rfl rfl rfl rfl (by omega) (by omega)) ?_ | refine WX_q rfl rfl (q_wrap rfl rfl rfl rfl) ?_
                      refine WL_cons rfl (WX_q rfl rfl (q_assign rfl rfl) (?_))
                      refine WL_nil ⟨(i + 1), ?_, ?_, ⟨⟨_, rfl, by rfl⟩, rfl, trivial⟩, trivial, (by first | rfl | (rw [h9]; rfl)), rfl, rfl⟩
                      · omega
                      · omega
              · try rw [h9]
                try simp only [decide_eq_true_eq, decide_eq_false_iff_not, beq_iff_eq, bne_iff_ne, ne_eq, Bool.not_eq_true', Bool.not_eq_false', beq_eq_false_iff_ne, bne_eq_false_iff_eq, Bool.not_eq_true, Bool.not_eq_false, Int.not_lt, Int.not_le, gt_iff_lt, ge_iff_le, Bool.and_eq_true, Bool.and_eq_false_iff, Bool.or_eq_true, Bool.or_eq_false_iff] at h9
                exact W_exit ⟨rfl, rfl, rfl, rfl⟩
            · try rw [h8]
              try simp only [decide_eq_true_eq, decide_eq_false_iff_not, beq_iff_eq, bne_iff_ne, ne_eq, Bool.not_eq_true', Bool.not_eq_false', beq_eq_false_iff_ne, bne_eq_false_iff_eq, Bool.not_eq_true, Bool.not_eq_false, Int.not_lt, Int.not_le, gt_iff_lt, ge_iff_le, Bool.and_eq_true, Bool.and_eq_false_iff, Bool.or_eq_true, Bool.or_eq_false_iff] at h8
              refine WL_skip rfl rfl rfl rfl rfl rfl (WL_cons rfl (WX_q rfl rfl (q_pick_f rfl rfl rfl) (?_)))
              refine WL_nil (hK31 _ ?_)
              clear hK31 K31
              refine W_false rfl ?_
              exact W_exit ⟨rfl, rfl, rfl, rfl⟩
        · skip
          refine W_seq (fun K41 hK41 => ?_)
          refine W_region (WL_cons rfl (WX_q rfl rfl (q_move rfl rfl) (WL_cons rfl (?_))))
          refine WX_callx 181 [] rfl rfl rfl (c_spec_DrawAreSamples l hl) rfl RowsIn.nil rfl (fun _ => rfl) rfl (fun x3 ⟨hv3, hc3⟩ => ?_)
          refine WL_cons rfl (WX_q rfl rfl (q_assign rfl rfl) (?_))
          refine WL_nil (hK41 _ ?_)
          clear hK41 K41
          refine W_seq (fun K42 hK42 => ?_)
          refine W_region (WL_cons rfl (WX_q rfl rfl (q_move rfl rfl) (WL_cons rfl (?_))))
          refine WX_q rfl rfl (q_call rfl (ArgsOK.of rfl) (c_impl_OutOfOrder _ (by have := hv3; omega)) rfl) ?_
          refine WL_cons rfl (WX_q rfl rfl (q_move rfl rfl) (WL_cons rfl (WX_q rfl rfl (q_extract rfl rfl rfl) (WL_cons rfl (WX_q rfl rfl (q_extract rfl rfl rfl) (WL_cons rfl (WX_q rfl rfl (q_assign rfl rfl) (WL_cons rfl (WX_q rfl rfl (q_assign rfl rfl) (?_))))))))))
          refine WL_nil (hK42 _ ?_)
          clear hK42 K42
          refine W_seq (fun K43 hK43 => ?_)
          refine W_region (WL_cons rfl (WX_q rfl rfl (q_move rfl rfl) (WL_cons rfl (?_))))
          refine WX_q rfl rfl (q_call rfl (ArgsOK.of rfl) (c_spec_OutOfOrder _ (by have := hv3; omega)) rfl) ?_
          refine WL_cons rfl (WX_q rfl rfl (q_move rfl rfl) (WL_cons rfl (WX_q rfl rfl (q_extract rfl rfl rfl) (WL_cons rfl (WX_q rfl rfl (q_extract rfl rfl rfl) (WL_cons rfl (WX_q rfl rfl (q_assign rfl rfl) (WL_cons rfl (WX_q rfl rfl (q_assign rfl rfl) (?_))))))))))
          refine WL_nil (hK43 _ ?_)
          clear hK43 K43
          refine W_seq (fun K44 hK44 => ?_)
          refine W_region (WL_cons rfl (WX_q rfl rfl (q_move rfl rfl) (WL_cons rfl (WX_q rfl rfl (q_move rfl rfl) (WL_cons rfl (?_))))))
          refine WX_q rfl rfl (q_eqv (v' := .bool true) (q_cmp rfl rfl rfl rfl) (by first | rfl | (simp; done) | (simp [eqCells, eqCell]; done))) ?_
          refine WL_cons rfl (WX_q rfl rfl (q_move rfl rfl) (WL_run rfl rfl rfl (WX_q rfl rfl (q_move rfl rfl) (WL_run rfl rfl rfl (WX_q rfl rfl (q_move rfl rfl) (WL_run rfl rfl rfl (?_)))))))
          refine WX_q rfl rfl (q_eqv (v' := .bool true) (q_beq (G 4 _ rfl).1 rfl rfl rfl) (by first | rfl | (simp; done) | (simp [eqCells, eqCell]; done))) ?_
          refine WL_cons rfl (WX_q rfl rfl (q_pick_t rfl rfl rfl) (WL_cons rfl (WX_q rfl rfl (q_assign rfl rfl) (?_))))
          refine WL_nil (hK44 _ ?_)
          clear hK44 K44
          refine W_ret (fin_one rfl (rc_v ?_))
          all_goals (first | rfl | (simp_all; done))

end Go.Proofs.Ytbepplocdmnchaa
