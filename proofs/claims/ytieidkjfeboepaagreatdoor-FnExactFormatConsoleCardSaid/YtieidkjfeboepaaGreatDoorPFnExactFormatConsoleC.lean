/- Texts merged into one: M3, M9, M14, M15. -/
import Derived.Test.YtieidkjfeboepaaGreatDoorPFnExactFormatConsoleB
/- Walks through functions of the program, one contract each (written by gen.py). -/
set_option maxRecDepth 20000
set_option linter.unusedVariables false
set_option linter.unusedSimpArgs false
namespace Go.Proofs.YtieidkjfeboepaaGreatDoor
open Go Go.Rf

theorem c_impl_areParts (sl : List Slot) (wa : List Wtr) (hl : sl.length ≤ 1048576) (hw : wa.length ≤ 1048576) : Ctr Tryz.prog 86 [.lst 3 (sl.map encSl), .lst 2 (wa.map encWa)] (.one (.v (.bool (okPa ⟨sl, wa⟩)))) := by
  refine Ctr.of (n := 58) G Tryz.func86 rfl (by kernel_rfl) rfl rfl rfl (fun w0 => ?_)
  refine W_seq (fun K1 hK1 => ?_)
  refine W_region (WL_cons rfl (WX_q rfl rfl (q_assign rfl rfl) (?_)))
  refine WL_nil (hK1 _ ?_)
  clear hK1 K1
  refine W_seq (fun K2 hK2 => ?_)
  refine W_seq (fun K3 hK3 => ?_)
  refine W_region (WL_cons rfl (WX_q rfl rfl (q_move rfl rfl) (WL_cons rfl (?_))))
  refine WX_q rfl rfl (q_call rfl (ArgsOK.of rfl) (c_impl_AreSlots _ (by first | assumption | omega)) rfl) ?_
  refine WL_cons rfl (WX_q rfl rfl (q_not rfl rfl) (?_))
  refine WL_nil (hK3 _ ?_)
  clear hK3 K3
  refine W_cond rfl (fun h1 => ?_) (fun h1 => ?_)
  · try rw [h1]
    try simp only [rfb] at h1
    refine W_seq (fun K4 hK4 => ?_)
    refine W_region (WL_cons rfl (WX_q rfl rfl (q_assign rfl rfl) (?_)))
    refine WL_nil (hK4 _ ?_)
    clear hK4 K4
    refine W_ret (fin_one rfl (rc_v ?_))
    all_goals clear hK2 K2
    all_goals (first | (exact congrArg Value.bool (okPa_s (q := ⟨sl, wa⟩) (by assumption)).symm) | (exact congrArg Value.bool (okPa_t (q := ⟨sl, wa⟩) (by assumption) hinv.2 (show wa.length ≤ i by omega)).symm) | (exact congrArg Value.bool (okPa_w (q := ⟨sl, wa⟩) (i := i) (oneWa_f (fun g => by dsimp only at g; first | exact inside_nt (by assumption) g.1 | exact inside_nt (by assumption) g.2.1 | (have := g.2.2.1; omega) | (have h9 := idx_ge.mp (show 0 ≤ idxN (fun j => decide ((wa.getD j default).q = (wa.getD i default).q)) i by omega); obtain ⟨j, hj, e⟩ := anyN_iff.mp h9; exact g.2.2.2.1 j hj (of_decide_eq_true e)) | (rcases g.2.2.2.2 with g1 | g1 <;> first | (exfalso; omega) | (rw [← ht (by omega)] at g1; first | (have := urg_neg.mpr g1; omega) | (simp_all; done))) | exact g.2.2.2.1 _ (by omega) (by assumption))) (show i < wa.length by omega)).symm))
  · try rw [h1]
    try simp only [rfb] at h1
    refine W_skip (hK2 _ ?_)
    clear hK2 K2
    refine W_seq (fun K5 hK5 => ?_)
    refine W_seq (fun K6 hK6 => ?_)
    refine W_region (WL_cons rfl (WX_q rfl rfl (q_move rfl rfl) (WL_cons rfl (?_))))
    first | refine WX_q rfl rfl (q_len' G rfl rfl rfl rfl (List.length_map _)) ?_ | refine WX_q rfl rfl (q_len G rfl rfl rfl rfl) ?_
    refine WL_cons rfl (WX_q rfl rfl (q_move rfl rfl) (?_))
    refine WL_nil (hK6 _ ?_)
    clear hK6 K6
    refine W_block ?_
    refine W_loopK [0, 1, 10, 11] [] (fun (i : Nat) => [(12, .v (.int .i64 (i : Int)))]) (fun (i : Nat) => []) (fun (i : Nat) => i ≤ wa.length ∧ ∀ j, j < i → oneWa sl wa j = true) (fun (i : Nat) => wa.length - i) 0 rfl rfl ?_ ?_ ?_ ?_
    · exact ⟨Nat.zero_le _, fun j hj => by omega⟩
    · exact ⟨⟨_, rfl, by (first | rfl | (simp; done) | (simp; omega))⟩, rfl, trivial⟩
    · exact trivial
    · intro i hinv
      have ht : 0 < i → ((i : Int) - 1).toNat = i - 1 := fun _ => (by omega)
      simp only [List.cons_append, List.nil_append]
      refine W_seq (fun K7 hK7 => ?_)
      refine W_region (WL_cons rfl (WX_q rfl rfl (q_cmp rfl rfl rfl rfl) (?_)))
      refine WL_nil (hK7 _ ?_)
      clear hK7 K7
      refine W_seq (fun K8 hK8 => ?_)
      refine W_cond rfl (fun h2 => ?_) (fun h2 => ?_)
      · try rw [h2]
        try simp only [rfb] at h2
        refine W_skip (hK8 _ ?_)
        clear hK8 K8
        refine W_seq (fun K9 hK9 => ?_)
        refine W_block ?_
        refine W_seq (fun K10 hK10 => ?_)
        refine W_region (WL_cons rfl (WX_q rfl rfl (q_move rfl rfl) (WL_cons rfl (?_))))
        first | refine WX_q rfl rfl (q_index_lst G rfl rfl rfl rfl (by omega) (getN (by omega))) ?_ | refine WX_q rfl rfl (q_index_lst G rfl rfl rfl rfl (by omega) (getNI (by omega) (by omega))) ?_
        refine WL_cons rfl (WX_q rfl rfl (q_load_ept_struct G rfl rfl rfl rfl) (WL_cons rfl (WX_alloc_s G 1 rfl rfl rfl rfl rfl (WL_cons rfl (WX_q rfl rfl (q_assign rfl rfl) (WL_cons rfl (WX_store G rfl rfl rfl rfl rfl rfl rfl rfl rfl rfl rfl (?_))))))))
        refine WL_nil (hK10 _ ?_)
        clear hK10 K10
        refine W_seq (fun K11 hK11 => ?_)
        refine W_draws mixed (by kernel_rfl) (QL_cons rfl (QX_q rfl rfl (q_field_ptr G rfl rfl rfl rfl) (QL_cons rfl (QX_q rfl rfl (q_load_box G rfl rfl rfl rfl rfl rfl rfl) (QL_cons rfl (?_))))))
        refine QX_q rfl rfl (q_call rfl (ArgsOK.of rfl) (c_impl_isIrq _) rfl) ?_
        refine QL_cons rfl (QX_q rfl rfl (q_not rfl rfl) (QL_cons rfl (QX_q rfl rfl (q_move rfl rfl) (QL_part rfl rfl rfl (fun h3 => ?_) (fun h3 => ?_)))))
        · try rw [h3]
          try simp only [rfb] at h3
          refine QL_skip rfl rfl rfl rfl rfl rfl (QL_skip rfl rfl rfl rfl rfl rfl (QL_skip rfl rfl rfl rfl rfl rfl (QL_skip rfl rfl rfl rfl rfl rfl (QL_cons rfl (QX_q rfl rfl (q_pick_t rfl rfl rfl) (QL_cons rfl (QX_q rfl rfl (q_move rfl rfl) (QL_skip rfl rfl rfl rfl rfl rfl (QL_skip rfl rfl rfl rfl rfl rfl (QL_skip rfl rfl rfl rfl rfl rfl (QL_skip rfl rfl rfl rfl rfl rfl (QL_skip rfl rfl rfl rfl rfl rfl (QL_cons rfl (QX_q rfl rfl (q_pick_t rfl rfl rfl) (QL_cons rfl (QX_q rfl rfl (q_move rfl rfl) (QL_skip rfl rfl rfl rfl rfl rfl (QL_skip rfl rfl rfl rfl rfl rfl (QL_skip rfl rfl rfl rfl rfl rfl (QL_skip rfl rfl rfl rfl rfl rfl (QL_skip rfl rfl rfl rfl rfl rfl (QL_skip rfl rfl rfl rfl rfl rfl (QL_skip rfl rfl rfl rfl rfl rfl (QL_cons rfl (QX_q rfl rfl (q_pick_t rfl rfl rfl) (QL_cons rfl (QX_q rfl rfl (q_move rfl rfl) (QL_skip rfl rfl rfl rfl rfl rfl (QL_skip rfl rfl rfl rfl rfl rfl (QL_skip rfl rfl rfl rfl rfl rfl (QL_skip_u rfl rfl rfl rfl rfl (QL_skip_u rfl rfl rfl rfl rfl (QL_skip_u rfl rfl rfl rfl rfl (QL_skip_u rfl rfl rfl rfl rfl (QL_skip_u rfl rfl rfl rfl rfl (QL_skip_u rfl rfl rfl rfl rfl (QL_skip_u rfl rfl rfl rfl rfl (QL_skip_u rfl rfl rfl rfl rfl (QL_skip rfl rfl rfl rfl rfl rfl (QL_cons rfl (QX_q rfl rfl (q_pick_t rfl rfl rfl) (?_))))))))))))))))))))))))))))))))))))))))))
          refine QL_nil (hK11 _ ?_)
          clear hK11 K11
          refine W_true rfl ?_
          refine W_seq (fun K12 hK12 => ?_)
          refine W_region (WL_cons rfl (WX_q rfl rfl (q_assign rfl rfl) (?_)))
          refine WL_nil (hK12 _ ?_)
          clear hK12 K12
          refine W_ret (fin_one rfl (rc_v ?_))
          all_goals clear hK9 K9 hK5 K5
          all_goals (first | (exact congrArg Value.bool (okPa_s (q := ⟨sl, wa⟩) (by assumption)).symm) | (exact congrArg Value.bool (okPa_t (q := ⟨sl, wa⟩) (by assumption) hinv.2 (show wa.length ≤ i by omega)).symm) | (exact congrArg Value.bool (okPa_w (q := ⟨sl, wa⟩) (i := i) (oneWa_f (fun g => by dsimp only at g; first | exact inside_nt (by assumption) g.1 | exact inside_nt (by assumption) g.2.1 | (have := g.2.2.1; omega) | (have h9 := idx_ge.mp (show 0 ≤ idxN (fun j => decide ((wa.getD j default).q = (wa.getD i default).q)) i by omega); obtain ⟨j, hj, e⟩ := anyN_iff.mp h9; exact g.2.2.2.1 j hj (of_decide_eq_true e)) | (rcases g.2.2.2.2 with g1 | g1 <;> first | (exfalso; omega) | (rw [← ht (by omega)] at g1; first | (have := urg_neg.mpr g1; omega) | (simp_all; done))) | exact g.2.2.2.1 _ (by omega) (by assumption))) (show i < wa.length by omega)).symm))
        · try rw [h3]
          try simp only [rfb] at h3
          refine QL_run rfl rfl rfl (QX_q rfl rfl (q_field_ptr G rfl rfl rfl rfl) (QL_run rfl rfl rfl (QX_q rfl rfl (q_load_box G rfl rfl rfl rfl rfl rfl rfl) (QL_run rfl rfl rfl (?_)))))
          refine QX_q rfl rfl (q_call rfl (ArgsOK.of rfl) (c_impl_isPriority _) rfl) ?_
          refine QL_run rfl rfl rfl (QX_q rfl rfl (q_not rfl rfl) (QL_cons rfl (QX_q rfl rfl (q_pick_f rfl rfl rfl) (QL_cons rfl (QX_q rfl rfl (q_move rfl rfl) (QL_part rfl rfl rfl (fun h4 => ?_) (fun h4 => ?_)))))))
          · try rw [h4]
            try simp only [rfb] at h4
            refine QL_skip rfl rfl rfl rfl rfl rfl (QL_skip rfl rfl rfl rfl rfl rfl (QL_skip rfl rfl rfl rfl rfl rfl (QL_skip rfl rfl rfl rfl rfl rfl (QL_skip rfl rfl rfl rfl rfl rfl (QL_cons rfl (QX_q rfl rfl (q_pick_t rfl rfl rfl) (QL_cons rfl (QX_q rfl rfl (q_move rfl rfl) (QL_skip rfl rfl rfl rfl rfl rfl (QL_skip rfl rfl rfl rfl rfl rfl (QL_skip rfl rfl rfl rfl rfl rfl (QL_skip rfl rfl rfl rfl rfl rfl (QL_skip rfl rfl rfl rfl rfl rfl (QL_skip rfl rfl rfl rfl rfl rfl (QL_skip rfl rfl rfl rfl rfl rfl (QL_cons rfl (QX_q rfl rfl (q_pick_t rfl rfl rfl) (QL_cons rfl (QX_q rfl rfl (q_move rfl rfl) (QL_skip rfl rfl rfl rfl rfl rfl (QL_skip rfl rfl rfl rfl rfl rfl (QL_skip rfl rfl rfl rfl rfl rfl (QL_skip_u rfl rfl rfl rfl rfl (QL_skip_u rfl rfl rfl rfl rfl (QL_skip_u rfl rfl rfl rfl rfl (QL_skip_u rfl rfl rfl rfl rfl (QL_skip_u rfl rfl rfl rfl rfl (QL_skip_u rfl rfl rfl rfl rfl (QL_skip_u rfl rfl rfl rfl rfl (QL_skip_u rfl rfl rfl rfl rfl (QL_skip rfl rfl rfl rfl rfl rfl (QL_cons rfl (QX_q rfl rfl (q_pick_t rfl rfl rfl) (?_))))))))))))))))))))))))))))))))))
            refine QL_nil (hK11 _ ?_)
            clear hK11 K11
            refine W_true rfl ?_
            refine W_seq (fun K13 hK13 => ?_)
            refine W_region (WL_cons rfl (WX_q rfl rfl (q_assign rfl rfl) (?_)))
            refine WL_nil (hK13 _ ?_)
            clear hK13 K13
            refine W_ret (fin_one rfl (rc_v ?_))
            all_goals clear hK9 K9 hK5 K5
            all_goals (first | (exact congrArg Value.bool (okPa_s (q := ⟨sl, wa⟩) (by assumption)).symm) | (exact congrArg Value.bool (okPa_t (q := ⟨sl, wa⟩) (by assumption) hinv.2 (show wa.length ≤ i by omega)).symm) | (exact congrArg Value.bool (okPa_w (q := ⟨sl, wa⟩) (i := i) (oneWa_f (fun g => by dsimp only at g; first | exact inside_nt (by assumption) g.1 | exact inside_nt (by assumption) g.2.1 | (have := g.2.2.1; omega) | (have h9 := idx_ge.mp (show 0 ≤ idxN (fun j => decide ((wa.getD j default).q = (wa.getD i default).q)) i by omega); obtain ⟨j, hj, e⟩ := anyN_iff.mp h9; exact g.2.2.2.1 j hj (of_decide_eq_true e)) | (rcases g.2.2.2.2 with g1 | g1 <;> first | (exfalso; omega) | (rw [← ht (by omega)] at g1; first | (have := urg_neg.mpr g1; omega) | (simp_all; done))) | exact g.2.2.2.1 _ (by omega) (by assumption))) (show i < wa.length by omega)).symm))
          · try rw [h4]
            try simp only [rfb] at h4
            refine QL_run rfl rfl rfl (QX_q rfl rfl (q_move rfl rfl) (QL_run rfl rfl rfl (QX_q rfl rfl (q_field_ptr G rfl rfl rfl rfl) (QL_run rfl rfl rfl (QX_q rfl rfl (q_load_box G rfl rfl rfl rfl rfl rfl rfl) (QL_run rfl rfl rfl (?_)))))))
            refine QX_q rfl rfl (q_call rfl (ArgsOK.of rfl) (c_impl_findSlot sl _ hl) rfl) ?_
            refine QL_run rfl rfl rfl (QX_q rfl rfl (q_cmp rfl rfl rfl rfl) (QL_cons rfl (QX_q rfl rfl (q_pick_f rfl rfl rfl) (QL_cons rfl (QX_q rfl rfl (q_move rfl rfl) (QL_part rfl rfl rfl (fun h5 => ?_) (fun h5 => ?_)))))))
            · try rw [h5]
              try simp only [rfb] at h5
              refine QL_skip rfl rfl rfl rfl rfl rfl (QL_skip rfl rfl rfl rfl rfl rfl (QL_skip rfl rfl rfl rfl rfl rfl (QL_skip rfl rfl rfl rfl rfl rfl (QL_skip rfl rfl rfl rfl rfl rfl (QL_skip rfl rfl rfl rfl rfl rfl (QL_skip rfl rfl rfl rfl rfl rfl (QL_cons rfl (QX_q rfl rfl (q_pick_t rfl rfl rfl) (QL_cons rfl (QX_q rfl rfl (q_move rfl rfl) (QL_skip rfl rfl rfl rfl rfl rfl (QL_skip rfl rfl rfl rfl rfl rfl (QL_skip rfl rfl rfl rfl rfl rfl (QL_skip_u rfl rfl rfl rfl rfl (QL_skip_u rfl rfl rfl rfl rfl (QL_skip_u rfl rfl rfl rfl rfl (QL_skip_u rfl rfl rfl rfl rfl (QL_skip_u rfl rfl rfl rfl rfl (QL_skip_u rfl rfl rfl rfl rfl (QL_skip_u rfl rfl rfl rfl rfl (QL_skip_u rfl rfl rfl rfl rfl (QL_skip rfl rfl rfl rfl rfl rfl (QL_cons rfl (QX_q rfl rfl (q_pick_t rfl rfl rfl) (?_)))))))))))))))))))))))))
              refine QL_nil (hK11 _ ?_)
              clear hK11 K11
              refine W_true rfl ?_
              refine W_seq (fun K14 hK14 => ?_)
              refine W_region (WL_cons rfl (WX_q rfl rfl (q_assign rfl rfl) (?_)))
              refine WL_nil (hK14 _ ?_)
              clear hK14 K14
              refine W_ret (fin_one rfl (rc_v ?_))
              all_goals clear hK9 K9 hK5 K5
              all_goals (first | (exact congrArg Value.bool (okPa_s (q := ⟨sl, wa⟩) (by assumption)).symm) | (exact congrArg Value.bool (okPa_t (q := ⟨sl, wa⟩) (by assumption) hinv.2 (show wa.length ≤ i by omega)).symm) | (exact congrArg Value.bool (okPa_w (q := ⟨sl, wa⟩) (i := i) (oneWa_f (fun g => by dsimp only at g; first | exact inside_nt (by assumption) g.1 | exact inside_nt (by assumption) g.2.1 | (have := g.2.2.1; omega) | (have h9 := idx_ge.mp (show 0 ≤ idxN (fun j => decide ((wa.getD j default).q = (wa.getD i default).q)) i by omega); obtain ⟨j, hj, e⟩ := anyN_iff.mp h9; exact g.2.2.2.1 j hj (of_decide_eq_true e)) | (rcases g.2.2.2.2 with g1 | g1 <;> first | (exfalso; omega) | (rw [← ht (by omega)] at g1; first | (have := urg_neg.mpr g1; omega) | (simp_all; done))) | exact g.2.2.2.1 _ (by omega) (by assumption))) (show i < wa.length by omega)).symm))
            · try rw [h5]
              try simp only [rfb] at h5
              refine QL_run rfl rfl rfl (QX_q rfl rfl (q_move rfl rfl) (QL_run rfl rfl rfl (QX_q rfl rfl (q_move rfl rfl) (QL_run rfl rfl rfl (?_)))))
              first | refine QX_q rfl rfl (q_cut_lst G rfl rfl rfl rfl rfl (by omega) (by omega) (by omega)) ?_ | refine QX_q rfl rfl (q_cut_lst G rfl rfl rfl rfl rfl (by omega) (by first | (simp; done) | (simp; omega)) (by first | (simp; done) | (simp; omega))) ?_
              refine QL_run rfl rfl rfl (QX_q rfl rfl (q_field_ptr G rfl rfl rfl rfl) (QL_run rfl rfl rfl (QX_q rfl rfl (q_load_box G rfl rfl rfl rfl rfl rfl rfl) (QL_run rfl rfl rfl (?_)))))
              refine QX_q rfl rfl (q_call rfl (ArgsOK.of (congrArg some (congrArg (fun z => [AV.lst 2 z, .v (.int .i64 (wa.getD i default).q)]) (cut_take (xs := wa) (i := i))))) (Ctr.eq (c_impl_waiterIndex (wa.take i) _ (by simp; omega)) (congrArg (fun z => Res.one (.v (.int .i64 z))) (take_inW (by omega)))) rfl) ?_
              refine QL_run rfl rfl rfl (QX_q rfl rfl (q_cmp rfl rfl rfl rfl) (QL_cons rfl (QX_q rfl rfl (q_pick_f rfl rfl rfl) (QL_cons rfl (QX_q rfl rfl (q_move rfl rfl) (QL_part rfl rfl rfl (fun h6 => ?_) (fun h6 => ?_)))))))
              · try rw [h6]
                try simp only [rfb] at h6
                refine QL_skip rfl rfl rfl rfl rfl rfl (QL_skip rfl rfl rfl rfl rfl rfl (QL_skip rfl rfl rfl rfl rfl rfl (QL_skip_u rfl rfl rfl rfl rfl (QL_skip_u rfl rfl rfl rfl rfl (QL_skip_u rfl rfl rfl rfl rfl (QL_skip_u rfl rfl rfl rfl rfl (QL_skip_u rfl rfl rfl rfl rfl (QL_skip_u rfl rfl rfl rfl rfl (QL_skip_u rfl rfl rfl rfl rfl (QL_skip_u rfl rfl rfl rfl rfl (QL_skip rfl rfl rfl rfl rfl rfl (QL_cons rfl (QX_q rfl rfl (q_pick_t rfl rfl rfl) (?_))))))))))))))
                refine QL_nil (hK11 _ ?_)
                clear hK11 K11
                refine W_true rfl ?_
                refine W_seq (fun K15 hK15 => ?_)
                refine W_region (WL_cons rfl (WX_q rfl rfl (q_assign rfl rfl) (?_)))
                refine WL_nil (hK15 _ ?_)
                clear hK15 K15
                refine W_ret (fin_one rfl (rc_v ?_))
                all_goals clear hK9 K9 hK5 K5
                all_goals (first | (exact congrArg Value.bool (okPa_s (q := ⟨sl, wa⟩) (by assumption)).symm) | (exact congrArg Value.bool (okPa_t (q := ⟨sl, wa⟩) (by assumption) hinv.2 (show wa.length ≤ i by omega)).symm) | (exact congrArg Value.bool (okPa_w (q := ⟨sl, wa⟩) (i := i) (oneWa_f (fun g => by dsimp only at g; first | exact inside_nt (by assumption) g.1 | exact inside_nt (by assumption) g.2.1 | (have := g.2.2.1; omega) | (have h9 := idx_ge.mp (show 0 ≤ idxN (fun j => decide ((wa.getD j default).q = (wa.getD i default).q)) i by omega); obtain ⟨j, hj, e⟩ := anyN_iff.mp h9; exact g.2.2.2.1 j hj (of_decide_eq_true e)) | (rcases g.2.2.2.2 with g1 | g1 <;> first | (exfalso; omega) | (rw [← ht (by omega)] at g1; first | (have := urg_neg.mpr g1; omega) | (simp_all; done))) | exact g.2.2.2.1 _ (by omega) (by assumption))) (show i < wa.length by omega)).symm))
              · try rw [h6]
                try simp only [rfb] at h6
                refine QL_run rfl rfl rfl (QX_q rfl rfl (q_move rfl rfl) (QL_run rfl rfl rfl (QX_q rfl rfl (q_cmp rfl rfl rfl rfl) (QL_run rfl rfl rfl (QX_q rfl rfl (q_move rfl rfl) (QL_part rfl rfl rfl (fun h7 => ?_) (fun h7 => ?_)))))))
                · try rw [h7]
                  try simp only [rfb] at h7
                  refine QL_run rfl rfl rfl (QX_q rfl rfl (q_move rfl rfl) (QL_run rfl rfl rfl (QX_q rfl rfl (q_move rfl rfl) (QL_run rfl rfl rfl (?_)))))
                  first | refine QX_q rfl rfl (q_arith rfl rfl rfl rfl (by omega) (by omega)) ?_ | refine QX_q rfl rfl (q_wrap rfl rfl rfl rfl) ?_
                  refine QL_run rfl rfl rfl (?_)
                  first | refine QX_q rfl rfl (q_index_lst G rfl rfl rfl rfl (by omega) (getN (by omega))) ?_ | refine QX_q rfl rfl (q_index_lst G rfl rfl rfl rfl (by omega) (getNI (by omega) (by omega))) ?_
                  refine QL_run rfl rfl rfl (QX_q rfl rfl (q_load_ept_struct G rfl rfl rfl rfl) (QL_run rfl rfl rfl (QX_q rfl rfl (q_load_box_struct G rfl rfl rfl rfl rfl rfl) (QL_run rfl rfl rfl (?_)))))
                  refine QX_q rfl rfl (q_call rfl (ArgsOK.of rfl) (c_impl_compareUrgency _ _) rfl) ?_
                  refine QL_run rfl rfl rfl (QX_q rfl rfl (q_cmp rfl rfl rfl rfl) (QL_run rfl rfl rfl (QX_q rfl rfl (q_pick_t rfl rfl rfl) (QL_cons rfl (QX_q rfl rfl (q_pick_f rfl rfl rfl) (?_))))))
                  refine QL_nil (hK11 _ ?_)
                  clear hK11 K11
                  refine W_cond rfl (fun h8 => ?_) (fun h8 => ?_)
                  · try rw [h8]
                    try simp only [rfb] at h8
                    refine W_seq (fun K16 hK16 => ?_)
                    refine W_region (WL_cons rfl (WX_q rfl rfl (q_assign rfl rfl) (?_)))
                    refine WL_nil (hK16 _ ?_)
                    clear hK16 K16
                    refine W_ret (fin_one rfl (rc_v ?_))
                    all_goals clear hK9 K9 hK5 K5
                    all_goals (first | (exact congrArg Value.bool (okPa_s (q := ⟨sl, wa⟩) (by assumption)).symm) | (exact congrArg Value.bool (okPa_t (q := ⟨sl, wa⟩) (by assumption) hinv.2 (show wa.length ≤ i by omega)).symm) | (exact congrArg Value.bool (okPa_w (q := ⟨sl, wa⟩) (i := i) (oneWa_f (fun g => by dsimp only at g; first | exact inside_nt (by assumption) g.1 | exact inside_nt (by assumption) g.2.1 | (have := g.2.2.1; omega) | (have h9 := idx_ge.mp (show 0 ≤ idxN (fun j => decide ((wa.getD j default).q = (wa.getD i default).q)) i by omega); obtain ⟨j, hj, e⟩ := anyN_iff.mp h9; exact g.2.2.2.1 j hj (of_decide_eq_true e)) | (rcases g.2.2.2.2 with g1 | g1 <;> first | (exfalso; omega) | (rw [← ht (by omega)] at g1; first | (have := urg_neg.mpr g1; omega) | (simp_all; done))) | exact g.2.2.2.1 _ (by omega) (by assumption))) (show i < wa.length by omega)).symm))
                  · try rw [h8]
                    try simp only [rfb] at h8
                    refine W_skip (hK9 _ ?_)
                    clear hK9 K9
                    refine W_region (WL_cons rfl (?_))
                    first | refine WX_q rfl rfl (q_arith rfl rfl rfl rfl (by omega) (by omega)) ?_ | refine WX_q rfl rfl (q_wrap rfl rfl rfl rfl) ?_
                    refine WL_cons rfl (WX_q rfl rfl (q_move rfl rfl) (?_))
                    refine WL_nil ⟨(i + 1), ?_, ?_, ⟨⟨_, rfl, by rfl⟩, rfl, trivial⟩, trivial, rfl, rfl, rfl⟩
                    · exact ⟨by omega, upto_succ hinv.2 (oneWa_iff.mpr ⟨inside_t.mp (by assumption), inside_t.mp (by assumption), by omega, (fun j hj => by have := anyN_nf.mp (idx_lt0.mp (show idxN (fun j => decide ((wa.getD j default).q = (wa.getD i default).q)) i < 0 by omega)) j hj; exact of_decide_eq_false this), (by first | exact .inl (by omega) | (right; rw [← ht (by omega)]; first | exact urg_neg.mp (by omega) | assumption))⟩)⟩
                    · omega
                · try rw [h7]
                  try simp only [rfb] at h7
                  refine QL_skip rfl rfl rfl rfl rfl rfl (QL_skip rfl rfl rfl rfl rfl rfl (QL_skip rfl rfl rfl rfl rfl rfl (QL_skip rfl rfl rfl rfl rfl rfl (QL_skip rfl rfl rfl rfl rfl rfl (QL_skip rfl rfl rfl rfl rfl rfl (QL_skip rfl rfl rfl rfl rfl rfl (QL_skip rfl rfl rfl rfl rfl rfl (QL_run rfl rfl rfl (QX_q rfl rfl (q_pick_f rfl rfl rfl) (QL_cons rfl (QX_q rfl rfl (q_pick_f rfl rfl rfl) (?_))))))))))))
                  refine QL_nil (hK11 _ ?_)
                  clear hK11 K11
                  refine W_false rfl ?_
                  refine W_skip (hK9 _ ?_)
                  clear hK9 K9
                  refine W_region (WL_cons rfl (?_))
                  first | refine WX_q rfl rfl (q_arith rfl rfl rfl rfl (by omega) (by omega)) ?_ | refine WX_q rfl rfl (q_wrap rfl rfl rfl rfl) ?_
                  refine WL_cons rfl (WX_q rfl rfl (q_move rfl rfl) (?_))
                  refine WL_nil ⟨(i + 1), ?_, ?_, ⟨⟨_, rfl, by rfl⟩, rfl, trivial⟩, trivial, rfl, rfl, rfl⟩
                  · exact ⟨by omega, upto_succ hinv.2 (oneWa_iff.mpr ⟨inside_t.mp (by assumption), inside_t.mp (by assumption), by omega, (fun j hj => by have := anyN_nf.mp (idx_lt0.mp (show idxN (fun j => decide ((wa.getD j default).q = (wa.getD i default).q)) i < 0 by omega)) j hj; exact of_decide_eq_false this), (by first | exact .inl (by omega) | (right; rw [← ht (by omega)]; first | exact urg_neg.mp (by omega) | assumption))⟩)⟩
                  · omega
      · try rw [h2]
        try simp only [rfb] at h2
        refine W_exit (hK5 _ ?_)
        clear hK8 K8 hK5 K5
        refine W_seq (fun K17 hK17 => ?_)
        refine W_region (WL_cons rfl (WX_q rfl rfl (q_assign rfl rfl) (?_)))
        refine WL_nil (hK17 _ ?_)
        clear hK17 K17
        refine W_ret (fin_one rfl (rc_v ?_))
        all_goals (first | (exact congrArg Value.bool (okPa_s (q := ⟨sl, wa⟩) (by assumption)).symm) | (exact congrArg Value.bool (okPa_t (q := ⟨sl, wa⟩) (by assumption) hinv.2 (show wa.length ≤ i by omega)).symm) | (exact congrArg Value.bool (okPa_w (q := ⟨sl, wa⟩) (i := i) (oneWa_f (fun g => by dsimp only at g; first | exact inside_nt (by assumption) g.1 | exact inside_nt (by assumption) g.2.1 | (have := g.2.2.1; omega) | (have h9 := idx_ge.mp (show 0 ≤ idxN (fun j => decide ((wa.getD j default).q = (wa.getD i default).q)) i by omega); obtain ⟨j, hj, e⟩ := anyN_iff.mp h9; exact g.2.2.2.1 j hj (of_decide_eq_true e)) | (rcases g.2.2.2.2 with g1 | g1 <;> first | (exfalso; omega) | (rw [← ht (by omega)] at g1; first | (have := urg_neg.mpr g1; omega) | (simp_all; done))) | exact g.2.2.2.1 _ (by omega) (by assumption))) (show i < wa.length by omega)).symm))

theorem c_spec_l9Waiting (sl : List Slot) (wa : List Wtr) (hl : sl.length ≤ 1048576) (hw : wa.length ≤ 1048576) : Ctr Tryz.prog 106 [.lst 3 (sl.map encSl), .lst 2 (wa.map encWa)] (.one (.v (.bool (okPa ⟨sl, wa⟩)))) := by
  refine Ctr.of (n := 81) G Tryz.func106 rfl (by kernel_rfl) rfl rfl rfl (fun w0 => ?_)
  refine W_seq (fun K1 hK1 => ?_)
  refine W_region (WL_cons rfl (WX_q rfl rfl (q_assign rfl rfl) (?_)))
  refine WL_nil (hK1 _ ?_)
  clear hK1 K1
  refine W_seq (fun K2 hK2 => ?_)
  refine W_seq (fun K3 hK3 => ?_)
  refine W_region (WL_cons rfl (WX_q rfl rfl (q_assign rfl rfl) (?_)))
  refine WL_nil (hK3 _ ?_)
  clear hK3 K3
  refine W_block ?_
  refine W_loopK [0, 1] [] (fun (i : Nat) => [(5, .v (.int .i64 (i : Int)))]) (fun (i : Nat) => []) (fun (i : Nat) => i ≤ wa.length ∧ ∀ j, j < i → oneWa sl wa j = true) (fun (i : Nat) => wa.length - i) 0 rfl rfl ?_ ?_ ?_ ?_
  · exact ⟨Nat.zero_le _, fun j hj => by omega⟩
  · exact ⟨⟨_, rfl, by (first | rfl | (simp; done) | (simp; omega))⟩, rfl, trivial⟩
  · exact trivial
  · intro i hinv
    have ht : 0 < i → ((i : Int) - 1).toNat = i - 1 := fun _ => (by omega)
    simp only [List.cons_append, List.nil_append]
    refine W_seq (fun K4 hK4 => ?_)
    refine W_seq (fun K5 hK5 => ?_)
    refine W_region (WL_cons rfl (WX_q rfl rfl (q_move rfl rfl) (WL_cons rfl (WX_q rfl rfl (q_move rfl rfl) (WL_cons rfl (?_))))))
    first | refine WX_q rfl rfl (q_len' G rfl rfl rfl rfl (List.length_map _)) ?_ | refine WX_q rfl rfl (q_len G rfl rfl rfl rfl) ?_
    refine WL_cons rfl (WX_q rfl rfl (q_cmp rfl rfl rfl rfl) (WL_cons rfl (WX_q rfl rfl (q_move rfl rfl) (WL_part rfl rfl rfl (fun h1 => ?_) (fun h1 => ?_)))))
    · try rw [h1]
      try simp only [rfb] at h1
      refine WL_run rfl rfl rfl (WX_q rfl rfl (q_move rfl rfl) (WL_run rfl rfl rfl (WX_q rfl rfl (q_cmp rfl rfl rfl rfl) (WL_cons rfl (WX_q rfl rfl (q_pick_t rfl rfl rfl) (?_))))))
      refine WL_nil (hK5 _ ?_)
      clear hK5 K5
      refine W_cond rfl (fun h2 => ?_) (fun h2 => ?_)
      · try rw [h2]
        try simp only [rfb] at h2
        refine W_skip (hK4 _ ?_)
        clear hK4 K4
        refine W_seq (fun K6 hK6 => ?_)
        refine W_block ?_
        refine W_seq (fun K7 hK7 => ?_)
        refine W_region (WL_cons rfl (WX_q rfl rfl (q_move rfl rfl) (WL_cons rfl (WX_q rfl rfl (q_move rfl rfl) (WL_cons rfl (?_))))))
        first | refine WX_q rfl rfl (q_index_lst G rfl rfl rfl rfl (by omega) (getN (by omega))) ?_ | refine WX_q rfl rfl (q_index_lst G rfl rfl rfl rfl (by omega) (getNI (by omega) (by omega))) ?_
        refine WL_cons rfl (WX_q rfl rfl (q_load_ept_struct G rfl rfl rfl rfl) (WL_cons rfl (WX_alloc_s G 1 rfl rfl rfl rfl rfl (WL_cons rfl (WX_store G rfl rfl rfl rfl rfl rfl rfl rfl rfl rfl rfl (?_))))))
        refine WL_nil (hK7 _ ?_)
        clear hK7 K7
        refine W_seq (fun K8 hK8 => ?_)
        refine W_seq (fun K9 hK9 => ?_)
        refine W_region (WL_cons rfl (WX_q rfl rfl (q_field_ptr G rfl rfl rfl rfl) (WL_cons rfl (WX_q rfl rfl (q_load_box G rfl rfl rfl rfl rfl rfl rfl) (WL_cons rfl (?_))))))
        refine WX_q rfl rfl (q_call rfl (ArgsOK.of rfl) (c_spec_l6Irq _) rfl) ?_
        refine WL_cons rfl (WX_q rfl rfl (q_not rfl rfl) (WL_cons rfl (WX_q rfl rfl (q_move rfl rfl) (WL_part rfl rfl rfl (fun h3 => ?_) (fun h3 => ?_)))))
        · try rw [h3]
          try simp only [rfb] at h3
          refine WL_skip rfl rfl rfl rfl rfl rfl (WL_skip rfl rfl rfl rfl rfl rfl (WL_skip rfl rfl rfl rfl rfl rfl (WL_skip rfl rfl rfl rfl rfl rfl (WL_cons rfl (WX_q rfl rfl (q_pick_t rfl rfl rfl) (WL_cons rfl (WX_q rfl rfl (q_move rfl rfl) (WL_skip rfl rfl rfl rfl rfl rfl (WL_skip rfl rfl rfl rfl rfl rfl (WL_skip rfl rfl rfl rfl rfl rfl (WL_skip rfl rfl rfl rfl rfl rfl (WL_skip rfl rfl rfl rfl rfl rfl (WL_cons rfl (WX_q rfl rfl (q_pick_t rfl rfl rfl) (?_)))))))))))))))
          refine WL_nil (hK9 _ ?_)
          clear hK9 K9
          refine W_true rfl ?_
          refine W_seq (fun K10 hK10 => ?_)
          refine W_region (WL_cons rfl (WX_q rfl rfl (q_assign rfl rfl) (?_)))
          refine WL_nil (hK10 _ ?_)
          clear hK10 K10
          refine W_ret (fin_one rfl (rc_v ?_))
          all_goals clear hK8 K8 hK6 K6 hK2 K2
          all_goals (first | (exact congrArg Value.bool (okPa_w (q := ⟨sl, wa⟩) (i := i) (oneWa_f (fun g => by dsimp only at g; first | exact inside_nt (by assumption) g.1 | exact inside_nt (by assumption) g.2.1 | (have := g.2.2.1; omega) | (have h9 := idx_ge.mp (show 0 ≤ idxN (fun j => decide ((wa.getD j default).q = (wa.getD i default).q)) i by omega); obtain ⟨j, hj, e⟩ := anyN_iff.mp h9; exact g.2.2.2.1 j hj (of_decide_eq_true e)) | (rcases g.2.2.2.2 with g1 | g1 <;> first | (exfalso; omega) | (rw [← ht (by omega)] at g1; first | (have := urg_neg.mpr g1; omega) | (simp_all; done))) | exact g.2.2.2.1 _ (by omega) (by assumption))) (show i < wa.length by omega)).symm) | (exact congrArg Value.bool (okPa_s (q := ⟨sl, wa⟩) (by assumption)).symm) | (exact congrArg Value.bool (okPa_fin (by assumption) hinv.2 (by omega) (by omega))))
        · try rw [h3]
          try simp only [rfb] at h3
          refine WL_run rfl rfl rfl (WX_q rfl rfl (q_field_ptr G rfl rfl rfl rfl) (WL_run rfl rfl rfl (WX_q rfl rfl (q_load_box G rfl rfl rfl rfl rfl rfl rfl) (WL_run rfl rfl rfl (?_)))))
          refine WX_q rfl rfl (q_call rfl (ArgsOK.of rfl) (c_spec_l6Prio _) rfl) ?_
          refine WL_run rfl rfl rfl (WX_q rfl rfl (q_not rfl rfl) (WL_cons rfl (WX_q rfl rfl (q_pick_f rfl rfl rfl) (WL_cons rfl (WX_q rfl rfl (q_move rfl rfl) (WL_part rfl rfl rfl (fun h4 => ?_) (fun h4 => ?_)))))))
          · try rw [h4]
            try simp only [rfb] at h4
            refine WL_skip rfl rfl rfl rfl rfl rfl (WL_skip rfl rfl rfl rfl rfl rfl (WL_skip rfl rfl rfl rfl rfl rfl (WL_skip rfl rfl rfl rfl rfl rfl (WL_skip rfl rfl rfl rfl rfl rfl (WL_cons rfl (WX_q rfl rfl (q_pick_t rfl rfl rfl) (?_)))))))
            refine WL_nil (hK9 _ ?_)
            clear hK9 K9
            refine W_true rfl ?_
            refine W_seq (fun K11 hK11 => ?_)
            refine W_region (WL_cons rfl (WX_q rfl rfl (q_assign rfl rfl) (?_)))
            refine WL_nil (hK11 _ ?_)
            clear hK11 K11
            refine W_ret (fin_one rfl (rc_v ?_))
            all_goals clear hK8 K8 hK6 K6 hK2 K2
            all_goals (first | (exact congrArg Value.bool (okPa_w (q := ⟨sl, wa⟩) (i := i) (oneWa_f (fun g => by dsimp only at g; first | exact inside_nt (by assumption) g.1 | exact inside_nt (by assumption) g.2.1 | (have := g.2.2.1; omega) | (have h9 := idx_ge.mp (show 0 ≤ idxN (fun j => decide ((wa.getD j default).q = (wa.getD i default).q)) i by omega); obtain ⟨j, hj, e⟩ := anyN_iff.mp h9; exact g.2.2.2.1 j hj (of_decide_eq_true e)) | (rcases g.2.2.2.2 with g1 | g1 <;> first | (exfalso; omega) | (rw [← ht (by omega)] at g1; first | (have := urg_neg.mpr g1; omega) | (simp_all; done))) | exact g.2.2.2.1 _ (by omega) (by assumption))) (show i < wa.length by omega)).symm) | (exact congrArg Value.bool (okPa_s (q := ⟨sl, wa⟩) (by assumption)).symm) | (exact congrArg Value.bool (okPa_fin (by assumption) hinv.2 (by omega) (by omega))))
          · try rw [h4]
            try simp only [rfb] at h4
            refine WL_run rfl rfl rfl (WX_q rfl rfl (q_move rfl rfl) (WL_run rfl rfl rfl (WX_q rfl rfl (q_field_ptr G rfl rfl rfl rfl) (WL_run rfl rfl rfl (WX_q rfl rfl (q_load_box G rfl rfl rfl rfl rfl rfl rfl) (WL_run rfl rfl rfl (?_)))))))
            refine WX_q rfl rfl (q_call rfl (ArgsOK.of rfl) (c_spec_l8Find sl _ hl) rfl) ?_
            refine WL_run rfl rfl rfl (WX_q rfl rfl (q_cmp rfl rfl rfl rfl) (WL_cons rfl (WX_q rfl rfl (q_pick_f rfl rfl rfl) (?_))))
            refine WL_nil (hK9 _ ?_)
            clear hK9 K9
            refine W_cond rfl (fun h5 => ?_) (fun h5 => ?_)
            · try rw [h5]
              try simp only [rfb] at h5
              refine W_seq (fun K12 hK12 => ?_)
              refine W_region (WL_cons rfl (WX_q rfl rfl (q_assign rfl rfl) (?_)))
              refine WL_nil (hK12 _ ?_)
              clear hK12 K12
              refine W_ret (fin_one rfl (rc_v ?_))
              all_goals clear hK8 K8 hK6 K6 hK2 K2
              all_goals (first | (exact congrArg Value.bool (okPa_w (q := ⟨sl, wa⟩) (i := i) (oneWa_f (fun g => by dsimp only at g; first | exact inside_nt (by assumption) g.1 | exact inside_nt (by assumption) g.2.1 | (have := g.2.2.1; omega) | (have h9 := idx_ge.mp (show 0 ≤ idxN (fun j => decide ((wa.getD j default).q = (wa.getD i default).q)) i by omega); obtain ⟨j, hj, e⟩ := anyN_iff.mp h9; exact g.2.2.2.1 j hj (of_decide_eq_true e)) | (rcases g.2.2.2.2 with g1 | g1 <;> first | (exfalso; omega) | (rw [← ht (by omega)] at g1; first | (have := urg_neg.mpr g1; omega) | (simp_all; done))) | exact g.2.2.2.1 _ (by omega) (by assumption))) (show i < wa.length by omega)).symm) | (exact congrArg Value.bool (okPa_s (q := ⟨sl, wa⟩) (by assumption)).symm) | (exact congrArg Value.bool (okPa_fin (by assumption) hinv.2 (by omega) (by omega))))
            · try rw [h5]
              try simp only [rfb] at h5
              refine W_skip (hK8 _ ?_)
              clear hK8 K8
              refine W_seq (fun K13 hK13 => ?_)
              refine W_seq (fun K14 hK14 => ?_)
              refine W_draws mixed (by kernel_rfl) (QL_cons rfl (QX_q rfl rfl (q_move rfl rfl) (QL_cons rfl (QX_q rfl rfl (q_cmp rfl rfl rfl rfl) (QL_cons rfl (QX_q rfl rfl (q_move rfl rfl) (QL_part rfl rfl rfl (fun h6 => ?_) (fun h6 => ?_))))))))
              · try rw [h6]
                try simp only [rfb] at h6
                refine QL_run rfl rfl rfl (QX_q rfl rfl (q_move rfl rfl) (QL_run rfl rfl rfl (QX_q rfl rfl (q_move rfl rfl) (QL_run rfl rfl rfl (?_)))))
                first | refine QX_q rfl rfl (q_arith rfl rfl rfl rfl (by omega) (by omega)) ?_ | refine QX_q rfl rfl (q_wrap rfl rfl rfl rfl) ?_
                refine QL_run rfl rfl rfl (?_)
                first | refine QX_q rfl rfl (q_index_lst G rfl rfl rfl rfl (by omega) (getN (by omega))) ?_ | refine QX_q rfl rfl (q_index_lst G rfl rfl rfl rfl (by omega) (getNI (by omega) (by omega))) ?_
                refine QL_run rfl rfl rfl (QX_q rfl rfl (q_field_ept G rfl rfl rfl rfl) (QL_run rfl rfl rfl (QX_q rfl rfl (q_load_ept G rfl rfl rfl rfl rfl) (QL_run rfl rfl rfl (QX_q rfl rfl (q_move rfl rfl) (QL_run rfl rfl rfl (QX_q rfl rfl (q_move rfl rfl) (QL_run rfl rfl rfl (?_)))))))))
                first | refine QX_q rfl rfl (q_arith rfl rfl rfl rfl (by omega) (by omega)) ?_ | refine QX_q rfl rfl (q_wrap rfl rfl rfl rfl) ?_
                refine QL_run rfl rfl rfl (?_)
                first | refine QX_q rfl rfl (q_index_lst G rfl rfl rfl rfl (by omega) (getN (by omega))) ?_ | refine QX_q rfl rfl (q_index_lst G rfl rfl rfl rfl (by omega) (getNI (by omega) (by omega))) ?_
                refine QL_run rfl rfl rfl (QX_q rfl rfl (q_field_ept G rfl rfl rfl rfl) (QL_run rfl rfl rfl (QX_q rfl rfl (q_load_ept G rfl rfl rfl rfl rfl) (QL_run rfl rfl rfl (QX_q rfl rfl (q_field_ptr G rfl rfl rfl rfl) (QL_run rfl rfl rfl (QX_q rfl rfl (q_load_box G rfl rfl rfl rfl rfl rfl rfl) (QL_run rfl rfl rfl (QX_q rfl rfl (q_field_ptr G rfl rfl rfl rfl) (QL_run rfl rfl rfl (QX_q rfl rfl (q_load_box G rfl rfl rfl rfl rfl rfl rfl) (QL_run rfl rfl rfl (?_)))))))))))))
                refine QX_q rfl rfl (q_call rfl (ArgsOK.of rfl) (c_spec_l8Less _ _ _ _) rfl) ?_
                refine QL_run rfl rfl rfl (QX_q rfl rfl (q_not rfl rfl) (QL_cons rfl (QX_q rfl rfl (q_pick_t rfl rfl rfl) (?_))))
                refine QL_nil (hK14 _ ?_)
                clear hK14 K14
                refine W_cond rfl (fun h7 => ?_) (fun h7 => ?_)
                · try rw [h7]
                  try simp only [rfb] at h7
                  refine W_seq (fun K15 hK15 => ?_)
                  refine W_region (WL_cons rfl (WX_q rfl rfl (q_assign rfl rfl) (?_)))
                  refine WL_nil (hK15 _ ?_)
                  clear hK15 K15
                  refine W_ret (fin_one rfl (rc_v ?_))
                  all_goals clear hK13 K13 hK6 K6 hK2 K2
                  all_goals (first | (exact congrArg Value.bool (okPa_w (q := ⟨sl, wa⟩) (i := i) (oneWa_f (fun g => by dsimp only at g; first | exact inside_nt (by assumption) g.1 | exact inside_nt (by assumption) g.2.1 | (have := g.2.2.1; omega) | (have h9 := idx_ge.mp (show 0 ≤ idxN (fun j => decide ((wa.getD j default).q = (wa.getD i default).q)) i by omega); obtain ⟨j, hj, e⟩ := anyN_iff.mp h9; exact g.2.2.2.1 j hj (of_decide_eq_true e)) | (rcases g.2.2.2.2 with g1 | g1 <;> first | (exfalso; omega) | (rw [← ht (by omega)] at g1; first | (have := urg_neg.mpr g1; omega) | (simp_all; done))) | exact g.2.2.2.1 _ (by omega) (by assumption))) (show i < wa.length by omega)).symm) | (exact congrArg Value.bool (okPa_s (q := ⟨sl, wa⟩) (by assumption)).symm) | (exact congrArg Value.bool (okPa_fin (by assumption) hinv.2 (by omega) (by omega))))
                · try rw [h7]
                  try simp only [rfb] at h7
                  refine W_skip (hK13 _ ?_)
                  clear hK13 K13
                  refine W_seq (fun K16 hK16 => ?_)
                  refine W_region (WL_cons rfl (WX_q rfl rfl (q_assign rfl rfl) (?_)))
                  refine WL_nil (hK16 _ ?_)
                  clear hK16 K16
                  refine W_block ?_
                  refine W_loopK [0, 1, 5, 6] [0] (fun (k : Nat) => [(7, .v (.int .i64 (k : Int)))]) (fun (k : Nat) => []) (fun (k : Nat) => k ≤ i ∧ ∀ j, j < k → (wa.getD j default).q ≠ (wa.getD i default).q) (fun (k : Nat) => i - k) 0 rfl rfl ?_ ?_ ?_ ?_
                  · exact ⟨Nat.zero_le _, fun j hj => by omega⟩
                  · exact ⟨⟨_, rfl, by (first | rfl | (simp; done) | (simp; omega))⟩, rfl, trivial⟩
                  · exact trivial
                  · intro k hk
                    simp only [List.cons_append, List.nil_append]
                    refine W_seq (fun K17 hK17 => ?_)
                    refine W_seq (fun K18 hK18 => ?_)
                    refine W_region (WL_cons rfl (WX_q rfl rfl (q_move rfl rfl) (WL_cons rfl (WX_q rfl rfl (q_move rfl rfl) (WL_cons rfl (WX_q rfl rfl (q_cmp rfl rfl rfl rfl) (?_)))))))
                    refine WL_nil (hK18 _ ?_)
                    clear hK18 K18
                    refine W_cond rfl (fun h8 => ?_) (fun h8 => ?_)
                    · try rw [h8]
                      try simp only [rfb] at h8
                      refine W_skip (hK17 _ ?_)
                      clear hK17 K17
                      refine W_seq (fun K19 hK19 => ?_)
                      refine W_block ?_
                      refine W_seq (fun K20 hK20 => ?_)
                      refine W_draws mixed (by kernel_rfl) (QL_cons rfl (QX_q rfl rfl (q_move rfl rfl) (QL_cons rfl (QX_q rfl rfl (q_move rfl rfl) (QL_cons rfl (?_))))))
                      first | refine QX_q rfl rfl (q_index_lst G rfl rfl rfl rfl (by omega) (getN (by omega))) ?_ | refine QX_q rfl rfl (q_index_lst G rfl rfl rfl rfl (by omega) (getNI (by omega) (by omega))) ?_
                      refine QL_cons rfl (QX_q rfl rfl (q_field_ept G rfl rfl rfl rfl) (QL_cons rfl (QX_q rfl rfl (q_load_ept G rfl rfl rfl rfl rfl) (QL_cons rfl (QX_q rfl rfl (q_field_ptr G rfl rfl rfl rfl) (QL_cons rfl (QX_q rfl rfl (q_load_box G rfl rfl rfl rfl rfl rfl rfl) (QL_cons rfl (QX_q rfl rfl (q_cmp rfl rfl rfl rfl) (?_))))))))))
                      refine QL_nil (hK20 _ ?_)
                      clear hK20 K20
                      refine W_cond rfl (fun h9 => ?_) (fun h9 => ?_)
                      · try rw [h9]
                        try simp only [rfb] at h9
                        refine W_seq (fun K21 hK21 => ?_)
                        refine W_region (WL_cons rfl (WX_q rfl rfl (q_assign rfl rfl) (?_)))
                        refine WL_nil (hK21 _ ?_)
                        clear hK21 K21
                        refine W_ret (fin_one rfl (rc_v ?_))
                        all_goals clear hK19 K19 hK6 K6 hK2 K2
                        all_goals (first | (exact congrArg Value.bool (okPa_w (q := ⟨sl, wa⟩) (i := i) (oneWa_f (fun g => by dsimp only at g; first | exact inside_nt (by assumption) g.1 | exact inside_nt (by assumption) g.2.1 | (have := g.2.2.1; omega) | (have h9 := idx_ge.mp (show 0 ≤ idxN (fun j => decide ((wa.getD j default).q = (wa.getD i default).q)) i by omega); obtain ⟨j, hj, e⟩ := anyN_iff.mp h9; exact g.2.2.2.1 j hj (of_decide_eq_true e)) | (rcases g.2.2.2.2 with g1 | g1 <;> first | (exfalso; omega) | (rw [← ht (by omega)] at g1; first | (have := urg_neg.mpr g1; omega) | (simp_all; done))) | exact g.2.2.2.1 _ (by omega) (by assumption))) (show i < wa.length by omega)).symm) | (exact congrArg Value.bool (okPa_s (q := ⟨sl, wa⟩) (by assumption)).symm) | (exact congrArg Value.bool (okPa_fin (by assumption) hinv.2 (by omega) (by omega))))
                      · try rw [h9]
                        try simp only [rfb] at h9
                        refine W_skip (hK19 _ ?_)
                        clear hK19 K19
                        refine W_region (WL_cons rfl (WX_q rfl rfl (q_move rfl rfl) (WL_cons rfl (?_))))
                        first | refine WX_q rfl rfl (q_arith rfl rfl rfl rfl (by omega) (by omega)) ?_ | refine WX_q rfl rfl (q_wrap rfl rfl rfl rfl) ?_
                        refine WL_cons rfl (WX_q rfl rfl (q_assign rfl rfl) (?_))
                        refine WL_nil ⟨(k + 1), ?_, ?_, ⟨⟨_, rfl, by rfl⟩, rfl, trivial⟩, trivial, rfl, rfl, rfl⟩
                        · exact ⟨by omega, upto_succ' hk.2 (by assumption)⟩
                        · omega
                    · try rw [h8]
                      try simp only [rfb] at h8
                      refine W_exit (hK6 _ ?_)
                      clear hK17 K17 hK6 K6
                      refine W_region (WL_cons rfl (WX_q rfl rfl (q_move rfl rfl) (WL_cons rfl (?_))))
                      first | refine WX_q rfl rfl (q_arith rfl rfl rfl rfl (by omega) (by omega)) ?_ | refine WX_q rfl rfl (q_wrap rfl rfl rfl rfl) ?_
                      refine WL_cons rfl (WX_q rfl rfl (q_assign rfl rfl) (?_))
                      refine WL_nil ⟨(i + 1), ?_, ?_, ⟨⟨_, rfl, by rfl⟩, rfl, trivial⟩, trivial, rfl, rfl, rfl⟩
                      · exact ⟨by omega, upto_succ hinv.2 (oneWa_iff.mpr ⟨inside_t.mp (by assumption), inside_t.mp (by assumption), by omega, fun j hj => hk.2 j (by omega), (by first | exact .inl (by omega) | (right; rw [← ht (by omega)]; first | exact urg_neg.mp (by omega) | assumption))⟩)⟩
                      · omega
              · try rw [h6]
                try simp only [rfb] at h6
                refine QL_skip rfl rfl rfl rfl rfl rfl (QL_skip rfl rfl rfl rfl rfl rfl (QL_skip rfl rfl rfl rfl rfl rfl (QL_skip rfl rfl rfl rfl rfl rfl (QL_skip rfl rfl rfl rfl rfl rfl (QL_skip rfl rfl rfl rfl rfl rfl (QL_skip rfl rfl rfl rfl rfl rfl (QL_skip rfl rfl rfl rfl rfl rfl (QL_skip rfl rfl rfl rfl rfl rfl (QL_skip rfl rfl rfl rfl rfl rfl (QL_skip rfl rfl rfl rfl rfl rfl (QL_skip rfl rfl rfl rfl rfl rfl (QL_skip rfl rfl rfl rfl rfl rfl (QL_skip rfl rfl rfl rfl rfl rfl (QL_skip rfl rfl rfl rfl rfl rfl (QL_skip rfl rfl rfl rfl rfl rfl (QL_skip rfl rfl rfl rfl rfl rfl (QL_skip rfl rfl rfl rfl rfl rfl (QL_cons rfl (QX_q rfl rfl (q_pick_f rfl rfl rfl) (?_))))))))))))))))))))
                refine QL_nil (hK14 _ ?_)
                clear hK14 K14
                refine W_false rfl ?_
                refine W_skip (hK13 _ ?_)
                clear hK13 K13
                refine W_seq (fun K22 hK22 => ?_)
                refine W_region (WL_cons rfl (WX_q rfl rfl (q_assign rfl rfl) (?_)))
                refine WL_nil (hK22 _ ?_)
                clear hK22 K22
                refine W_block ?_
                refine W_loopK [0, 1, 5, 6] [0] (fun (k : Nat) => [(7, .v (.int .i64 (k : Int)))]) (fun (k : Nat) => []) (fun (k : Nat) => k ≤ i ∧ ∀ j, j < k → (wa.getD j default).q ≠ (wa.getD i default).q) (fun (k : Nat) => i - k) 0 rfl rfl ?_ ?_ ?_ ?_
                · exact ⟨Nat.zero_le _, fun j hj => by omega⟩
                · exact ⟨⟨_, rfl, by (first | rfl | (simp; done) | (simp; omega))⟩, rfl, trivial⟩
                · exact trivial
                · intro k hk
                  simp only [List.cons_append, List.nil_append]
                  refine W_seq (fun K23 hK23 => ?_)
                  refine W_seq (fun K24 hK24 => ?_)
                  refine W_region (WL_cons rfl (WX_q rfl rfl (q_move rfl rfl) (WL_cons rfl (WX_q rfl rfl (q_move rfl rfl) (WL_cons rfl (WX_q rfl rfl (q_cmp rfl rfl rfl rfl) (?_)))))))
                  refine WL_nil (hK24 _ ?_)
                  clear hK24 K24
                  refine W_cond rfl (fun h10 => ?_) (fun h10 => ?_)
                  · try rw [h10]
                    try simp only [rfb] at h10
                    refine W_skip (hK23 _ ?_)
                    clear hK23 K23
                    refine W_seq (fun K25 hK25 => ?_)
                    refine W_block ?_
                    refine W_seq (fun K26 hK26 => ?_)
                    refine W_draws mixed (by kernel_rfl) (QL_cons rfl (QX_q rfl rfl (q_move rfl rfl) (QL_cons rfl (QX_q rfl rfl (q_move rfl rfl) (QL_cons rfl (?_))))))
                    first | refine QX_q rfl rfl (q_index_lst G rfl rfl rfl rfl (by omega) (getN (by omega))) ?_ | refine QX_q rfl rfl (q_index_lst G rfl rfl rfl rfl (by omega) (getNI (by omega) (by omega))) ?_
                    refine QL_cons rfl (QX_q rfl rfl (q_field_ept G rfl rfl rfl rfl) (QL_cons rfl (QX_q rfl rfl (q_load_ept G rfl rfl rfl rfl rfl) (QL_cons rfl (QX_q rfl rfl (q_field_ptr G rfl rfl rfl rfl) (QL_cons rfl (QX_q rfl rfl (q_load_box G rfl rfl rfl rfl rfl rfl rfl) (QL_cons rfl (QX_q rfl rfl (q_cmp rfl rfl rfl rfl) (?_))))))))))
                    refine QL_nil (hK26 _ ?_)
                    clear hK26 K26
                    refine W_cond rfl (fun h11 => ?_) (fun h11 => ?_)
                    · try rw [h11]
                      try simp only [rfb] at h11
                      refine W_seq (fun K27 hK27 => ?_)
                      refine W_region (WL_cons rfl (WX_q rfl rfl (q_assign rfl rfl) (?_)))
                      refine WL_nil (hK27 _ ?_)
                      clear hK27 K27
                      refine W_ret (fin_one rfl (rc_v ?_))
                      all_goals clear hK25 K25 hK6 K6 hK2 K2
                      all_goals (first | (exact congrArg Value.bool (okPa_w (q := ⟨sl, wa⟩) (i := i) (oneWa_f (fun g => by dsimp only at g; first | exact inside_nt (by assumption) g.1 | exact inside_nt (by assumption) g.2.1 | (have := g.2.2.1; omega) | (have h9 := idx_ge.mp (show 0 ≤ idxN (fun j => decide ((wa.getD j default).q = (wa.getD i default).q)) i by omega); obtain ⟨j, hj, e⟩ := anyN_iff.mp h9; exact g.2.2.2.1 j hj (of_decide_eq_true e)) | (rcases g.2.2.2.2 with g1 | g1 <;> first | (exfalso; omega) | (rw [← ht (by omega)] at g1; first | (have := urg_neg.mpr g1; omega) | (simp_all; done))) | exact g.2.2.2.1 _ (by omega) (by assumption))) (show i < wa.length by omega)).symm) | (exact congrArg Value.bool (okPa_s (q := ⟨sl, wa⟩) (by assumption)).symm) | (exact congrArg Value.bool (okPa_fin (by assumption) hinv.2 (by omega) (by omega))))
                    · try rw [h11]
                      try simp only [rfb] at h11
                      refine W_skip (hK25 _ ?_)
                      clear hK25 K25
                      refine W_region (WL_cons rfl (WX_q rfl rfl (q_move rfl rfl) (WL_cons rfl (?_))))
                      first | refine WX_q rfl rfl (q_arith rfl rfl rfl rfl (by omega) (by omega)) ?_ | refine WX_q rfl rfl (q_wrap rfl rfl rfl rfl) ?_
                      refine WL_cons rfl (WX_q rfl rfl (q_assign rfl rfl) (?_))
                      refine WL_nil ⟨(k + 1), ?_, ?_, ⟨⟨_, rfl, by rfl⟩, rfl, trivial⟩, trivial, rfl, rfl, rfl⟩
                      · exact ⟨by omega, upto_succ' hk.2 (by assumption)⟩
                      · omega
                  · try rw [h10]
                    try simp only [rfb] at h10
                    refine W_exit (hK6 _ ?_)
                    clear hK23 K23 hK6 K6
                    refine W_region (WL_cons rfl (WX_q rfl rfl (q_move rfl rfl) (WL_cons rfl (?_))))
                    first | refine WX_q rfl rfl (q_arith rfl rfl rfl rfl (by omega) (by omega)) ?_ | refine WX_q rfl rfl (q_wrap rfl rfl rfl rfl) ?_
                    refine WL_cons rfl (WX_q rfl rfl (q_assign rfl rfl) (?_))
                    refine WL_nil ⟨(i + 1), ?_, ?_, ⟨⟨_, rfl, by rfl⟩, rfl, trivial⟩, trivial, rfl, rfl, rfl⟩
                    · exact ⟨by omega, upto_succ hinv.2 (oneWa_iff.mpr ⟨inside_t.mp (by assumption), inside_t.mp (by assumption), by omega, fun j hj => hk.2 j (by omega), (by first | exact .inl (by omega) | (right; rw [← ht (by omega)]; first | exact urg_neg.mp (by omega) | assumption))⟩)⟩
                    · omega
      · try rw [h2]
        try simp only [rfb] at h2
        refine W_exit (hK2 _ ?_)
        clear hK4 K4 hK2 K2
        refine W_seq (fun K28 hK28 => ?_)
        refine W_region (WL_cons rfl (WX_q rfl rfl (q_move rfl rfl) (WL_cons rfl (?_))))
        refine WX_q rfl rfl (q_call rfl (ArgsOK.of rfl) (c_spec_l8Good sl hl) rfl) ?_
        refine WL_cons rfl (WX_q rfl rfl (q_move rfl rfl) (WL_part rfl rfl rfl (fun h12 => ?_) (fun h12 => ?_)))
        · try rw [h12]
          try simp only [rfb] at h12
          refine WL_run rfl rfl rfl (WX_q rfl rfl (q_move rfl rfl) (WL_run rfl rfl rfl (?_)))
          first | refine WX_q rfl rfl (q_len' G rfl rfl rfl rfl (List.length_map _)) ?_ | refine WX_q rfl rfl (q_len G rfl rfl rfl rfl) ?_
          refine WL_run rfl rfl rfl (WX_q rfl rfl (q_cmp rfl rfl rfl rfl) (WL_cons rfl (WX_q rfl rfl (q_pick_t rfl rfl rfl) (WL_cons rfl (WX_q rfl rfl (q_assign rfl rfl) (?_))))))
          refine WL_nil (hK28 _ ?_)
          clear hK28 K28
          refine W_ret (fin_one rfl (rc_v ?_))
          all_goals (first | (exact congrArg Value.bool (okPa_w (q := ⟨sl, wa⟩) (i := i) (oneWa_f (fun g => by dsimp only at g; first | exact inside_nt (by assumption) g.1 | exact inside_nt (by assumption) g.2.1 | (have := g.2.2.1; omega) | (have h9 := idx_ge.mp (show 0 ≤ idxN (fun j => decide ((wa.getD j default).q = (wa.getD i default).q)) i by omega); obtain ⟨j, hj, e⟩ := anyN_iff.mp h9; exact g.2.2.2.1 j hj (of_decide_eq_true e)) | (rcases g.2.2.2.2 with g1 | g1 <;> first | (exfalso; omega) | (rw [← ht (by omega)] at g1; first | (have := urg_neg.mpr g1; omega) | (simp_all; done))) | exact g.2.2.2.1 _ (by omega) (by assumption))) (show i < wa.length by omega)).symm) | (exact congrArg Value.bool (okPa_s (q := ⟨sl, wa⟩) (by assumption)).symm) | (exact congrArg Value.bool (okPa_fin (by assumption) hinv.2 (by omega) (by omega))))
        · try rw [h12]
          try simp only [rfb] at h12
          refine WL_skip rfl rfl rfl rfl rfl rfl (WL_skip rfl rfl rfl rfl rfl rfl (WL_skip rfl rfl rfl rfl rfl rfl (WL_cons rfl (WX_q rfl rfl (q_pick_f rfl rfl rfl) (WL_cons rfl (WX_q rfl rfl (q_assign rfl rfl) (?_)))))))
          refine WL_nil (hK28 _ ?_)
          clear hK28 K28
          refine W_ret (fin_one rfl (rc_v ?_))
          all_goals (first | (exact congrArg Value.bool (okPa_w (q := ⟨sl, wa⟩) (i := i) (oneWa_f (fun g => by dsimp only at g; first | exact inside_nt (by assumption) g.1 | exact inside_nt (by assumption) g.2.1 | (have := g.2.2.1; omega) | (have h9 := idx_ge.mp (show 0 ≤ idxN (fun j => decide ((wa.getD j default).q = (wa.getD i default).q)) i by omega); obtain ⟨j, hj, e⟩ := anyN_iff.mp h9; exact g.2.2.2.1 j hj (of_decide_eq_true e)) | (rcases g.2.2.2.2 with g1 | g1 <;> first | (exfalso; omega) | (rw [← ht (by omega)] at g1; first | (have := urg_neg.mpr g1; omega) | (simp_all; done))) | exact g.2.2.2.1 _ (by omega) (by assumption))) (show i < wa.length by omega)).symm) | (exact congrArg Value.bool (okPa_s (q := ⟨sl, wa⟩) (by assumption)).symm) | (exact congrArg Value.bool (okPa_fin (by assumption) hinv.2 (by omega) (by omega))))
    · try rw [h1]
      try simp only [rfb] at h1
      refine WL_skip rfl rfl rfl rfl rfl rfl (WL_skip rfl rfl rfl rfl rfl rfl (WL_cons rfl (WX_q rfl rfl (q_pick_f rfl rfl rfl) (?_))))
      refine WL_nil (hK5 _ ?_)
      clear hK5 K5
      refine W_false rfl ?_
      refine W_exit (hK2 _ ?_)
      clear hK4 K4 hK2 K2
      refine W_seq (fun K29 hK29 => ?_)
      refine W_region (WL_cons rfl (WX_q rfl rfl (q_move rfl rfl) (WL_cons rfl (?_))))
      refine WX_q rfl rfl (q_call rfl (ArgsOK.of rfl) (c_spec_l8Good sl hl) rfl) ?_
      refine WL_cons rfl (WX_q rfl rfl (q_move rfl rfl) (WL_part rfl rfl rfl (fun h13 => ?_) (fun h13 => ?_)))
      · try rw [h13]
        try simp only [rfb] at h13
        refine WL_run rfl rfl rfl (WX_q rfl rfl (q_move rfl rfl) (WL_run rfl rfl rfl (?_)))
        first | refine WX_q rfl rfl (q_len' G rfl rfl rfl rfl (List.length_map _)) ?_ | refine WX_q rfl rfl (q_len G rfl rfl rfl rfl) ?_
        refine WL_run rfl rfl rfl (WX_q rfl rfl (q_cmp rfl rfl rfl rfl) (WL_cons rfl (WX_q rfl rfl (q_pick_t rfl rfl rfl) (WL_cons rfl (WX_q rfl rfl (q_assign rfl rfl) (?_))))))
        refine WL_nil (hK29 _ ?_)
        clear hK29 K29
        refine W_ret (fin_one rfl (rc_v ?_))
        all_goals (first | (exact congrArg Value.bool (okPa_w (q := ⟨sl, wa⟩) (i := i) (oneWa_f (fun g => by dsimp only at g; first | exact inside_nt (by assumption) g.1 | exact inside_nt (by assumption) g.2.1 | (have := g.2.2.1; omega) | (have h9 := idx_ge.mp (show 0 ≤ idxN (fun j => decide ((wa.getD j default).q = (wa.getD i default).q)) i by omega); obtain ⟨j, hj, e⟩ := anyN_iff.mp h9; exact g.2.2.2.1 j hj (of_decide_eq_true e)) | (rcases g.2.2.2.2 with g1 | g1 <;> first | (exfalso; omega) | (rw [← ht (by omega)] at g1; first | (have := urg_neg.mpr g1; omega) | (simp_all; done))) | exact g.2.2.2.1 _ (by omega) (by assumption))) (show i < wa.length by omega)).symm) | (exact congrArg Value.bool (okPa_s (q := ⟨sl, wa⟩) (by assumption)).symm) | (exact congrArg Value.bool (okPa_fin (by assumption) hinv.2 (by omega) (by omega))))
      · try rw [h13]
        try simp only [rfb] at h13
        refine WL_skip rfl rfl rfl rfl rfl rfl (WL_skip rfl rfl rfl rfl rfl rfl (WL_skip rfl rfl rfl rfl rfl rfl (WL_cons rfl (WX_q rfl rfl (q_pick_f rfl rfl rfl) (WL_cons rfl (WX_q rfl rfl (q_assign rfl rfl) (?_)))))))
        refine WL_nil (hK29 _ ?_)
        clear hK29 K29
        refine W_ret (fin_one rfl (rc_v ?_))
        all_goals (first | (exact congrArg Value.bool (okPa_w (q := ⟨sl, wa⟩) (i := i) (oneWa_f (fun g => by dsimp only at g; first | exact inside_nt (by assumption) g.1 | exact inside_nt (by assumption) g.2.1 | (have := g.2.2.1; omega) | (have h9 := idx_ge.mp (show 0 ≤ idxN (fun j => decide ((wa.getD j default).q = (wa.getD i default).q)) i by omega); obtain ⟨j, hj, e⟩ := anyN_iff.mp h9; exact g.2.2.2.1 j hj (of_decide_eq_true e)) | (rcases g.2.2.2.2 with g1 | g1 <;> first | (exfalso; omega) | (rw [← ht (by omega)] at g1; first | (have := urg_neg.mpr g1; omega) | (simp_all; done))) | exact g.2.2.2.1 _ (by omega) (by assumption))) (show i < wa.length by omega)).symm) | (exact congrArg Value.bool (okPa_s (q := ⟨sl, wa⟩) (by assumption)).symm) | (exact congrArg Value.bool (okPa_fin (by assumption) hinv.2 (by omega) (by omega))))

theorem c_impl_isSettled (q : Que) (hl : q.sl.length ≤ 1048576) (hw : q.wa.length ≤ 1048576) (hd : difS q.sl) : Ctr Tryz.prog 87 [.agg [.lst 3 (q.sl.map encSl), .lst 2 (q.wa.map encWa)]] (.one (.v (.bool (setd q)))) := by
  have hbb := @bstS_bd q.sl false
  refine Ctr.of (n := 33) G Tryz.func87 rfl (by kernel_rfl) rfl rfl rfl (fun w0 => ?_)
  refine W_pinS 0 rfl (fun _ => rfl) (fun u0 => ?_)
  refine W_seq (fun K1 hK1 => ?_)
  refine W_region (WL_cons rfl (WX_box 1 rfl rfl rfl rfl rfl rfl rfl (WL_cons rfl (WX_q rfl rfl (q_assign rfl rfl) (?_)))))
  refine WL_nil (hK1 _ ?_)
  clear hK1 K1
  refine W_seq (fun K2 hK2 => ?_)
  refine W_seq (fun K3 hK3 => ?_)
  refine W_region (WL_cons rfl (WX_q rfl rfl (q_field_ptr G rfl rfl rfl rfl) (WL_cons rfl (WX_q rfl rfl (q_lst (q_load_box G rfl rfl rfl rfl rfl rfl rfl)) (WL_cons rfl (?_))))))
  first | refine WX_q rfl rfl (q_len' G rfl rfl rfl rfl (List.length_map _)) ?_ | refine WX_q rfl rfl (q_len G rfl rfl rfl rfl) ?_
  refine WL_cons rfl (WX_q rfl rfl (q_cmp rfl rfl rfl rfl) (?_))
  refine WL_nil (hK3 _ ?_)
  clear hK3 K3
  refine W_cond rfl (fun h1 => ?_) (fun h1 => ?_)
  · try rw [h1]
    try simp only [rfb] at h1
    refine W_seq (fun K4 hK4 => ?_)
    refine W_region (WL_cons rfl (WX_q rfl rfl (q_assign rfl rfl) (?_)))
    refine WL_nil (hK4 _ ?_)
    clear hK4 K4
    refine W_ret (fin_one rfl (rc_v ?_))
    all_goals clear hK2 K2
    all_goals (first | (rw [setd_0 (by omega)]; done) | (rw [setd_f (by omega) (by omega)]; done) | (rw [setd_b (by omega) (by omega)]; done) | (rw [setd_l (by omega) (by omega) (by omega)]; first | rfl | (exact congrArg Value.bool (by rw [Bool.eq_iff_iff, decide_eq_true_iff]; exact urg_pos))) | rfl)
  · try rw [h1]
    try simp only [rfb] at h1
    refine W_skip (hK2 _ ?_)
    clear hK2 K2
    refine W_seq (fun K5 hK5 => ?_)
    refine W_region (WL_cons rfl (WX_q rfl rfl (q_field_ptr G rfl rfl rfl rfl) (WL_cons rfl (WX_q rfl rfl (q_lst (q_load_box G rfl rfl rfl rfl rfl rfl rfl)) (WL_cons rfl (?_))))))
    refine WX_q rfl rfl (q_call rfl (ArgsOK.of rfl) (c_impl_pendingSlot q.sl false hl hd) rfl) ?_
    refine WL_cons rfl (WX_q rfl rfl (q_assign rfl rfl) (?_))
    refine WL_nil (hK5 _ ?_)
    clear hK5 K5
    refine W_seq (fun K6 hK6 => ?_)
    refine W_draws mixed (by kernel_rfl) (QL_cons rfl (QX_q rfl rfl (q_field_ptr G rfl rfl rfl rfl) (QL_cons rfl (QX_q rfl rfl (q_lst (q_load_box G rfl rfl rfl rfl rfl rfl rfl)) (QL_cons rfl (?_))))))
    refine QX_q rfl rfl (q_call rfl (ArgsOK.of rfl) (c_impl_firstEmpty q.sl hl) rfl) ?_
    refine QL_cons rfl (QX_q rfl rfl (q_cmp rfl rfl rfl rfl) (QL_cons rfl (QX_q rfl rfl (q_move rfl rfl) (QL_part rfl rfl rfl (fun h2 => ?_) (fun h2 => ?_)))))
    · try rw [h2]
      try simp only [rfb] at h2
      refine QL_run rfl rfl rfl (QX_q rfl rfl (q_move rfl rfl) (QL_run rfl rfl rfl (QX_q rfl rfl (q_cmp rfl rfl rfl rfl) (QL_run rfl rfl rfl (QX_q rfl rfl (q_move rfl rfl) (QL_part rfl rfl rfl (fun h3 => ?_) (fun h3 => ?_)))))))
      · try rw [h3]
        try simp only [rfb] at h3
        refine QL_skip rfl rfl rfl rfl rfl rfl (QL_skip rfl rfl rfl rfl rfl rfl (QL_skip rfl rfl rfl rfl rfl rfl (QL_skip rfl rfl rfl rfl rfl rfl (QL_skip rfl rfl rfl rfl rfl rfl (QL_skip rfl rfl rfl rfl rfl rfl (QL_skip rfl rfl rfl rfl rfl rfl (QL_skip rfl rfl rfl rfl rfl rfl (QL_skip rfl rfl rfl rfl rfl rfl (QL_skip rfl rfl rfl rfl rfl rfl (QL_skip rfl rfl rfl rfl rfl rfl (QL_skip rfl rfl rfl rfl rfl rfl (QL_run rfl rfl rfl (QX_q rfl rfl (q_pick_t rfl rfl rfl) (QL_cons rfl (QX_q rfl rfl (q_pick_t rfl rfl rfl) (QL_cons rfl (QX_q rfl rfl (q_assign rfl rfl) (?_))))))))))))))))))
        refine QL_nil (hK6 _ ?_)
        clear hK6 K6
        refine W_ret (fin_one rfl (rc_v ?_))
        all_goals (first | (rw [setd_0 (by omega)]; done) | (rw [setd_f (by omega) (by omega)]; done) | (rw [setd_b (by omega) (by omega)]; done) | (rw [setd_l (by omega) (by omega) (by omega)]; first | rfl | (exact congrArg Value.bool (by rw [Bool.eq_iff_iff, decide_eq_true_iff]; exact urg_pos))) | rfl)
      · try rw [h3]
        try simp only [rfb] at h3
        refine QL_run rfl rfl rfl (QX_q rfl rfl (q_field_ptr G rfl rfl rfl rfl) (QL_run rfl rfl rfl (QX_q rfl rfl (q_lst (q_load_box G rfl rfl rfl rfl rfl rfl rfl)) (QL_run rfl rfl rfl (?_)))))
        first | refine QX_q rfl rfl (q_index_lst G rfl rfl rfl rfl (by omega) (getN (by omega))) ?_ | refine QX_q rfl rfl (q_index_lst G rfl rfl rfl rfl (by omega) (getNI (by omega) (by omega))) ?_ | refine QX_q rfl rfl (q_index_lst G rfl rfl rfl rfl (by omega) (getM (by omega) (by omega))) ?_
        refine QL_run rfl rfl rfl (QX_q rfl rfl (q_load_ept_struct G rfl rfl rfl rfl) (QL_run rfl rfl rfl (QX_q rfl rfl (q_field_ptr G rfl rfl rfl rfl) (QL_run rfl rfl rfl (QX_q rfl rfl (q_lst (q_load_box G rfl rfl rfl rfl rfl rfl rfl)) (QL_run rfl rfl rfl (QX_q rfl rfl (q_move rfl rfl) (QL_run rfl rfl rfl (?_)))))))))
        first | refine QX_q rfl rfl (q_index_lst G rfl rfl rfl rfl (by omega) (getN (by omega))) ?_ | refine QX_q rfl rfl (q_index_lst G rfl rfl rfl rfl (by omega) (getNI (by omega) (by omega))) ?_ | refine QX_q rfl rfl (q_index_lst G rfl rfl rfl rfl (by omega) (getM (by omega) (by omega))) ?_
        refine QL_run rfl rfl rfl (QX_q rfl rfl (q_load_ept_struct G rfl rfl rfl rfl) (QL_run rfl rfl rfl (?_)))
        refine QX_q rfl rfl (q_call rfl (ArgsOK.of rfl) (c_impl_waiterOf _) rfl) ?_
        refine QL_run rfl rfl rfl (?_)
        refine QX_q rfl rfl (q_call rfl (ArgsOK.of rfl) (c_impl_compareUrgency _ _) rfl) ?_
        refine QL_run rfl rfl rfl (QX_q rfl rfl (q_cmp rfl rfl rfl rfl) (QL_run rfl rfl rfl (QX_q rfl rfl (q_pick_f rfl rfl rfl) (QL_cons rfl (QX_q rfl rfl (q_pick_t rfl rfl rfl) (QL_cons rfl (QX_q rfl rfl (q_assign rfl rfl) (?_))))))))
        refine QL_nil (hK6 _ ?_)
        clear hK6 K6
        refine W_ret (fin_one rfl (rc_v ?_))
        all_goals (first | (rw [setd_0 (by omega)]; done) | (rw [setd_f (by omega) (by omega)]; done) | (rw [setd_b (by omega) (by omega)]; done) | (rw [setd_l (by omega) (by omega) (by omega)]; first | rfl | (exact congrArg Value.bool (by rw [Bool.eq_iff_iff, decide_eq_true_iff]; exact urg_pos))) | rfl)
    · try rw [h2]
      try simp only [rfb] at h2
      refine QL_skip rfl rfl rfl rfl rfl rfl (QL_skip rfl rfl rfl rfl rfl rfl (QL_skip rfl rfl rfl rfl rfl rfl (QL_skip_u rfl rfl rfl rfl rfl (QL_skip_u rfl rfl rfl rfl rfl (QL_skip_u rfl rfl rfl rfl rfl (QL_skip_u rfl rfl rfl rfl rfl (QL_skip_u rfl rfl rfl rfl rfl (QL_skip_u rfl rfl rfl rfl rfl (QL_skip_u rfl rfl rfl rfl rfl (QL_skip_u rfl rfl rfl rfl rfl (QL_skip_u rfl rfl rfl rfl rfl (QL_skip_u rfl rfl rfl rfl rfl (QL_skip_u rfl rfl rfl rfl rfl (QL_skip_u rfl rfl rfl rfl rfl (QL_skip rfl rfl rfl rfl rfl rfl (QL_cons rfl (QX_q rfl rfl (q_pick_f rfl rfl rfl) (QL_cons rfl (QX_q rfl rfl (q_assign rfl rfl) (?_))))))))))))))))))))
      refine QL_nil (hK6 _ ?_)
      clear hK6 K6
      refine W_ret (fin_one rfl (rc_v ?_))
      all_goals (first | (rw [setd_0 (by omega)]; done) | (rw [setd_f (by omega) (by omega)]; done) | (rw [setd_b (by omega) (by omega)]; done) | (rw [setd_l (by omega) (by omega) (by omega)]; first | rfl | (exact congrArg Value.bool (by rw [Bool.eq_iff_iff, decide_eq_true_iff]; exact urg_pos))) | rfl)

theorem c_spec_l9Settled (q : Que) (hl : q.sl.length ≤ 1048576) (hw : q.wa.length ≤ 1048576) : Ctr Tryz.prog 107 [.agg [.lst 3 (q.sl.map encSl), .lst 2 (q.wa.map encWa)]] (.one (.v (.bool (setd q)))) := by
  have hbb := @bstS_bd q.sl false
  refine Ctr.of (n := 42) G Tryz.func107 rfl (by kernel_rfl) rfl rfl rfl (fun w0 => ?_)
  refine W_pinS 0 rfl (fun _ => rfl) (fun u0 => ?_)
  refine W_seq (fun K1 hK1 => ?_)
  refine W_region (WL_cons rfl (WX_box 1 rfl rfl rfl rfl rfl rfl rfl (WL_cons rfl (WX_q rfl rfl (q_assign rfl rfl) (?_)))))
  refine WL_nil (hK1 _ ?_)
  clear hK1 K1
  refine W_seq (fun K2 hK2 => ?_)
  refine W_seq (fun K3 hK3 => ?_)
  refine W_region (WL_cons rfl (WX_q rfl rfl (q_field_ptr G rfl rfl rfl rfl) (WL_cons rfl (WX_q rfl rfl (q_lst (q_load_box G rfl rfl rfl rfl rfl rfl rfl)) (WL_cons rfl (?_))))))
  first | refine WX_q rfl rfl (q_len' G rfl rfl rfl rfl (List.length_map _)) ?_ | refine WX_q rfl rfl (q_len G rfl rfl rfl rfl) ?_
  refine WL_cons rfl (WX_q rfl rfl (q_cmp rfl rfl rfl rfl) (?_))
  refine WL_nil (hK3 _ ?_)
  clear hK3 K3
  refine W_cond rfl (fun h1 => ?_) (fun h1 => ?_)
  · try rw [h1]
    try simp only [rfb] at h1
    refine W_seq (fun K4 hK4 => ?_)
    refine W_region (WL_cons rfl (WX_q rfl rfl (q_assign rfl rfl) (?_)))
    refine WL_nil (hK4 _ ?_)
    clear hK4 K4
    refine W_ret (fin_one rfl (rc_v ?_))
    all_goals clear hK2 K2
    all_goals (first | (rw [setd_0 (by omega)]; done) | (rw [setd_f (by omega) (by omega)]; done) | (rw [setd_b (by omega) (by omega)]; done) | (rw [setd_l (by omega) (by omega) (by omega)]; first | rfl | (exact congrArg Value.bool (by rw [Bool.eq_iff_iff, decide_eq_true_iff]; exact urg_pos))) | rfl)
  · try rw [h1]
    try simp only [rfb] at h1
    refine W_skip (hK2 _ ?_)
    clear hK2 K2
    refine W_seq (fun K5 hK5 => ?_)
    refine W_seq (fun K6 hK6 => ?_)
    refine W_region (WL_cons rfl (WX_q rfl rfl (q_field_ptr G rfl rfl rfl rfl) (WL_cons rfl (WX_q rfl rfl (q_lst (q_load_box G rfl rfl rfl rfl rfl rfl rfl)) (WL_cons rfl (?_))))))
    refine WX_q rfl rfl (q_call rfl (ArgsOK.of rfl) (c_spec_l8Free q.sl hl) rfl) ?_
    refine WL_cons rfl (WX_q rfl rfl (q_cmp rfl rfl rfl rfl) (?_))
    refine WL_nil (hK6 _ ?_)
    clear hK6 K6
    refine W_cond rfl (fun h2 => ?_) (fun h2 => ?_)
    · try rw [h2]
      try simp only [rfb] at h2
      refine W_seq (fun K7 hK7 => ?_)
      refine W_region (WL_cons rfl (WX_q rfl rfl (q_assign rfl rfl) (?_)))
      refine WL_nil (hK7 _ ?_)
      clear hK7 K7
      refine W_ret (fin_one rfl (rc_v ?_))
      all_goals clear hK5 K5
      all_goals (first | (rw [setd_0 (by omega)]; done) | (rw [setd_f (by omega) (by omega)]; done) | (rw [setd_b (by omega) (by omega)]; done) | (rw [setd_l (by omega) (by omega) (by omega)]; first | rfl | (exact congrArg Value.bool (by rw [Bool.eq_iff_iff, decide_eq_true_iff]; exact urg_pos))) | rfl)
    · try rw [h2]
      try simp only [rfb] at h2
      refine W_skip (hK5 _ ?_)
      clear hK5 K5
      refine W_seq (fun K8 hK8 => ?_)
      refine W_region (WL_cons rfl (WX_q rfl rfl (q_field_ptr G rfl rfl rfl rfl) (WL_cons rfl (WX_q rfl rfl (q_lst (q_load_box G rfl rfl rfl rfl rfl rfl rfl)) (WL_cons rfl (?_))))))
      refine WX_q rfl rfl (q_call rfl (ArgsOK.of rfl) (c_spec_l8Best_f q.sl hl) rfl) ?_
      refine WL_cons rfl (WX_q rfl rfl (q_assign rfl rfl) (?_))
      refine WL_nil (hK8 _ ?_)
      clear hK8 K8
      refine W_seq (fun K9 hK9 => ?_)
      refine W_draws mixed (by kernel_rfl) (QL_cons rfl (QX_q rfl rfl (q_move rfl rfl) (QL_cons rfl (QX_q rfl rfl (q_cmp rfl rfl rfl rfl) (QL_cons rfl (QX_q rfl rfl (q_move rfl rfl) (QL_part rfl rfl rfl (fun h3 => ?_) (fun h3 => ?_))))))))
      · try rw [h3]
        try simp only [rfb] at h3
        refine QL_skip rfl rfl rfl rfl rfl rfl (QL_skip rfl rfl rfl rfl rfl rfl (QL_skip rfl rfl rfl rfl rfl rfl (QL_skip rfl rfl rfl rfl rfl rfl (QL_skip rfl rfl rfl rfl rfl rfl (QL_skip rfl rfl rfl rfl rfl rfl (QL_skip rfl rfl rfl rfl rfl rfl (QL_skip rfl rfl rfl rfl rfl rfl (QL_skip rfl rfl rfl rfl rfl rfl (QL_skip rfl rfl rfl rfl rfl rfl (QL_skip rfl rfl rfl rfl rfl rfl (QL_skip rfl rfl rfl rfl rfl rfl (QL_skip rfl rfl rfl rfl rfl rfl (QL_skip rfl rfl rfl rfl rfl rfl (QL_skip rfl rfl rfl rfl rfl rfl (QL_skip rfl rfl rfl rfl rfl rfl (QL_skip rfl rfl rfl rfl rfl rfl (QL_skip rfl rfl rfl rfl rfl rfl (QL_skip rfl rfl rfl rfl rfl rfl (QL_skip rfl rfl rfl rfl rfl rfl (QL_skip rfl rfl rfl rfl rfl rfl (QL_skip rfl rfl rfl rfl rfl rfl (QL_skip rfl rfl rfl rfl rfl rfl (QL_cons rfl (QX_q rfl rfl (q_pick_t rfl rfl rfl) (QL_cons rfl (QX_q rfl rfl (q_assign rfl rfl) (?_)))))))))))))))))))))))))))
        refine QL_nil (hK9 _ ?_)
        clear hK9 K9
        refine W_ret (fin_one rfl (rc_v ?_))
        all_goals (first | (rw [setd_0 (by omega)]; done) | (rw [setd_f (by omega) (by omega)]; done) | (rw [setd_b (by omega) (by omega)]; done) | (rw [setd_l (by omega) (by omega) (by omega)]; first | rfl | (exact congrArg Value.bool (by rw [Bool.eq_iff_iff, decide_eq_true_iff]; exact urg_pos))) | rfl)
      · try rw [h3]
        try simp only [rfb] at h3
        refine QL_run rfl rfl rfl (QX_q rfl rfl (q_field_ptr G rfl rfl rfl rfl) (QL_run rfl rfl rfl (QX_q rfl rfl (q_lst (q_load_box G rfl rfl rfl rfl rfl rfl rfl)) (QL_run rfl rfl rfl (QX_q rfl rfl (q_move rfl rfl) (QL_run rfl rfl rfl (?_)))))))
        first | refine QX_q rfl rfl (q_index_lst G rfl rfl rfl rfl (by omega) (getN (by omega))) ?_ | refine QX_q rfl rfl (q_index_lst G rfl rfl rfl rfl (by omega) (getNI (by omega) (by omega))) ?_ | refine QX_q rfl rfl (q_index_lst G rfl rfl rfl rfl (by omega) (getM (by omega) (by omega))) ?_
        refine QL_run rfl rfl rfl (QX_q rfl rfl (q_field_ept G rfl rfl rfl rfl) (QL_run rfl rfl rfl (QX_q rfl rfl (q_load_ept G rfl rfl rfl rfl rfl) (QL_run rfl rfl rfl (QX_q rfl rfl (q_field_ptr G rfl rfl rfl rfl) (QL_run rfl rfl rfl (QX_q rfl rfl (q_lst (q_load_box G rfl rfl rfl rfl rfl rfl rfl)) (QL_run rfl rfl rfl (QX_q rfl rfl (q_move rfl rfl) (QL_run rfl rfl rfl (?_)))))))))))
        first | refine QX_q rfl rfl (q_index_lst G rfl rfl rfl rfl (by omega) (getN (by omega))) ?_ | refine QX_q rfl rfl (q_index_lst G rfl rfl rfl rfl (by omega) (getNI (by omega) (by omega))) ?_ | refine QX_q rfl rfl (q_index_lst G rfl rfl rfl rfl (by omega) (getM (by omega) (by omega))) ?_
        refine QL_run rfl rfl rfl (QX_q rfl rfl (q_field_ept G rfl rfl rfl rfl) (QL_run rfl rfl rfl (QX_q rfl rfl (q_load_ept G rfl rfl rfl rfl rfl) (QL_run rfl rfl rfl (QX_q rfl rfl (q_field_ptr G rfl rfl rfl rfl) (QL_run rfl rfl rfl (QX_q rfl rfl (q_lst (q_load_box G rfl rfl rfl rfl rfl rfl rfl)) (QL_run rfl rfl rfl (?_)))))))))
        first | refine QX_q rfl rfl (q_index_lst G rfl rfl rfl rfl (by omega) (getN (by omega))) ?_ | refine QX_q rfl rfl (q_index_lst G rfl rfl rfl rfl (by omega) (getNI (by omega) (by omega))) ?_ | refine QX_q rfl rfl (q_index_lst G rfl rfl rfl rfl (by omega) (getM (by omega) (by omega))) ?_
        refine QL_run rfl rfl rfl (QX_q rfl rfl (q_field_ept G rfl rfl rfl rfl) (QL_run rfl rfl rfl (QX_q rfl rfl (q_load_ept G rfl rfl rfl rfl rfl) (QL_run rfl rfl rfl (QX_q rfl rfl (q_field_ptr G rfl rfl rfl rfl) (QL_run rfl rfl rfl (QX_q rfl rfl (q_lst (q_load_box G rfl rfl rfl rfl rfl rfl rfl)) (QL_run rfl rfl rfl (?_)))))))))
        first | refine QX_q rfl rfl (q_index_lst G rfl rfl rfl rfl (by omega) (getN (by omega))) ?_ | refine QX_q rfl rfl (q_index_lst G rfl rfl rfl rfl (by omega) (getNI (by omega) (by omega))) ?_ | refine QX_q rfl rfl (q_index_lst G rfl rfl rfl rfl (by omega) (getM (by omega) (by omega))) ?_
        refine QL_run rfl rfl rfl (QX_q rfl rfl (q_field_ept G rfl rfl rfl rfl) (QL_run rfl rfl rfl (QX_q rfl rfl (q_load_ept G rfl rfl rfl rfl rfl) (QL_run rfl rfl rfl (?_)))))
        refine QX_q rfl rfl (q_call rfl (ArgsOK.of rfl) (c_spec_l8Less _ _ _ _) rfl) ?_
        refine QL_cons rfl (QX_q rfl rfl (q_pick_f rfl rfl rfl) (QL_cons rfl (QX_q rfl rfl (q_assign rfl rfl) (?_))))
        refine QL_nil (hK9 _ ?_)
        clear hK9 K9
        refine W_ret (fin_one rfl (rc_v ?_))
        all_goals (first | (rw [setd_0 (by omega)]; done) | (rw [setd_f (by omega) (by omega)]; done) | (rw [setd_b (by omega) (by omega)]; done) | (rw [setd_l (by omega) (by omega) (by omega)]; first | rfl | (exact congrArg Value.bool (by rw [Bool.eq_iff_iff, decide_eq_true_iff]; exact urg_pos))) | rfl)

theorem c_impl_IsQueue (q : Que) (hl : q.sl.length ≤ 1048576) (hw : q.wa.length ≤ 1048576) : Ctr Tryz.prog 56 [.agg [.lst 3 (q.sl.map encSl), .lst 2 (q.wa.map encWa)]] (.one (.v (.bool (okQu q)))) := by
  refine Ctr.of (n := 12) G Tryz.func56 rfl (by kernel_rfl) rfl rfl rfl (fun w0 => ?_)
  refine W_pinS 0 rfl (fun _ => rfl) (fun u0 => ?_)
  refine W_seq (fun K1 hK1 => ?_)
  refine W_region (WL_cons rfl (WX_box 1 rfl rfl rfl rfl rfl rfl rfl (WL_cons rfl (WX_q rfl rfl (q_assign rfl rfl) (?_)))))
  refine WL_nil (hK1 _ ?_)
  clear hK1 K1
  refine W_seq (fun K2 hK2 => ?_)
  refine W_region (WL_cons rfl (WX_q rfl rfl (q_field_ptr G rfl rfl rfl rfl) (WL_cons rfl (WX_q rfl rfl (q_lst (q_load_box G rfl rfl rfl rfl rfl rfl rfl)) (WL_cons rfl (WX_q rfl rfl (q_field_ptr G rfl rfl rfl rfl) (WL_cons rfl (WX_q rfl rfl (q_lst (q_load_box G rfl rfl rfl rfl rfl rfl rfl)) (WL_cons rfl (?_))))))))))
  refine WX_q rfl rfl (q_call rfl (ArgsOK.of rfl) (c_impl_areParts q.sl q.wa hl hw) rfl) ?_
  refine WL_cons rfl (WX_q rfl rfl (q_move rfl rfl) (WL_part rfl rfl rfl (fun h1 => ?_) (fun h1 => ?_)))
  · try rw [h1]
    try simp only [rfb] at h1
    have hpf := paF.mp h1
    refine WL_run rfl rfl rfl (WX_q rfl rfl (q_load_box_struct G rfl rfl rfl rfl rfl rfl) (WL_run rfl rfl rfl (?_)))
    refine WX_q rfl rfl (q_call rfl (ArgsOK.of rfl) (c_impl_isSettled q hl hw hpf.sl.difS) rfl) ?_
    refine WL_cons rfl (WX_q rfl rfl (q_pick_t rfl rfl rfl) (WL_cons rfl (WX_q rfl rfl (q_assign rfl rfl) (?_))))
    refine WL_nil (hK2 _ ?_)
    clear hK2 K2
    refine W_ret (fin_one rfl (rc_v ?_))
    all_goals (first | rfl | (simp only [okQu, h1, Bool.true_and, Bool.false_and]; done) | (simp only [okQu, *, Bool.true_and, Bool.false_and]; done))
  · try rw [h1]
    try simp only [rfb] at h1
    refine WL_skip rfl rfl rfl rfl rfl rfl (WL_skip rfl rfl rfl rfl rfl rfl (WL_cons rfl (WX_q rfl rfl (q_pick_f rfl rfl rfl) (WL_cons rfl (WX_q rfl rfl (q_assign rfl rfl) (?_))))))
    refine WL_nil (hK2 _ ?_)
    clear hK2 K2
    refine W_ret (fin_one rfl (rc_v ?_))
    all_goals (first | rfl | (simp only [okQu, h1, Bool.true_and, Bool.false_and]; done) | (simp only [okQu, *, Bool.true_and, Bool.false_and]; done))

theorem c_spec_l9Good (q : Que) (hl : q.sl.length ≤ 1048576) (hw : q.wa.length ≤ 1048576) : Ctr Tryz.prog 77 [.agg [.lst 3 (q.sl.map encSl), .lst 2 (q.wa.map encWa)]] (.one (.v (.bool (okQu q)))) := by
  refine Ctr.of (n := 12) G Tryz.func77 rfl (by kernel_rfl) rfl rfl rfl (fun w0 => ?_)
  refine W_pinS 0 rfl (fun _ => rfl) (fun u0 => ?_)
  refine W_seq (fun K1 hK1 => ?_)
  refine W_region (WL_cons rfl (WX_box 1 rfl rfl rfl rfl rfl rfl rfl (WL_cons rfl (WX_q rfl rfl (q_assign rfl rfl) (?_)))))
  refine WL_nil (hK1 _ ?_)
  clear hK1 K1
  refine W_seq (fun K2 hK2 => ?_)
  refine W_region (WL_cons rfl (WX_q rfl rfl (q_field_ptr G rfl rfl rfl rfl) (WL_cons rfl (WX_q rfl rfl (q_lst (q_load_box G rfl rfl rfl rfl rfl rfl rfl)) (WL_cons rfl (WX_q rfl rfl (q_field_ptr G rfl rfl rfl rfl) (WL_cons rfl (WX_q rfl rfl (q_lst (q_load_box G rfl rfl rfl rfl rfl rfl rfl)) (WL_cons rfl (?_))))))))))
  refine WX_q rfl rfl (q_call rfl (ArgsOK.of rfl) (c_spec_l9Waiting q.sl q.wa hl hw) rfl) ?_
  refine WL_cons rfl (WX_q rfl rfl (q_move rfl rfl) (WL_part rfl rfl rfl (fun h1 => ?_) (fun h1 => ?_)))
  · try rw [h1]
    try simp only [rfb] at h1
    refine WL_run rfl rfl rfl (WX_q rfl rfl (q_load_box_struct G rfl rfl rfl rfl rfl rfl) (WL_run rfl rfl rfl (?_)))
    refine WX_q rfl rfl (q_call rfl (ArgsOK.of rfl) (c_spec_l9Settled q hl hw) rfl) ?_
    refine WL_cons rfl (WX_q rfl rfl (q_pick_t rfl rfl rfl) (WL_cons rfl (WX_q rfl rfl (q_assign rfl rfl) (?_))))
    refine WL_nil (hK2 _ ?_)
    clear hK2 K2
    refine W_ret (fin_one rfl (rc_v ?_))
    all_goals (first | rfl | (simp only [okQu, h1, Bool.true_and, Bool.false_and]; done) | (simp only [okQu, *, Bool.true_and, Bool.false_and]; done))
  · try rw [h1]
    try simp only [rfb] at h1
    refine WL_skip rfl rfl rfl rfl rfl rfl (WL_skip rfl rfl rfl rfl rfl rfl (WL_cons rfl (WX_q rfl rfl (q_pick_f rfl rfl rfl) (WL_cons rfl (WX_q rfl rfl (q_assign rfl rfl) (?_))))))
    refine WL_nil (hK2 _ ?_)
    clear hK2 K2
    refine W_ret (fin_one rfl (rc_v ?_))
    all_goals (first | rfl | (simp only [okQu, h1, Bool.true_and, Bool.false_and]; done) | (simp only [okQu, *, Bool.true_and, Bool.false_and]; done))

end Go.Proofs.YtieidkjfeboepaaGreatDoor

/- Walks through functions of the program, one contract each (written by gen.py). -/
set_option maxRecDepth 20000
set_option linter.unusedVariables false
set_option linter.unusedSimpArgs false
namespace Go.Proofs.YtieidkjfeboepaaGreatDoor
open Go Go.Rf

theorem c_impl_priorityIn (sl : List Slot) (irq : Int) (hl : sl.length ≤ 1048576) (h0 : 0 ≤ fndS sl irq) : Ctr Tryz.prog 61 [.lst 3 (sl.map encSl), .v (.int .i64 irq)] (.one (.v (.int .i64 (lvl sl irq)))) := by
  have hf := @fnd_bd sl irq
  refine Ctr.of (n := 12) G Tryz.func61 rfl (by kernel_rfl) rfl rfl rfl (fun w0 => ?_)
  refine W_seq (fun K1 hK1 => ?_)
  refine W_region (WL_cons rfl (WX_q rfl rfl (q_assign rfl rfl) (?_)))
  refine WL_nil (hK1 _ ?_)
  clear hK1 K1
  refine W_seq (fun K2 hK2 => ?_)
  refine W_region (WL_cons rfl (WX_q rfl rfl (q_move rfl rfl) (WL_cons rfl (WX_q rfl rfl (q_move rfl rfl) (WL_cons rfl (WX_q rfl rfl (q_move rfl rfl) (WL_cons rfl (?_))))))))
  refine WX_q rfl rfl (q_call rfl (ArgsOK.of rfl) (c_impl_findSlot sl irq hl) rfl) ?_
  refine WL_cons rfl (?_)
  first | refine WX_q rfl rfl (q_index_lst G rfl rfl rfl rfl (by omega) (getN (by omega))) ?_ | refine WX_q rfl rfl (q_index_lst G rfl rfl rfl rfl (by omega) (getNI (by omega) (by omega))) ?_ | refine WX_q rfl rfl (q_index_lst G rfl rfl rfl rfl (by omega) (getM (by omega) (by omega))) ?_
  refine WL_cons rfl (WX_q rfl rfl (q_field_ept G rfl rfl rfl rfl) (WL_cons rfl (WX_q rfl rfl (q_load_ept G rfl rfl rfl rfl rfl) (WL_cons rfl (WX_q rfl rfl (q_assign rfl rfl) (?_))))))
  refine WL_nil (hK2 _ ?_)
  clear hK2 K2
  refine W_ret (fin_one rfl (rc_v ?_))
  all_goals (rfl)

theorem c_spec_l10Level (q : Que) (irq : Int) (hl : q.sl.length ≤ 1048576) (h0 : 0 ≤ fndS q.sl irq) : Ctr Tryz.prog 80 [.agg [.lst 3 (q.sl.map encSl), .lst 2 (q.wa.map encWa)], .v (.int .i64 irq)] (.one (.v (.int .i64 (lvl q.sl irq)))) := by
  have hf := @fnd_bd q.sl irq
  refine Ctr.of (n := 14) G Tryz.func80 rfl (by kernel_rfl) rfl rfl rfl (fun w0 => ?_)
  refine W_pinS 0 rfl (fun _ => rfl) (fun u0 => ?_)
  refine W_seq (fun K1 hK1 => ?_)
  refine W_region (WL_cons rfl (WX_box 1 rfl rfl rfl rfl rfl rfl rfl (WL_cons rfl (WX_q rfl rfl (q_assign rfl rfl) (?_)))))
  refine WL_nil (hK1 _ ?_)
  clear hK1 K1
  refine W_seq (fun K2 hK2 => ?_)
  refine W_draws mixed (by kernel_rfl) (QL_cons rfl (QX_q rfl rfl (q_field_ptr G rfl rfl rfl rfl) (QL_cons rfl (QX_q rfl rfl (q_lst (q_load_box G rfl rfl rfl rfl rfl rfl rfl)) (QL_cons rfl (QX_q rfl rfl (q_field_ptr G rfl rfl rfl rfl) (QL_cons rfl (QX_q rfl rfl (q_lst (q_load_box G rfl rfl rfl rfl rfl rfl rfl)) (QL_cons rfl (QX_q rfl rfl (q_move rfl rfl) (QL_cons rfl (?_))))))))))))
  refine QX_q rfl rfl (q_call rfl (ArgsOK.of rfl) (c_spec_l8Find q.sl irq hl) rfl) ?_
  refine QL_cons rfl (?_)
  first | refine QX_q rfl rfl (q_index_lst G rfl rfl rfl rfl (by omega) (getN (by omega))) ?_ | refine QX_q rfl rfl (q_index_lst G rfl rfl rfl rfl (by omega) (getNI (by omega) (by omega))) ?_ | refine QX_q rfl rfl (q_index_lst G rfl rfl rfl rfl (by omega) (getM (by omega) (by omega))) ?_
  refine QL_cons rfl (QX_q rfl rfl (q_field_ept G rfl rfl rfl rfl) (QL_cons rfl (QX_q rfl rfl (q_load_ept G rfl rfl rfl rfl rfl) (QL_cons rfl (QX_q rfl rfl (q_assign rfl rfl) (?_))))))
  refine QL_nil (hK2 _ ?_)
  clear hK2 K2
  refine W_ret (fin_one rfl (rc_v ?_))
  all_goals (rfl)

end Go.Proofs.YtieidkjfeboepaaGreatDoor

/- Walks through functions of the program, one contract each (written by gen.py). -/
set_option maxRecDepth 20000
set_option linter.unusedVariables false
set_option linter.unusedSimpArgs false
namespace Go.Proofs.YtieidkjfeboepaaGreatDoor
open Go Go.Rf

theorem c_slices_Equal_int_int (l r : List Int) (hl : l.length ≤ 1048576) (hr : r.length ≤ 1048576) : Ctr Tryz.prog 59 [.lst 1 (l.map Rf.encI), .lst 1 (r.map Rf.encI)] (.one (.v (.bool (decide (l = r))))) := by
  refine Ctr.of (n := 26) G Tryz.func59 rfl (by kernel_rfl) rfl rfl rfl (fun w0 => ?_)
  refine W_seq (fun K1 hK1 => ?_)
  refine W_region (WL_cons rfl (WX_q rfl rfl (q_assign rfl rfl) (?_)))
  refine WL_nil (hK1 _ ?_)
  clear hK1 K1
  refine W_seq (fun K2 hK2 => ?_)
  refine W_seq (fun K3 hK3 => ?_)
  refine W_region (WL_cons rfl (WX_q rfl rfl (q_move rfl rfl) (WL_cons rfl (?_))))
  first | refine WX_q rfl rfl (q_len' G rfl rfl rfl rfl (List.length_map _)) ?_ | refine WX_q rfl rfl (q_len G rfl rfl rfl rfl) ?_
  refine WL_cons rfl (WX_q rfl rfl (q_move rfl rfl) (WL_cons rfl (?_)))
  first | refine WX_q rfl rfl (q_len' G rfl rfl rfl rfl (List.length_map _)) ?_ | refine WX_q rfl rfl (q_len G rfl rfl rfl rfl) ?_
  refine WL_cons rfl (WX_q rfl rfl (q_cmp rfl rfl rfl rfl) (?_))
  refine WL_nil (hK3 _ ?_)
  clear hK3 K3
  refine W_cond rfl (fun h1 => ?_) (fun h1 => ?_)
  · try rw [h1]
    try simp only [rfb] at h1
    refine W_seq (fun K4 hK4 => ?_)
    refine W_region (WL_cons rfl (WX_q rfl rfl (q_assign rfl rfl) (?_)))
    refine WL_nil (hK4 _ ?_)
    clear hK4 K4
    refine W_ret (fin_one rfl (rc_v ?_))
    all_goals clear hK2 K2
    all_goals (first | (have e : l ≠ r := fun e => (by (subst e; omega)); simp [e]; done) | (have e : l = r := eq_true_of (by omega) hinv.2 (by omega); simp [e]; done) | (have e : l ≠ r := eq_false_of (i := i) (fun e => (by simp_all)); simp [e]; done))
  · try rw [h1]
    try simp only [rfb] at h1
    refine W_skip (hK2 _ ?_)
    clear hK2 K2
    refine W_seq (fun K5 hK5 => ?_)
    refine W_seq (fun K6 hK6 => ?_)
    refine W_region (WL_cons rfl (WX_q rfl rfl (q_move rfl rfl) (WL_cons rfl (?_))))
    first | refine WX_q rfl rfl (q_len' G rfl rfl rfl rfl (List.length_map _)) ?_ | refine WX_q rfl rfl (q_len G rfl rfl rfl rfl) ?_
    refine WL_cons rfl (WX_q rfl rfl (q_move rfl rfl) (?_))
    refine WL_nil (hK6 _ ?_)
    clear hK6 K6
    refine W_block ?_
    refine W_loopK [0, 1, 12] [] (fun (i : Nat) => [(13, .v (.int .i64 (i : Int)))]) (fun (i : Nat) => []) (fun (i : Nat) => i ≤ l.length ∧ ∀ j, j < i → l.getD j default = r.getD j default) (fun (i : Nat) => l.length - i) 0 rfl rfl ?_ ?_ ?_ ?_
    · exact ⟨Nat.zero_le _, fun j hj => by omega⟩
    · exact ⟨⟨_, rfl, by (first | rfl | (simp; done) | (simp; omega))⟩, rfl, trivial⟩
    · exact trivial
    · intro i hinv
      simp only [List.cons_append, List.nil_append]
      refine W_seq (fun K7 hK7 => ?_)
      refine W_region (WL_cons rfl (WX_q rfl rfl (q_cmp rfl rfl rfl rfl) (?_)))
      refine WL_nil (hK7 _ ?_)
      clear hK7 K7
      refine W_seq (fun K8 hK8 => ?_)
      refine W_cond rfl (fun h2 => ?_) (fun h2 => ?_)
      · try rw [h2]
        try simp only [rfb] at h2
        refine W_skip (hK8 _ ?_)
        clear hK8 K8
        refine W_seq (fun K9 hK9 => ?_)
        refine W_block ?_
        refine W_seq (fun K10 hK10 => ?_)
        refine W_region (WL_cons rfl (WX_q rfl rfl (q_move rfl rfl) (WL_cons rfl (WX_q rfl rfl (q_assign rfl rfl) (?_)))))
        refine WL_nil (hK10 _ ?_)
        clear hK10 K10
        refine W_seq (fun K11 hK11 => ?_)
        refine W_draws mixed (by kernel_rfl) (QL_cons rfl (QX_q rfl rfl (q_move rfl rfl) (QL_cons rfl (QX_q rfl rfl (q_move rfl rfl) (QL_cons rfl (?_))))))
        refine QX_q rfl rfl (q_index_lst G rfl rfl rfl rfl (by omega) (getN (by omega))) ?_
        refine QL_cons rfl (QX_q rfl rfl (q_load_ept G rfl rfl rfl rfl rfl) (QL_cons rfl (QX_q rfl rfl (q_move rfl rfl) (QL_cons rfl (QX_q rfl rfl (q_move rfl rfl) (QL_cons rfl (?_)))))))
        refine QX_q rfl rfl (q_index_lst G rfl rfl rfl rfl (by omega) (getN (by omega))) ?_
        refine QL_cons rfl (QX_q rfl rfl (q_load_ept G rfl rfl rfl rfl rfl) (QL_cons rfl (QX_q rfl rfl (q_cmp rfl rfl rfl rfl) (?_))))
        refine QL_nil (hK11 _ ?_)
        clear hK11 K11
        refine W_cond rfl (fun h3 => ?_) (fun h3 => ?_)
        · try rw [h3]
          try simp only [rfb] at h3
          refine W_seq (fun K12 hK12 => ?_)
          refine W_region (WL_cons rfl (WX_q rfl rfl (q_assign rfl rfl) (?_)))
          refine WL_nil (hK12 _ ?_)
          clear hK12 K12
          refine W_ret (fin_one rfl (rc_v ?_))
          all_goals clear hK9 K9 hK5 K5
          all_goals (first | (have e : l ≠ r := fun e => (by (subst e; omega)); simp [e]; done) | (have e : l = r := eq_true_of (by omega) hinv.2 (by omega); simp [e]; done) | (have e : l ≠ r := eq_false_of (i := i) (fun e => (by simp_all)); simp [e]; done))
        · try rw [h3]
          try simp only [rfb] at h3
          refine W_skip (hK9 _ ?_)
          clear hK9 K9
          refine W_region (WL_cons rfl (?_))
          first | refine WX_q rfl rfl (q_arith rfl rfl rfl rfl (by omega) (by omega)) ?_ | refine WX_q rfl rfl (q_wrap rfl rfl rfl rfl) ?_
          refine WL_cons rfl (WX_q rfl rfl (q_move rfl rfl) (?_))
          refine WL_nil ⟨(i + 1), ?_, ?_, ⟨⟨_, rfl, by rfl⟩, rfl, trivial⟩, trivial, rfl, rfl, rfl⟩
          · exact ⟨by omega, upto_succ hinv.2 (by assumption)⟩
          · omega
      · try rw [h2]
        try simp only [rfb] at h2
        refine W_exit (hK5 _ ?_)
        clear hK8 K8 hK5 K5
        refine W_seq (fun K13 hK13 => ?_)
        refine W_region (WL_cons rfl (WX_q rfl rfl (q_assign rfl rfl) (?_)))
        refine WL_nil (hK13 _ ?_)
        clear hK13 K13
        refine W_ret (fin_one rfl (rc_v ?_))
        all_goals (first | (have e : l ≠ r := fun e => (by (subst e; omega)); simp [e]; done) | (have e : l = r := eq_true_of (by omega) hinv.2 (by omega); simp [e]; done) | (have e : l ≠ r := eq_false_of (i := i) (fun e => (by simp_all)); simp [e]; done))

theorem c_impl_isActive (x : Slot) : Ctr Tryz.prog 90 [.v (encSv x)] (.one (.v (.bool (actP x)))) := by
  refine Ctr.of (n := 11) G Tryz.func90 rfl (by kernel_rfl) rfl rfl rfl (fun w0 => ?_)
  refine W_seq (fun K1 hK1 => ?_)
  refine W_region (WL_cons rfl (WX_box 1 rfl rfl rfl rfl rfl rfl rfl (WL_cons rfl (WX_q rfl rfl (q_assign rfl rfl) (?_)))))
  refine WL_nil (hK1 _ ?_)
  clear hK1 K1
  refine W_seq (fun K2 hK2 => ?_)
  refine W_region (WL_cons rfl (WX_q rfl rfl (q_field_ptr G rfl rfl rfl rfl) (WL_cons rfl (WX_q rfl rfl (q_load_box G rfl rfl rfl rfl rfl rfl rfl) (WL_cons rfl (WX_q rfl rfl (q_cmp rfl rfl rfl rfl) (WL_cons rfl (WX_q rfl rfl (q_move rfl rfl) (WL_part rfl rfl rfl (fun h1 => ?_) (fun h1 => ?_))))))))))
  · try rw [h1]
    try simp only [rfb] at h1
    refine WL_skip rfl rfl rfl rfl rfl rfl (WL_skip rfl rfl rfl rfl rfl rfl (WL_skip rfl rfl rfl rfl rfl rfl (WL_cons rfl (WX_q rfl rfl (q_pick_t rfl rfl rfl) (WL_cons rfl (WX_q rfl rfl (q_assign rfl rfl) (?_)))))))
    refine WL_nil (hK2 _ ?_)
    clear hK2 K2
    refine W_ret (fin_one rfl (rc_v ?_))
    all_goals (first | rfl | (simp_all [actP]; done) | (simp_all [actP]; rfl))
  · try rw [h1]
    try simp only [rfb] at h1
    refine WL_run rfl rfl rfl (WX_q rfl rfl (q_field_ptr G rfl rfl rfl rfl) (WL_run rfl rfl rfl (WX_q rfl rfl (q_load_box G rfl rfl rfl rfl rfl rfl rfl) (WL_run rfl rfl rfl (WX_q rfl rfl (q_cmp rfl rfl rfl rfl) (WL_cons rfl (WX_q rfl rfl (q_pick_f rfl rfl rfl) (WL_cons rfl (WX_q rfl rfl (q_assign rfl rfl) (?_))))))))))
    refine WL_nil (hK2 _ ?_)
    clear hK2 K2
    refine W_ret (fin_one rfl (rc_v ?_))
    all_goals (first | rfl | (simp_all [actP]; done) | (simp_all [actP]; rfl))

theorem c_impl_activeIrqs (sl : List Slot) (hF : SlF sl) : Ctr Tryz.prog 60 [.lst 3 (sl.map encSl)] (.one (.fr 3 1 ((srtI (actN sl 4)).map Rf.encI))) := by
  have hl4 := hF.len
  refine Ctr.of (n := 24) G Tryz.func60 rfl (by kernel_rfl) rfl rfl rfl (fun w0 => ?_)
  refine W_seq (fun K1 hK1 => ?_)
  refine W_region (WL_cons rfl (WX_q rfl rfl (q_assign rfl rfl) (?_)))
  refine WL_nil (hK1 _ ?_)
  clear hK1 K1
  refine W_seq (fun K2 hK2 => ?_)
  refine W_region (WL_cons rfl (WX_lit G 1 rfl rfl rfl rfl rfl rfl rfl rfl (WL_cons rfl (WX_q rfl rfl (q_assign rfl rfl) (?_)))))
  refine WL_nil (hK2 _ ?_)
  clear hK2 K2
  refine W_seq (fun K3 hK3 => ?_)
  refine W_seq (fun K4 hK4 => ?_)
  refine W_region (WL_cons rfl (WX_q rfl rfl (q_move rfl rfl) (WL_cons rfl (?_))))
  first | refine WX_q rfl rfl (q_len' G rfl rfl rfl rfl (List.length_map _)) ?_ | refine WX_q rfl rfl (q_len G rfl rfl rfl rfl) ?_
  refine WL_cons rfl (WX_q rfl rfl (q_move rfl rfl) (?_))
  refine WL_nil (hK4 _ ?_)
  clear hK4 K4
  refine W_block ?_
  refine W_loopK [7, 8] [] (fun (i : Nat) => [(3, .own 0), (9, .v (.int .i64 (i : Int)))]) (fun (i : Nat) => [(0, some (.row 3 1 ((actN sl i).map Rf.encI)))]) (fun (i : Nat) => i ≤ 4) (fun (i : Nat) => 4 - i) 0 rfl rfl ?_ ?_ ?_ ?_
  · exact Nat.zero_le _
  · exact ⟨⟨_, rfl, by rfl⟩, rfl, ⟨⟨_, rfl, by rfl⟩, rfl, trivial⟩⟩
  · exact ⟨⟨_, rfl, by rfl⟩, rfl, rfl, trivial⟩
  · intro i hi
    have hpl := @actN_len sl i
    simp only [List.cons_append, List.nil_append]
    refine W_seq (fun K5 hK5 => ?_)
    refine W_region (WL_cons rfl (WX_q rfl rfl (q_cmp rfl rfl rfl rfl) (?_)))
    refine WL_nil (hK5 _ ?_)
    clear hK5 K5
    refine W_seq (fun K6 hK6 => ?_)
    refine W_cond rfl (fun h1 => ?_) (fun h1 => ?_)
    · try rw [h1]
      try simp only [rfb] at h1
      refine W_skip (hK6 _ ?_)
      clear hK6 K6
      refine W_seq (fun K7 hK7 => ?_)
      refine W_block ?_
      refine W_seq (fun K8 hK8 => ?_)
      refine W_region (WL_cons rfl (?_))
      first | refine WX_q rfl rfl (q_index_lst G rfl rfl rfl rfl (by omega) (getN (by omega))) ?_ | refine WX_q rfl rfl (q_index_lst G rfl rfl rfl rfl (by omega) (getNI (by omega) (by omega))) ?_ | refine WX_q rfl rfl (q_index_lst G rfl rfl rfl rfl (by omega) (getM (by omega) (by omega))) ?_
      refine WL_cons rfl (WX_q rfl rfl (q_load_ept_struct G rfl rfl rfl rfl) (WL_cons rfl (WX_alloc_s G 2 rfl rfl rfl rfl rfl (WL_cons rfl (WX_store G rfl rfl rfl rfl rfl rfl rfl rfl rfl rfl rfl (?_))))))
      refine WL_nil (hK8 _ ?_)
      clear hK8 K8
      refine W_seq (fun K9 hK9 => ?_)
      refine W_region (WL_cons rfl (WX_q rfl rfl (q_load_box_struct G rfl rfl rfl rfl rfl rfl) (WL_cons rfl (?_))))
      refine WX_q rfl rfl (q_call rfl (ArgsOK.of rfl) (c_impl_isActive _) rfl) ?_
      refine WL_nil (hK9 _ ?_)
      clear hK9 K9
      refine W_cond rfl (fun h2 => ?_) (fun h2 => ?_)
      · try rw [h2]
        try simp only [rfb] at h2
        refine W_region (WL_cons rfl (WX_q rfl rfl (q_move rfl rfl) (WL_cons rfl (WX_q rfl rfl (q_field_ptr G rfl rfl rfl rfl) (WL_cons rfl (WX_q rfl rfl (q_load_box G rfl rfl rfl rfl rfl rfl rfl) (WL_cons rfl (WX_lit G 3 rfl rfl rfl rfl rfl rfl rfl rfl (WL_cons rfl (?_))))))))))
        refine WX_append G np rfl rfl rfl rfl rfl rfl rfl rfl rfl (by first | (simp only [List.length_map, List.length_cons, List.length_nil]; omega) | (simp; omega)) rfl rfl ?_
        refine WL_cons rfl (WX_q rfl rfl (q_assign rfl rfl) (?_))
        refine WL_nil (hK7 _ ?_)
        clear hK7 K7
        refine W_region (WL_cons rfl (?_))
        first | refine WX_q rfl rfl (q_arith rfl rfl rfl rfl (by omega) (by omega)) ?_ | refine WX_q rfl rfl (q_wrap rfl rfl rfl rfl) ?_
        refine WL_cons rfl (WX_q rfl rfl (q_move rfl rfl) (?_))
        refine WL_nil ⟨(i + 1), ?_, ?_, ⟨⟨_, rfl, by rfl⟩, rfl, ⟨⟨_, rfl, by rfl⟩, rfl, trivial⟩⟩, ⟨⟨_, rfl, by (first | (rw [actN_t (by assumption), List.map_append]; rfl) | (rw [actN_f (by assumption)]; done))⟩, rfl, rfl, trivial⟩, rfl, rfl, rfl⟩
        · omega
        · omega
      · try rw [h2]
        try simp only [rfb] at h2
        refine W_skip (hK7 _ ?_)
        clear hK7 K7
        refine W_region (WL_cons rfl (?_))
        first | refine WX_q rfl rfl (q_arith rfl rfl rfl rfl (by omega) (by omega)) ?_ | refine WX_q rfl rfl (q_wrap rfl rfl rfl rfl) ?_
        refine WL_cons rfl (WX_q rfl rfl (q_move rfl rfl) (?_))
        refine WL_nil ⟨(i + 1), ?_, ?_, ⟨⟨_, rfl, by rfl⟩, rfl, ⟨⟨_, rfl, by rfl⟩, rfl, trivial⟩⟩, ⟨⟨_, rfl, by (first | (rw [actN_t (by assumption), List.map_append]; rfl) | (rw [actN_f (by assumption)]; done))⟩, rfl, rfl, trivial⟩, rfl, rfl, rfl⟩
        · omega
        · omega
    · try rw [h1]
      try simp only [rfb] at h1
      obtain rfl : i = 4 := (by omega)
      refine W_exit (hK3 _ ?_)
      clear hK6 K6 hK3 K3
      refine W_seq (fun K10 hK10 => ?_)
      refine W_region (WL_cons rfl (WX_q rfl rfl (q_move rfl rfl) (WL_cons rfl (?_))))
      refine WX_callm 1 [0] rfl rfl rfl (c_slices_Sort_int_int (actN sl 4) (by have := @actN_len sl 4; omega)) rfl (RowsIn.cons rfl RowsIn.nil) rfl rfl rfl ?_
      refine WL_nil (hK10 _ ?_)
      clear hK10 K10
      refine W_seq (fun K11 hK11 => ?_)
      refine W_region (WL_cons rfl (WX_q rfl rfl (q_move rfl rfl) (WL_cons rfl (WX_q rfl rfl (q_assign rfl rfl) (?_)))))
      refine WL_nil (hK11 _ ?_)
      clear hK11 K11
      refine W_ret (fin_one rfl (rc_own rfl ?_))
      all_goals (rfl)

theorem c_spec_l1Put (l : List Int) (n : Int) (hl : l.length ≤ 1048576) (hne : ∀ x ∈ l, x ≠ n) : Ctr Tryz.prog 108 [.lst 1 (l.map Rf.encI), .v (.int .i64 n)] (.one (.fr 3 1 ((putI l n).map Rf.encI))) := by
  refine Ctr.of (n := 45) G Tryz.func108 rfl (by kernel_rfl) rfl rfl rfl (fun w0 => ?_)
  refine W_seq (fun K1 hK1 => ?_)
  refine W_region (WL_cons rfl (WX_q rfl rfl (q_assign rfl rfl) (?_)))
  refine WL_nil (hK1 _ ?_)
  clear hK1 K1
  refine W_seq (fun K2 hK2 => ?_)
  refine W_region (WL_cons rfl (WX_q rfl rfl (q_assign rfl rfl) (?_)))
  refine WL_nil (hK2 _ ?_)
  clear hK2 K2
  refine W_seq (fun K3 hK3 => ?_)
  refine W_block ?_
  refine W_loopK [0, 1] [] (fun (k : Nat) => [(5, .v (.int .i64 (k : Int)))]) (fun (k : Nat) => []) (fun (k : Nat) => k ≤ l.length ∧ ∀ j, j < k → l.getD j default < n) (fun (k : Nat) => l.length - k) 0 rfl rfl ?_ ?_ ?_ ?_
  · exact ⟨Nat.zero_le _, fun j hj => by omega⟩
  · exact ⟨⟨_, rfl, by (first | rfl | (simp; done) | (simp; omega))⟩, rfl, trivial⟩
  · exact trivial
  · intro k hk
    simp only [List.cons_append, List.nil_append]
    refine W_seq (fun K4 hK4 => ?_)
    refine W_seq (fun K5 hK5 => ?_)
    refine W_region (WL_cons rfl (WX_q rfl rfl (q_move rfl rfl) (WL_cons rfl (WX_q rfl rfl (q_move rfl rfl) (WL_cons rfl (?_))))))
    first | refine WX_q rfl rfl (q_len' G rfl rfl rfl rfl (List.length_map _)) ?_ | refine WX_q rfl rfl (q_len G rfl rfl rfl rfl) ?_
    refine WL_cons rfl (WX_q rfl rfl (q_cmp rfl rfl rfl rfl) (WL_cons rfl (WX_q rfl rfl (q_move rfl rfl) (WL_part rfl rfl rfl (fun h1 => ?_) (fun h1 => ?_)))))
    · try rw [h1]
      try simp only [rfb] at h1
      refine WL_run rfl rfl rfl (WX_q rfl rfl (q_move rfl rfl) (WL_run rfl rfl rfl (WX_q rfl rfl (q_move rfl rfl) (WL_run rfl rfl rfl (?_)))))
      first | refine WX_q rfl rfl (q_index_lst G rfl rfl rfl rfl (by omega) (getN (by omega))) ?_ | refine WX_q rfl rfl (q_index_lst G rfl rfl rfl rfl (by omega) (getNI (by omega) (by omega))) ?_ | refine WX_q rfl rfl (q_index_lst G rfl rfl rfl rfl (by omega) (getM (by omega) (by omega))) ?_
      refine WL_run rfl rfl rfl (WX_q rfl rfl (q_load_ept G rfl rfl rfl rfl rfl) (WL_run rfl rfl rfl (WX_q rfl rfl (q_move rfl rfl) (WL_run rfl rfl rfl (WX_q rfl rfl (q_cmp rfl rfl rfl rfl) (WL_cons rfl (WX_q rfl rfl (q_pick_t rfl rfl rfl) (?_))))))))
      refine WL_nil (hK5 _ ?_)
      clear hK5 K5
      refine W_cond rfl (fun h2 => ?_) (fun h2 => ?_)
      · try rw [h2]
        try simp only [rfb] at h2
        refine W_skip (hK4 _ ?_)
        clear hK4 K4
        refine W_block ?_
        refine W_region (WL_cons rfl (WX_q rfl rfl (q_move rfl rfl) (WL_cons rfl (?_))))
        first | refine WX_q rfl rfl (q_arith rfl rfl rfl rfl (by omega) (by omega)) ?_ | refine WX_q rfl rfl (q_wrap rfl rfl rfl rfl) ?_
        refine WL_cons rfl (WX_q rfl rfl (q_assign rfl rfl) (?_))
        refine WL_nil ⟨(k + 1), ?_, ?_, ⟨⟨_, rfl, by rfl⟩, rfl, trivial⟩, trivial, rfl, rfl, rfl⟩
        · exact ⟨by omega, upto_succ hk.2 (by assumption)⟩
        · omega
      · try rw [h2]
        try simp only [rfb] at h2
        refine W_exit (hK3 _ ?_)
        clear hK4 K4 hK3 K3
        refine W_seq (fun K6 hK6 => ?_)
        refine W_seq (fun K7 hK7 => ?_)
        refine W_region (WL_cons rfl (WX_q rfl rfl (q_move rfl rfl) (WL_cons rfl (WX_q rfl rfl (q_move rfl rfl) (WL_cons rfl (?_))))))
        first | refine WX_q rfl rfl (q_len' G rfl rfl rfl rfl (List.length_map _)) ?_ | refine WX_q rfl rfl (q_len G rfl rfl rfl rfl) ?_
        refine WL_cons rfl (WX_q rfl rfl (q_cmp rfl rfl rfl rfl) (WL_cons rfl (WX_q rfl rfl (q_move rfl rfl) (WL_part rfl rfl rfl (fun h3 => ?_) (fun h3 => ?_)))))
        · try rw [h3]
          try simp only [rfb] at h3
          refine WL_run rfl rfl rfl (WX_q rfl rfl (q_move rfl rfl) (WL_run rfl rfl rfl (WX_q rfl rfl (q_move rfl rfl) (WL_run rfl rfl rfl (?_)))))
          first | refine WX_q rfl rfl (q_index_lst G rfl rfl rfl rfl (by omega) (getN (by omega))) ?_ | refine WX_q rfl rfl (q_index_lst G rfl rfl rfl rfl (by omega) (getNI (by omega) (by omega))) ?_ | refine WX_q rfl rfl (q_index_lst G rfl rfl rfl rfl (by omega) (getM (by omega) (by omega))) ?_
          refine WL_run rfl rfl rfl (WX_q rfl rfl (q_load_ept G rfl rfl rfl rfl rfl) (WL_run rfl rfl rfl (WX_q rfl rfl (q_move rfl rfl) (WL_run rfl rfl rfl (WX_q rfl rfl (q_cmp rfl rfl rfl rfl) (WL_cons rfl (WX_q rfl rfl (q_pick_t rfl rfl rfl) (?_))))))))
          refine WL_nil (hK7 _ ?_)
          clear hK7 K7
          refine W_cond rfl (fun h4 => ?_) (fun h4 => ?_)
          · try rw [h4]
            try simp only [rfb] at h4
            first | (exfalso; omega) | exact absurd (by assumption) (hne _ (mem_getD.mpr ⟨k, by omega, rfl⟩))
          · try rw [h4]
            try simp only [rfb] at h4
            refine W_skip (hK6 _ ?_)
            clear hK6 K6
            refine W_seq (fun K8 hK8 => ?_)
            apply W_drawsJ [4] [0] 2 13 [] mixed (by kernel_rfl) rfl rfl hK8
            · intro r0
              refine WA_take 1 rfl (by kernel_rfl) (by kernel_rfl) rfl rfl rfl rfl (q_move rfl rfl) (WA_take 2 rfl (by kernel_rfl) (by kernel_rfl) rfl rfl rfl rfl (q_move rfl rfl) (?_))
              first | refine WA_take 3 rfl (by kernel_rfl) (by kernel_rfl) rfl rfl rfl rfl (q_cut_lst G rfl rfl rfl rfl rfl (by omega) (by omega) (by omega)) ?_ | refine WA_take 3 rfl (by kernel_rfl) (by kernel_rfl) rfl rfl rfl rfl (q_cut_lst G rfl rfl rfl rfl rfl (by omega) (by first | (simp; done) | (simp; omega)) (by first | (simp; done) | (simp; omega))) ?_
              refine WA_take 5 rfl (by kernel_rfl) (by kernel_rfl) rfl rfl rfl rfl (q_move rfl rfl) (WA_take 8 rfl (by kernel_rfl) (by kernel_rfl) rfl rfl rfl rfl (q_move rfl rfl) (WA_take 9 rfl (by kernel_rfl) (by kernel_rfl) rfl rfl rfl rfl (q_move rfl rfl) (?_)))
              first | refine WA_take 10 rfl (by kernel_rfl) (by kernel_rfl) rfl rfl rfl rfl (q_cut_lst G rfl rfl rfl rfl rfl (by omega) (by omega) (by omega)) ?_ | refine WA_take 10 rfl (by kernel_rfl) (by kernel_rfl) rfl rfl rfl rfl (q_cut_lst G rfl rfl rfl rfl rfl (by omega) (by first | (simp; done) | (simp; omega)) (by first | (simp; done) | (simp; omega))) ?_
              refine WA_more (N := 1) rfl (WAV_startH (fuel := 5) [⟨0, 33, 0, false, .row 3 1 []⟩] (AllVOK.cons (VOK.lit G rfl rfl rfl rfl rfl) (AllVOK.nil)) (fun hok => ?_))
              refine WAV_go [(4, [0]), (6, [])] (by kernel_rfl) (by kernel_rfl) (fun e he => hok e he) (by kernel_rfl) (AllVS.cons ?_ (AllVS.cons ?_ AllVS.nil))
              · refine VStep.mk1 [] 33 (.own 0) 0 (.row 3 1 []) [] rfl rfl rfl rfl rfl (fun b1 _ hbn => WX_append G (by rw [hbn]; exact Nat.le_of_ble_eq_true rfl) rfl rfl rfl rfl rfl rfl rfl rfl rfl (by first | (simp; omega) | (simp only [cut_take, cut_rest, List.length_append, List.length_map, List.length_take, List.length_drop, List.length_cons, List.length_nil]; omega)) rfl rfl (WL_nil rfl)) (by kernel_rfl) (by kernel_rfl) (by kernel_rfl) (by kernel_rfl) ?_
                refine WAV_nil ?_
                clear hok
                refine WA_branch (rs := [6]) (by kernel_rfl) rfl (AllB.cons ?_ AllB.nil)
                refine WB_run [] rfl rfl (WX_lit G 2 rfl rfl rfl rfl rfl rfl rfl rfl (WL_nil ⟨rfl, ?_⟩))
                refine WA_branch (rs := [7]) (by kernel_rfl) rfl (AllB.cons ?_ AllB.nil)
                refine WB_run [] rfl rfl (WX_append G (by exact Nat.le_of_ble_eq_true rfl) rfl rfl rfl rfl rfl rfl rfl rfl rfl (by first | (simp; omega) | (simp only [cut_take, cut_rest, List.length_append, List.length_map, List.length_take, List.length_drop, List.length_cons, List.length_nil]; omega)) rfl rfl (WL_nil ⟨rfl, ?_⟩))
                refine WA_branch (rs := [11]) (by kernel_rfl) rfl (AllB.cons ?_ AllB.nil)
                refine WB_run [] rfl rfl (WX_append G (by exact Nat.le_of_ble_eq_true rfl) rfl rfl rfl rfl rfl rfl rfl rfl rfl (by first | (simp; omega) | (simp only [cut_take, cut_rest, List.length_append, List.length_map, List.length_take, List.length_drop, List.length_cons, List.length_nil]; omega)) rfl rfl (WL_nil ⟨rfl, ?_⟩))
                refine WA_take 12 rfl (by kernel_rfl) (by kernel_rfl) rfl rfl rfl rfl (q_assign rfl rfl) (?_)
                exact WA_end (by kernel_rfl) (Meet.mk rfl rfl rfl rfl)
              · refine VStep.mk0 [] rfl rfl (fun b1 _ hbn => WX_lit G 2 rfl rfl rfl rfl rfl rfl rfl rfl (WL_nil rfl)) (by kernel_rfl) (by kernel_rfl) (by kernel_rfl) (by kernel_rfl) ?_
                refine WAV_go [(4, [0])] (by kernel_rfl) (by kernel_rfl) (fun e he => hok e he) (by kernel_rfl) (AllVS.cons ?_ AllVS.nil)
                refine VStep.mk1 [] 33 (.own 0) 0 (.row 3 1 []) [] rfl rfl rfl rfl rfl (fun b1 _ hbn => WX_append G (by rw [hbn]; exact Nat.le_of_ble_eq_true rfl) rfl rfl rfl rfl rfl rfl rfl rfl rfl (by first | (simp; omega) | (simp only [cut_take, cut_rest, List.length_append, List.length_map, List.length_take, List.length_drop, List.length_cons, List.length_nil]; omega)) rfl rfl (WL_nil rfl)) (by kernel_rfl) (by kernel_rfl) (by kernel_rfl) (by kernel_rfl) ?_
                refine WAV_nil ?_
                clear hok
                refine WA_branch (rs := [7]) (by kernel_rfl) rfl (AllB.cons ?_ AllB.nil)
                refine WB_run [] rfl rfl (WX_append G (by exact Nat.le_of_ble_eq_true rfl) rfl rfl rfl rfl rfl rfl rfl rfl rfl (by first | (simp; omega) | (simp only [cut_take, cut_rest, List.length_append, List.length_map, List.length_take, List.length_drop, List.length_cons, List.length_nil]; omega)) rfl rfl (WL_nil ⟨rfl, ?_⟩))
                refine WA_branch (rs := [11]) (by kernel_rfl) rfl (AllB.cons ?_ AllB.nil)
                refine WB_run [] rfl rfl (WX_append G (by exact Nat.le_of_ble_eq_true rfl) rfl rfl rfl rfl rfl rfl rfl rfl rfl (by first | (simp; omega) | (simp only [cut_take, cut_rest, List.length_append, List.length_map, List.length_take, List.length_drop, List.length_cons, List.length_nil]; omega)) rfl rfl (WL_nil ⟨rfl, ?_⟩))
                refine WA_take 12 rfl (by kernel_rfl) (by kernel_rfl) rfl rfl rfl rfl (q_assign rfl rfl) (?_)
                exact WA_end (by kernel_rfl) (Meet.mk rfl rfl rfl rfl)
            · clear hK8 K8
              refine W_ret (fin_one rfl (rc_own rfl ?_))
              all_goals ((rw [putI_at hk.2 hk.1 (by first | exact .inl (by omega) | exact .inr ⟨by omega, by omega⟩), cut_take, cut_rest]; simp [Rf.encI]; done))
        · try rw [h3]
          try simp only [rfb] at h3
          refine WL_skip rfl rfl rfl rfl rfl rfl (WL_skip rfl rfl rfl rfl rfl rfl (WL_skip rfl rfl rfl rfl rfl rfl (WL_skip rfl rfl rfl rfl rfl rfl (WL_skip rfl rfl rfl rfl rfl rfl (WL_skip rfl rfl rfl rfl rfl rfl (WL_cons rfl (WX_q rfl rfl (q_pick_f rfl rfl rfl) (?_))))))))
          refine WL_nil (hK7 _ ?_)
          clear hK7 K7
          refine W_false rfl ?_
          refine W_skip (hK6 _ ?_)
          clear hK6 K6
          refine W_seq (fun K9 hK9 => ?_)
          apply W_drawsJ [4] [0] 2 13 [] mixed (by kernel_rfl) rfl rfl hK9
          · intro r0
            refine WA_take 1 rfl (by kernel_rfl) (by kernel_rfl) rfl rfl rfl rfl (q_move rfl rfl) (WA_take 2 rfl (by kernel_rfl) (by kernel_rfl) rfl rfl rfl rfl (q_move rfl rfl) (?_))
            first | refine WA_take 3 rfl (by kernel_rfl) (by kernel_rfl) rfl rfl rfl rfl (q_cut_lst G rfl rfl rfl rfl rfl (by omega) (by omega) (by omega)) ?_ | refine WA_take 3 rfl (by kernel_rfl) (by kernel_rfl) rfl rfl rfl rfl (q_cut_lst G rfl rfl rfl rfl rfl (by omega) (by first | (simp; done) | (simp; omega)) (by first | (simp; done) | (simp; omega))) ?_
            refine WA_take 5 rfl (by kernel_rfl) (by kernel_rfl) rfl rfl rfl rfl (q_move rfl rfl) (WA_take 8 rfl (by kernel_rfl) (by kernel_rfl) rfl rfl rfl rfl (q_move rfl rfl) (WA_take 9 rfl (by kernel_rfl) (by kernel_rfl) rfl rfl rfl rfl (q_move rfl rfl) (?_)))
            first | refine WA_take 10 rfl (by kernel_rfl) (by kernel_rfl) rfl rfl rfl rfl (q_cut_lst G rfl rfl rfl rfl rfl (by omega) (by omega) (by omega)) ?_ | refine WA_take 10 rfl (by kernel_rfl) (by kernel_rfl) rfl rfl rfl rfl (q_cut_lst G rfl rfl rfl rfl rfl (by omega) (by first | (simp; done) | (simp; omega)) (by first | (simp; done) | (simp; omega))) ?_
            refine WA_more (N := 1) rfl (WAV_startH (fuel := 5) [⟨0, 33, 0, false, .row 3 1 []⟩] (AllVOK.cons (VOK.lit G rfl rfl rfl rfl rfl) (AllVOK.nil)) (fun hok => ?_))
            refine WAV_go [(4, [0]), (6, [])] (by kernel_rfl) (by kernel_rfl) (fun e he => hok e he) (by kernel_rfl) (AllVS.cons ?_ (AllVS.cons ?_ AllVS.nil))
            · refine VStep.mk1 [] 33 (.own 0) 0 (.row 3 1 []) [] rfl rfl rfl rfl rfl (fun b1 _ hbn => WX_append G (by rw [hbn]; exact Nat.le_of_ble_eq_true rfl) rfl rfl rfl rfl rfl rfl rfl rfl rfl (by first | (simp; omega) | (simp only [cut_take, cut_rest, List.length_append, List.length_map, List.length_take, List.length_drop, List.length_cons, List.length_nil]; omega)) rfl rfl (WL_nil rfl)) (by kernel_rfl) (by kernel_rfl) (by kernel_rfl) (by kernel_rfl) ?_
              refine WAV_nil ?_
              clear hok
              refine WA_branch (rs := [6]) (by kernel_rfl) rfl (AllB.cons ?_ AllB.nil)
              refine WB_run [] rfl rfl (WX_lit G 2 rfl rfl rfl rfl rfl rfl rfl rfl (WL_nil ⟨rfl, ?_⟩))
              refine WA_branch (rs := [7]) (by kernel_rfl) rfl (AllB.cons ?_ AllB.nil)
              refine WB_run [] rfl rfl (WX_append G (by exact Nat.le_of_ble_eq_true rfl) rfl rfl rfl rfl rfl rfl rfl rfl rfl (by first | (simp; omega) | (simp only [cut_take, cut_rest, List.length_append, List.length_map, List.length_take, List.length_drop, List.length_cons, List.length_nil]; omega)) rfl rfl (WL_nil ⟨rfl, ?_⟩))
              refine WA_branch (rs := [11]) (by kernel_rfl) rfl (AllB.cons ?_ AllB.nil)
              refine WB_run [] rfl rfl (WX_append G (by exact Nat.le_of_ble_eq_true rfl) rfl rfl rfl rfl rfl rfl rfl rfl rfl (by first | (simp; omega) | (simp only [cut_take, cut_rest, List.length_append, List.length_map, List.length_take, List.length_drop, List.length_cons, List.length_nil]; omega)) rfl rfl (WL_nil ⟨rfl, ?_⟩))
              refine WA_take 12 rfl (by kernel_rfl) (by kernel_rfl) rfl rfl rfl rfl (q_assign rfl rfl) (?_)
              exact WA_end (by kernel_rfl) (Meet.mk rfl rfl rfl rfl)
            · refine VStep.mk0 [] rfl rfl (fun b1 _ hbn => WX_lit G 2 rfl rfl rfl rfl rfl rfl rfl rfl (WL_nil rfl)) (by kernel_rfl) (by kernel_rfl) (by kernel_rfl) (by kernel_rfl) ?_
              refine WAV_go [(4, [0])] (by kernel_rfl) (by kernel_rfl) (fun e he => hok e he) (by kernel_rfl) (AllVS.cons ?_ AllVS.nil)
              refine VStep.mk1 [] 33 (.own 0) 0 (.row 3 1 []) [] rfl rfl rfl rfl rfl (fun b1 _ hbn => WX_append G (by rw [hbn]; exact Nat.le_of_ble_eq_true rfl) rfl rfl rfl rfl rfl rfl rfl rfl rfl (by first | (simp; omega) | (simp only [cut_take, cut_rest, List.length_append, List.length_map, List.length_take, List.length_drop, List.length_cons, List.length_nil]; omega)) rfl rfl (WL_nil rfl)) (by kernel_rfl) (by kernel_rfl) (by kernel_rfl) (by kernel_rfl) ?_
              refine WAV_nil ?_
              clear hok
              refine WA_branch (rs := [7]) (by kernel_rfl) rfl (AllB.cons ?_ AllB.nil)
              refine WB_run [] rfl rfl (WX_append G (by exact Nat.le_of_ble_eq_true rfl) rfl rfl rfl rfl rfl rfl rfl rfl rfl (by first | (simp; omega) | (simp only [cut_take, cut_rest, List.length_append, List.length_map, List.length_take, List.length_drop, List.length_cons, List.length_nil]; omega)) rfl rfl (WL_nil ⟨rfl, ?_⟩))
              refine WA_branch (rs := [11]) (by kernel_rfl) rfl (AllB.cons ?_ AllB.nil)
              refine WB_run [] rfl rfl (WX_append G (by exact Nat.le_of_ble_eq_true rfl) rfl rfl rfl rfl rfl rfl rfl rfl rfl (by first | (simp; omega) | (simp only [cut_take, cut_rest, List.length_append, List.length_map, List.length_take, List.length_drop, List.length_cons, List.length_nil]; omega)) rfl rfl (WL_nil ⟨rfl, ?_⟩))
              refine WA_take 12 rfl (by kernel_rfl) (by kernel_rfl) rfl rfl rfl rfl (q_assign rfl rfl) (?_)
              exact WA_end (by kernel_rfl) (Meet.mk rfl rfl rfl rfl)
          · clear hK9 K9
            refine W_ret (fin_one rfl (rc_own rfl ?_))
            all_goals ((rw [putI_at hk.2 hk.1 (by first | exact .inl (by omega) | exact .inr ⟨by omega, by omega⟩), cut_take, cut_rest]; simp [Rf.encI]; done))
    · try rw [h1]
      try simp only [rfb] at h1
      refine WL_skip rfl rfl rfl rfl rfl rfl (WL_skip rfl rfl rfl rfl rfl rfl (WL_skip rfl rfl rfl rfl rfl rfl (WL_skip rfl rfl rfl rfl rfl rfl (WL_skip rfl rfl rfl rfl rfl rfl (WL_skip rfl rfl rfl rfl rfl rfl (WL_cons rfl (WX_q rfl rfl (q_pick_f rfl rfl rfl) (?_))))))))
      refine WL_nil (hK5 _ ?_)
      clear hK5 K5
      refine W_false rfl ?_
      refine W_exit (hK3 _ ?_)
      clear hK4 K4 hK3 K3
      refine W_seq (fun K10 hK10 => ?_)
      refine W_seq (fun K11 hK11 => ?_)
      refine W_region (WL_cons rfl (WX_q rfl rfl (q_move rfl rfl) (WL_cons rfl (WX_q rfl rfl (q_move rfl rfl) (WL_cons rfl (?_))))))
      first | refine WX_q rfl rfl (q_len' G rfl rfl rfl rfl (List.length_map _)) ?_ | refine WX_q rfl rfl (q_len G rfl rfl rfl rfl) ?_
      refine WL_cons rfl (WX_q rfl rfl (q_cmp rfl rfl rfl rfl) (WL_cons rfl (WX_q rfl rfl (q_move rfl rfl) (WL_part rfl rfl rfl (fun h5 => ?_) (fun h5 => ?_)))))
      · try rw [h5]
        try simp only [rfb] at h5
        refine WL_run rfl rfl rfl (WX_q rfl rfl (q_move rfl rfl) (WL_run rfl rfl rfl (WX_q rfl rfl (q_move rfl rfl) (WL_run rfl rfl rfl (?_)))))
        first | refine WX_q rfl rfl (q_index_lst G rfl rfl rfl rfl (by omega) (getN (by omega))) ?_ | refine WX_q rfl rfl (q_index_lst G rfl rfl rfl rfl (by omega) (getNI (by omega) (by omega))) ?_ | refine WX_q rfl rfl (q_index_lst G rfl rfl rfl rfl (by omega) (getM (by omega) (by omega))) ?_
        refine WL_run rfl rfl rfl (WX_q rfl rfl (q_load_ept G rfl rfl rfl rfl rfl) (WL_run rfl rfl rfl (WX_q rfl rfl (q_move rfl rfl) (WL_run rfl rfl rfl (WX_q rfl rfl (q_cmp rfl rfl rfl rfl) (WL_cons rfl (WX_q rfl rfl (q_pick_t rfl rfl rfl) (?_))))))))
        refine WL_nil (hK11 _ ?_)
        clear hK11 K11
        refine W_cond rfl (fun h6 => ?_) (fun h6 => ?_)
        · try rw [h6]
          try simp only [rfb] at h6
          first | (exfalso; omega) | exact absurd (by assumption) (hne _ (mem_getD.mpr ⟨k, by omega, rfl⟩))
        · try rw [h6]
          try simp only [rfb] at h6
          refine W_skip (hK10 _ ?_)
          clear hK10 K10
          refine W_seq (fun K12 hK12 => ?_)
          apply W_drawsJ [4] [0] 2 13 [] mixed (by kernel_rfl) rfl rfl hK12
          · intro r0
            refine WA_take 1 rfl (by kernel_rfl) (by kernel_rfl) rfl rfl rfl rfl (q_move rfl rfl) (WA_take 2 rfl (by kernel_rfl) (by kernel_rfl) rfl rfl rfl rfl (q_move rfl rfl) (?_))
            first | refine WA_take 3 rfl (by kernel_rfl) (by kernel_rfl) rfl rfl rfl rfl (q_cut_lst G rfl rfl rfl rfl rfl (by omega) (by omega) (by omega)) ?_ | refine WA_take 3 rfl (by kernel_rfl) (by kernel_rfl) rfl rfl rfl rfl (q_cut_lst G rfl rfl rfl rfl rfl (by omega) (by first | (simp; done) | (simp; omega)) (by first | (simp; done) | (simp; omega))) ?_
            refine WA_take 5 rfl (by kernel_rfl) (by kernel_rfl) rfl rfl rfl rfl (q_move rfl rfl) (WA_take 8 rfl (by kernel_rfl) (by kernel_rfl) rfl rfl rfl rfl (q_move rfl rfl) (WA_take 9 rfl (by kernel_rfl) (by kernel_rfl) rfl rfl rfl rfl (q_move rfl rfl) (?_)))
            first | refine WA_take 10 rfl (by kernel_rfl) (by kernel_rfl) rfl rfl rfl rfl (q_cut_lst G rfl rfl rfl rfl rfl (by omega) (by omega) (by omega)) ?_ | refine WA_take 10 rfl (by kernel_rfl) (by kernel_rfl) rfl rfl rfl rfl (q_cut_lst G rfl rfl rfl rfl rfl (by omega) (by first | (simp; done) | (simp; omega)) (by first | (simp; done) | (simp; omega))) ?_
            refine WA_more (N := 1) rfl (WAV_startH (fuel := 5) [⟨0, 33, 0, false, .row 3 1 []⟩] (AllVOK.cons (VOK.lit G rfl rfl rfl rfl rfl) (AllVOK.nil)) (fun hok => ?_))
            refine WAV_go [(4, [0]), (6, [])] (by kernel_rfl) (by kernel_rfl) (fun e he => hok e he) (by kernel_rfl) (AllVS.cons ?_ (AllVS.cons ?_ AllVS.nil))
            · refine VStep.mk1 [] 33 (.own 0) 0 (.row 3 1 []) [] rfl rfl rfl rfl rfl (fun b1 _ hbn => WX_append G (by rw [hbn]; exact Nat.le_of_ble_eq_true rfl) rfl rfl rfl rfl rfl rfl rfl rfl rfl (by first | (simp; omega) | (simp only [cut_take, cut_rest, List.length_append, List.length_map, List.length_take, List.length_drop, List.length_cons, List.length_nil]; omega)) rfl rfl (WL_nil rfl)) (by kernel_rfl) (by kernel_rfl) (by kernel_rfl) (by kernel_rfl) ?_
              refine WAV_nil ?_
              clear hok
              refine WA_branch (rs := [6]) (by kernel_rfl) rfl (AllB.cons ?_ AllB.nil)
              refine WB_run [] rfl rfl (WX_lit G 2 rfl rfl rfl rfl rfl rfl rfl rfl (WL_nil ⟨rfl, ?_⟩))
              refine WA_branch (rs := [7]) (by kernel_rfl) rfl (AllB.cons ?_ AllB.nil)
              refine WB_run [] rfl rfl (WX_append G (by exact Nat.le_of_ble_eq_true rfl) rfl rfl rfl rfl rfl rfl rfl rfl rfl (by first | (simp; omega) | (simp only [cut_take, cut_rest, List.length_append, List.length_map, List.length_take, List.length_drop, List.length_cons, List.length_nil]; omega)) rfl rfl (WL_nil ⟨rfl, ?_⟩))
              refine WA_branch (rs := [11]) (by kernel_rfl) rfl (AllB.cons ?_ AllB.nil)
              refine WB_run [] rfl rfl (WX_append G (by exact Nat.le_of_ble_eq_true rfl) rfl rfl rfl rfl rfl rfl rfl rfl rfl (by first | (simp; omega) | (simp only [cut_take, cut_rest, List.length_append, List.length_map, List.length_take, List.length_drop, List.length_cons, List.length_nil]; omega)) rfl rfl (WL_nil ⟨rfl, ?_⟩))
              refine WA_take 12 rfl (by kernel_rfl) (by kernel_rfl) rfl rfl rfl rfl (q_assign rfl rfl) (?_)
              exact WA_end (by kernel_rfl) (Meet.mk rfl rfl rfl rfl)
            · refine VStep.mk0 [] rfl rfl (fun b1 _ hbn => WX_lit G 2 rfl rfl rfl rfl rfl rfl rfl rfl (WL_nil rfl)) (by kernel_rfl) (by kernel_rfl) (by kernel_rfl) (by kernel_rfl) ?_
              refine WAV_go [(4, [0])] (by kernel_rfl) (by kernel_rfl) (fun e he => hok e he) (by kernel_rfl) (AllVS.cons ?_ AllVS.nil)
              refine VStep.mk1 [] 33 (.own 0) 0 (.row 3 1 []) [] rfl rfl rfl rfl rfl (fun b1 _ hbn => WX_append G (by rw [hbn]; exact Nat.le_of_ble_eq_true rfl) rfl rfl rfl rfl rfl rfl rfl rfl rfl (by first | (simp; omega) | (simp only [cut_take, cut_rest, List.length_append, List.length_map, List.length_take, List.length_drop, List.length_cons, List.length_nil]; omega)) rfl rfl (WL_nil rfl)) (by kernel_rfl) (by kernel_rfl) (by kernel_rfl) (by kernel_rfl) ?_
              refine WAV_nil ?_
              clear hok
              refine WA_branch (rs := [7]) (by kernel_rfl) rfl (AllB.cons ?_ AllB.nil)
              refine WB_run [] rfl rfl (WX_append G (by exact Nat.le_of_ble_eq_true rfl) rfl rfl rfl rfl rfl rfl rfl rfl rfl (by first | (simp; omega) | (simp only [cut_take, cut_rest, List.length_append, List.length_map, List.length_take, List.length_drop, List.length_cons, List.length_nil]; omega)) rfl rfl (WL_nil ⟨rfl, ?_⟩))
              refine WA_branch (rs := [11]) (by kernel_rfl) rfl (AllB.cons ?_ AllB.nil)
              refine WB_run [] rfl rfl (WX_append G (by exact Nat.le_of_ble_eq_true rfl) rfl rfl rfl rfl rfl rfl rfl rfl rfl (by first | (simp; omega) | (simp only [cut_take, cut_rest, List.length_append, List.length_map, List.length_take, List.length_drop, List.length_cons, List.length_nil]; omega)) rfl rfl (WL_nil ⟨rfl, ?_⟩))
              refine WA_take 12 rfl (by kernel_rfl) (by kernel_rfl) rfl rfl rfl rfl (q_assign rfl rfl) (?_)
              exact WA_end (by kernel_rfl) (Meet.mk rfl rfl rfl rfl)
          · clear hK12 K12
            refine W_ret (fin_one rfl (rc_own rfl ?_))
            all_goals ((rw [putI_at hk.2 hk.1 (by first | exact .inl (by omega) | exact .inr ⟨by omega, by omega⟩), cut_take, cut_rest]; simp [Rf.encI]; done))
      · try rw [h5]
        try simp only [rfb] at h5
        refine WL_skip rfl rfl rfl rfl rfl rfl (WL_skip rfl rfl rfl rfl rfl rfl (WL_skip rfl rfl rfl rfl rfl rfl (WL_skip rfl rfl rfl rfl rfl rfl (WL_skip rfl rfl rfl rfl rfl rfl (WL_skip rfl rfl rfl rfl rfl rfl (WL_cons rfl (WX_q rfl rfl (q_pick_f rfl rfl rfl) (?_))))))))
        refine WL_nil (hK11 _ ?_)
        clear hK11 K11
        refine W_false rfl ?_
        refine W_skip (hK10 _ ?_)
        clear hK10 K10
        refine W_seq (fun K13 hK13 => ?_)
        apply W_drawsJ [4] [0] 2 13 [] mixed (by kernel_rfl) rfl rfl hK13
        · intro r0
          refine WA_take 1 rfl (by kernel_rfl) (by kernel_rfl) rfl rfl rfl rfl (q_move rfl rfl) (WA_take 2 rfl (by kernel_rfl) (by kernel_rfl) rfl rfl rfl rfl (q_move rfl rfl) (?_))
          first | refine WA_take 3 rfl (by kernel_rfl) (by kernel_rfl) rfl rfl rfl rfl (q_cut_lst G rfl rfl rfl rfl rfl (by omega) (by omega) (by omega)) ?_ | refine WA_take 3 rfl (by kernel_rfl) (by kernel_rfl) rfl rfl rfl rfl (q_cut_lst G rfl rfl rfl rfl rfl (by omega) (by first | (simp; done) | (simp; omega)) (by first | (simp; done) | (simp; omega))) ?_
          refine WA_take 5 rfl (by kernel_rfl) (by kernel_rfl) rfl rfl rfl rfl (q_move rfl rfl) (WA_take 8 rfl (by kernel_rfl) (by kernel_rfl) rfl rfl rfl rfl (q_move rfl rfl) (WA_take 9 rfl (by kernel_rfl) (by kernel_rfl) rfl rfl rfl rfl (q_move rfl rfl) (?_)))
          first | refine WA_take 10 rfl (by kernel_rfl) (by kernel_rfl) rfl rfl rfl rfl (q_cut_lst G rfl rfl rfl rfl rfl (by omega) (by omega) (by omega)) ?_ | refine WA_take 10 rfl (by kernel_rfl) (by kernel_rfl) rfl rfl rfl rfl (q_cut_lst G rfl rfl rfl rfl rfl (by omega) (by first | (simp; done) | (simp; omega)) (by first | (simp; done) | (simp; omega))) ?_
          refine WA_more (N := 1) rfl (WAV_startH (fuel := 5) [⟨0, 33, 0, false, .row 3 1 []⟩] (AllVOK.cons (VOK.lit G rfl rfl rfl rfl rfl) (AllVOK.nil)) (fun hok => ?_))
          refine WAV_go [(4, [0]), (6, [])] (by kernel_rfl) (by kernel_rfl) (fun e he => hok e he) (by kernel_rfl) (AllVS.cons ?_ (AllVS.cons ?_ AllVS.nil))
          · refine VStep.mk1 [] 33 (.own 0) 0 (.row 3 1 []) [] rfl rfl rfl rfl rfl (fun b1 _ hbn => WX_append G (by rw [hbn]; exact Nat.le_of_ble_eq_true rfl) rfl rfl rfl rfl rfl rfl rfl rfl rfl (by first | (simp; omega) | (simp only [cut_take, cut_rest, List.length_append, List.length_map, List.length_take, List.length_drop, List.length_cons, List.length_nil]; omega)) rfl rfl (WL_nil rfl)) (by kernel_rfl) (by kernel_rfl) (by kernel_rfl) (by kernel_rfl) ?_
            refine WAV_nil ?_
            clear hok
            refine WA_branch (rs := [6]) (by kernel_rfl) rfl (AllB.cons ?_ AllB.nil)
            refine WB_run [] rfl rfl (WX_lit G 2 rfl rfl rfl rfl rfl rfl rfl rfl (WL_nil ⟨rfl, ?_⟩))
            refine WA_branch (rs := [7]) (by kernel_rfl) rfl (AllB.cons ?_ AllB.nil)
            refine WB_run [] rfl rfl (WX_append G (by exact Nat.le_of_ble_eq_true rfl) rfl rfl rfl rfl rfl rfl rfl rfl rfl (by first | (simp; omega) | (simp only [cut_take, cut_rest, List.length_append, List.length_map, List.length_take, List.length_drop, List.length_cons, List.length_nil]; omega)) rfl rfl (WL_nil ⟨rfl, ?_⟩))
            refine WA_branch (rs := [11]) (by kernel_rfl) rfl (AllB.cons ?_ AllB.nil)
            refine WB_run [] rfl rfl (WX_append G (by exact Nat.le_of_ble_eq_true rfl) rfl rfl rfl rfl rfl rfl rfl rfl rfl (by first | (simp; omega) | (simp only [cut_take, cut_rest, List.length_append, List.length_map, List.length_take, List.length_drop, List.length_cons, List.length_nil]; omega)) rfl rfl (WL_nil ⟨rfl, ?_⟩))
            refine WA_take 12 rfl (by kernel_rfl) (by kernel_rfl) rfl rfl rfl rfl (q_assign rfl rfl) (?_)
            exact WA_end (by kernel_rfl) (Meet.mk rfl rfl rfl rfl)
          · refine VStep.mk0 [] rfl rfl (fun b1 _ hbn => WX_lit G 2 rfl rfl rfl rfl rfl rfl rfl rfl (WL_nil rfl)) (by kernel_rfl) (by kernel_rfl) (by kernel_rfl) (by kernel_rfl) ?_
            refine WAV_go [(4, [0])] (by kernel_rfl) (by kernel_rfl) (fun e he => hok e he) (by kernel_rfl) (AllVS.cons ?_ AllVS.nil)
            refine VStep.mk1 [] 33 (.own 0) 0 (.row 3 1 []) [] rfl rfl rfl rfl rfl (fun b1 _ hbn => WX_append G (by rw [hbn]; exact Nat.le_of_ble_eq_true rfl) rfl rfl rfl rfl rfl rfl rfl rfl rfl (by first | (simp; omega) | (simp only [cut_take, cut_rest, List.length_append, List.length_map, List.length_take, List.length_drop, List.length_cons, List.length_nil]; omega)) rfl rfl (WL_nil rfl)) (by kernel_rfl) (by kernel_rfl) (by kernel_rfl) (by kernel_rfl) ?_
            refine WAV_nil ?_
            clear hok
            refine WA_branch (rs := [7]) (by kernel_rfl) rfl (AllB.cons ?_ AllB.nil)
            refine WB_run [] rfl rfl (WX_append G (by exact Nat.le_of_ble_eq_true rfl) rfl rfl rfl rfl rfl rfl rfl rfl rfl (by first | (simp; omega) | (simp only [cut_take, cut_rest, List.length_append, List.length_map, List.length_take, List.length_drop, List.length_cons, List.length_nil]; omega)) rfl rfl (WL_nil ⟨rfl, ?_⟩))
            refine WA_branch (rs := [11]) (by kernel_rfl) rfl (AllB.cons ?_ AllB.nil)
            refine WB_run [] rfl rfl (WX_append G (by exact Nat.le_of_ble_eq_true rfl) rfl rfl rfl rfl rfl rfl rfl rfl rfl (by first | (simp; omega) | (simp only [cut_take, cut_rest, List.length_append, List.length_map, List.length_take, List.length_drop, List.length_cons, List.length_nil]; omega)) rfl rfl (WL_nil ⟨rfl, ?_⟩))
            refine WA_take 12 rfl (by kernel_rfl) (by kernel_rfl) rfl rfl rfl rfl (q_assign rfl rfl) (?_)
            exact WA_end (by kernel_rfl) (Meet.mk rfl rfl rfl rfl)
        · clear hK13 K13
          refine W_ret (fin_one rfl (rc_own rfl ?_))
          all_goals ((rw [putI_at hk.2 hk.1 (by first | exact .inl (by omega) | exact .inr ⟨by omega, by omega⟩), cut_take, cut_rest]; simp [Rf.encI]; done))

theorem c_spec_l8Active (sl : List Slot) (hF : SlF sl) : Ctr Tryz.prog 78 [.lst 3 (sl.map encSl)] (.one (.fr 3 1 ((actS sl 4).map Rf.encI))) := by
  have hl4 := hF.len
  refine Ctr.of (n := 34) G Tryz.func78 rfl (by kernel_rfl) rfl rfl rfl (fun w0 => ?_)
  refine W_seq (fun K1 hK1 => ?_)
  refine W_region (WL_cons rfl (WX_q rfl rfl (q_assign rfl rfl) (?_)))
  refine WL_nil (hK1 _ ?_)
  clear hK1 K1
  refine W_seq (fun K2 hK2 => ?_)
  refine W_region (WL_cons rfl (WX_lit G 1 rfl rfl rfl rfl rfl rfl rfl rfl (WL_cons rfl (WX_q rfl rfl (q_assign rfl rfl) (?_)))))
  refine WL_nil (hK2 _ ?_)
  clear hK2 K2
  refine W_seq (fun K3 hK3 => ?_)
  refine W_seq (fun K4 hK4 => ?_)
  refine W_region (WL_cons rfl (WX_q rfl rfl (q_assign rfl rfl) (?_)))
  refine WL_nil (hK4 _ ?_)
  clear hK4 K4
  refine W_block ?_
  refine W_loopK [0] [] (fun (i : Nat) => [(3, .own 0), (4, .v (.int .i64 (i : Int)))]) (fun (i : Nat) => [(0, some (.row 3 1 ((actS sl i).map Rf.encI)))]) (fun (i : Nat) => i ≤ 4) (fun (i : Nat) => 4 - i) 0 rfl rfl ?_ ?_ ?_ ?_
  · exact Nat.zero_le _
  · exact ⟨⟨_, rfl, by rfl⟩, rfl, ⟨⟨_, rfl, by rfl⟩, rfl, trivial⟩⟩
  · exact ⟨⟨_, rfl, by rfl⟩, rfl, rfl, trivial⟩
  · intro i hi
    simp only [List.cons_append, List.nil_append]
    refine W_seq (fun K5 hK5 => ?_)
    refine W_seq (fun K6 hK6 => ?_)
    refine W_region (WL_cons rfl (WX_q rfl rfl (q_move rfl rfl) (WL_cons rfl (WX_q rfl rfl (q_move rfl rfl) (WL_cons rfl (?_))))))
    first | refine WX_q rfl rfl (q_len' G rfl rfl rfl rfl (List.length_map _)) ?_ | refine WX_q rfl rfl (q_len G rfl rfl rfl rfl) ?_
    refine WL_cons rfl (WX_q rfl rfl (q_cmp rfl rfl rfl rfl) (?_))
    refine WL_nil (hK6 _ ?_)
    clear hK6 K6
    refine W_cond rfl (fun h1 => ?_) (fun h1 => ?_)
    · try rw [h1]
      try simp only [rfb] at h1
      refine W_skip (hK5 _ ?_)
      clear hK5 K5
      refine W_seq (fun K7 hK7 => ?_)
      refine W_block ?_
      refine W_seq (fun K8 hK8 => ?_)
      refine W_region (WL_cons rfl (WX_q rfl rfl (q_move rfl rfl) (WL_cons rfl (WX_q rfl rfl (q_move rfl rfl) (WL_cons rfl (?_))))))
      first | refine WX_q rfl rfl (q_index_lst G rfl rfl rfl rfl (by omega) (getN (by omega))) ?_ | refine WX_q rfl rfl (q_index_lst G rfl rfl rfl rfl (by omega) (getNI (by omega) (by omega))) ?_ | refine WX_q rfl rfl (q_index_lst G rfl rfl rfl rfl (by omega) (getM (by omega) (by omega))) ?_
      refine WL_cons rfl (WX_q rfl rfl (q_field_ept G rfl rfl rfl rfl) (WL_cons rfl (WX_q rfl rfl (q_load_ept G rfl rfl rfl rfl rfl) (WL_cons rfl (WX_q rfl rfl (q_cmp rfl rfl rfl rfl) (WL_cons rfl (WX_q rfl rfl (q_move rfl rfl) (WL_part rfl rfl rfl (fun h2 => ?_) (fun h2 => ?_)))))))))
      · try rw [h2]
        try simp only [rfb] at h2
        refine WL_skip rfl rfl rfl rfl rfl rfl (WL_skip rfl rfl rfl rfl rfl rfl (WL_skip rfl rfl rfl rfl rfl rfl (WL_skip rfl rfl rfl rfl rfl rfl (WL_skip rfl rfl rfl rfl rfl rfl (WL_skip rfl rfl rfl rfl rfl rfl (WL_cons rfl (WX_q rfl rfl (q_pick_t rfl rfl rfl) (?_))))))))
        refine WL_nil (hK8 _ ?_)
        clear hK8 K8
        refine W_true rfl ?_
        refine W_region (WL_cons rfl (WX_q rfl rfl (q_move rfl rfl) (WL_cons rfl (WX_q rfl rfl (q_move rfl rfl) (WL_cons rfl (WX_q rfl rfl (q_move rfl rfl) (WL_cons rfl (?_))))))))
        first | refine WX_q rfl rfl (q_index_lst G rfl rfl rfl rfl (by omega) (getN (by omega))) ?_ | refine WX_q rfl rfl (q_index_lst G rfl rfl rfl rfl (by omega) (getNI (by omega) (by omega))) ?_ | refine WX_q rfl rfl (q_index_lst G rfl rfl rfl rfl (by omega) (getM (by omega) (by omega))) ?_
        refine WL_cons rfl (WX_q rfl rfl (q_field_ept G rfl rfl rfl rfl) (WL_cons rfl (WX_q rfl rfl (q_load_ept G rfl rfl rfl rfl rfl) (WL_cons rfl (?_)))))
        refine WX_call 2 rfl rfl rfl (ArgsOK.of rfl) (c_spec_l1Put (actS sl i) _ (by have := @actS_len sl i; have := @actN_len sl i; omega) (fun x hx => actS_ne hF (by omega) (actP_iff.mpr (by omega)) hx)) rfl rfl ?_
        refine WL_cons rfl (WX_q rfl rfl (q_assign rfl rfl) (?_))
        refine WL_nil (hK7 _ ?_)
        clear hK7 K7
        refine W_region (WL_cons rfl (WX_q rfl rfl (q_move rfl rfl) (WL_cons rfl (?_))))
        first | refine WX_q rfl rfl (q_arith rfl rfl rfl rfl (by omega) (by omega)) ?_ | refine WX_q rfl rfl (q_wrap rfl rfl rfl rfl) ?_
        refine WL_cons rfl (WX_q rfl rfl (q_assign rfl rfl) (?_))
        refine WL_gh (Gh.sub 1 0 np rfl rfl rfl) ?_
        refine WL_nil ⟨(i + 1), ?_, ?_, ⟨⟨_, rfl, by rfl⟩, rfl, ⟨⟨_, rfl, by rfl⟩, rfl, trivial⟩⟩, ⟨⟨_, rfl, by (first | (rw [actS_t (by omega)]; done) | (rw [actS_f (by omega)]; done))⟩, rfl, rfl, trivial⟩, rfl, rfl, rfl⟩
        · omega
        · omega
      · try rw [h2]
        try simp only [rfb] at h2
        refine WL_run rfl rfl rfl (WX_q rfl rfl (q_move rfl rfl) (WL_run rfl rfl rfl (WX_q rfl rfl (q_move rfl rfl) (WL_run rfl rfl rfl (?_)))))
        first | refine WX_q rfl rfl (q_index_lst G rfl rfl rfl rfl (by omega) (getN (by omega))) ?_ | refine WX_q rfl rfl (q_index_lst G rfl rfl rfl rfl (by omega) (getNI (by omega) (by omega))) ?_ | refine WX_q rfl rfl (q_index_lst G rfl rfl rfl rfl (by omega) (getM (by omega) (by omega))) ?_
        refine WL_run rfl rfl rfl (WX_q rfl rfl (q_field_ept G rfl rfl rfl rfl) (WL_run rfl rfl rfl (WX_q rfl rfl (q_load_ept G rfl rfl rfl rfl rfl) (WL_run rfl rfl rfl (WX_q rfl rfl (q_cmp rfl rfl rfl rfl) (WL_cons rfl (WX_q rfl rfl (q_pick_f rfl rfl rfl) (?_))))))))
        refine WL_nil (hK8 _ ?_)
        clear hK8 K8
        refine W_cond rfl (fun h3 => ?_) (fun h3 => ?_)
        · try rw [h3]
          try simp only [rfb] at h3
          refine W_region (WL_cons rfl (WX_q rfl rfl (q_move rfl rfl) (WL_cons rfl (WX_q rfl rfl (q_move rfl rfl) (WL_cons rfl (WX_q rfl rfl (q_move rfl rfl) (WL_cons rfl (?_))))))))
          first | refine WX_q rfl rfl (q_index_lst G rfl rfl rfl rfl (by omega) (getN (by omega))) ?_ | refine WX_q rfl rfl (q_index_lst G rfl rfl rfl rfl (by omega) (getNI (by omega) (by omega))) ?_ | refine WX_q rfl rfl (q_index_lst G rfl rfl rfl rfl (by omega) (getM (by omega) (by omega))) ?_
          refine WL_cons rfl (WX_q rfl rfl (q_field_ept G rfl rfl rfl rfl) (WL_cons rfl (WX_q rfl rfl (q_load_ept G rfl rfl rfl rfl rfl) (WL_cons rfl (?_)))))
          refine WX_call 2 rfl rfl rfl (ArgsOK.of rfl) (c_spec_l1Put (actS sl i) _ (by have := @actS_len sl i; have := @actN_len sl i; omega) (fun x hx => actS_ne hF (by omega) (actP_iff.mpr (by omega)) hx)) rfl rfl ?_
          refine WL_cons rfl (WX_q rfl rfl (q_assign rfl rfl) (?_))
          refine WL_nil (hK7 _ ?_)
          clear hK7 K7
          refine W_region (WL_cons rfl (WX_q rfl rfl (q_move rfl rfl) (WL_cons rfl (?_))))
          first | refine WX_q rfl rfl (q_arith rfl rfl rfl rfl (by omega) (by omega)) ?_ | refine WX_q rfl rfl (q_wrap rfl rfl rfl rfl) ?_
          refine WL_cons rfl (WX_q rfl rfl (q_assign rfl rfl) (?_))
          refine WL_gh (Gh.sub 1 0 np rfl rfl rfl) ?_
          refine WL_nil ⟨(i + 1), ?_, ?_, ⟨⟨_, rfl, by rfl⟩, rfl, ⟨⟨_, rfl, by rfl⟩, rfl, trivial⟩⟩, ⟨⟨_, rfl, by (first | (rw [actS_t (by omega)]; done) | (rw [actS_f (by omega)]; done))⟩, rfl, rfl, trivial⟩, rfl, rfl, rfl⟩
          · omega
          · omega
        · try rw [h3]
          try simp only [rfb] at h3
          refine W_skip (hK7 _ ?_)
          clear hK7 K7
          refine W_region (WL_cons rfl (WX_q rfl rfl (q_move rfl rfl) (WL_cons rfl (?_))))
          first | refine WX_q rfl rfl (q_arith rfl rfl rfl rfl (by omega) (by omega)) ?_ | refine WX_q rfl rfl (q_wrap rfl rfl rfl rfl) ?_
          refine WL_cons rfl (WX_q rfl rfl (q_assign rfl rfl) (?_))
          refine WL_nil ⟨(i + 1), ?_, ?_, ⟨⟨_, rfl, by rfl⟩, rfl, ⟨⟨_, rfl, by rfl⟩, rfl, trivial⟩⟩, ⟨⟨_, rfl, by (first | (rw [actS_t (by omega)]; done) | (rw [actS_f (by omega)]; done))⟩, rfl, rfl, trivial⟩, rfl, rfl, rfl⟩
          · omega
          · omega
    · try rw [h1]
      try simp only [rfb] at h1
      obtain rfl : i = 4 := (by omega)
      refine W_exit (hK3 _ ?_)
      clear hK5 K5 hK3 K3
      refine W_seq (fun K9 hK9 => ?_)
      refine W_region (WL_cons rfl (WX_q rfl rfl (q_move rfl rfl) (WL_cons rfl (WX_q rfl rfl (q_assign rfl rfl) (?_)))))
      refine WL_nil (hK9 _ ?_)
      clear hK9 K9
      refine W_ret (fin_one rfl (rc_own rfl ?_))
      all_goals (rfl)

theorem c_impl_IsInterface (x : Ifc) (hn : x.st.length ≤ 1048576) (hl : x.qu.sl.length ≤ 1048576) (hw : x.qu.wa.length ≤ 1048576) : Ctr Tryz.prog 36 [.agg [.v (.int .i64 x.ma), .lst 1 (x.st.map Rf.encI), .lst 3 (x.qu.sl.map encSl), .lst 2 (x.qu.wa.map encWa)]] (.one (.v (.bool (okIf x)))) := by
  refine Ctr.of (n := 54) G Tryz.func36 rfl (by kernel_rfl) rfl rfl rfl (fun w0 => ?_)
  refine W_pinS 0 rfl (fun _ => rfl) (fun u0 => ?_)
  refine W_seq (fun K1 hK1 => ?_)
  refine W_region (WL_cons rfl (WX_box 1 rfl rfl rfl rfl rfl rfl rfl (WL_cons rfl (WX_q rfl rfl (q_assign rfl rfl) (?_)))))
  refine WL_nil (hK1 _ ?_)
  clear hK1 K1
  refine W_seq (fun K2 hK2 => ?_)
  refine W_seq (fun K3 hK3 => ?_)
  refine W_region (WL_cons rfl (WX_q rfl rfl (q_field_ptr G rfl rfl rfl rfl) (WL_cons rfl (WX_q rfl rfl (q_load_box G rfl rfl rfl rfl rfl rfl rfl) (WL_cons rfl (?_))))))
  refine WX_q rfl rfl (q_call rfl (ArgsOK.of rfl) (c_impl_isMask x.ma) rfl) ?_
  refine WL_cons rfl (WX_q rfl rfl (q_not rfl rfl) (WL_cons rfl (WX_q rfl rfl (q_move rfl rfl) (WL_part rfl rfl rfl (fun h1 => ?_) (fun h1 => ?_)))))
  · try rw [h1]
    try simp only [rfb] at h1
    refine WL_skip rfl rfl rfl rfl rfl rfl (WL_skip rfl rfl rfl rfl rfl rfl (WL_skip rfl rfl rfl rfl rfl rfl (WL_skip rfl rfl rfl rfl rfl rfl (WL_cons rfl (WX_q rfl rfl (q_pick_t rfl rfl rfl) (?_))))))
    refine WL_nil (hK3 _ ?_)
    clear hK3 K3
    refine W_true rfl ?_
    refine W_seq (fun K4 hK4 => ?_)
    refine W_region (WL_cons rfl (WX_q rfl rfl (q_assign rfl rfl) (?_)))
    refine WL_nil (hK4 _ ?_)
    clear hK4 K4
    refine W_ret (fin_one rfl (rc_v ?_))
    all_goals clear hK2 K2
    all_goals (first | (exact congrArg Value.bool (okIf_m h1).symm) | (exact congrArg Value.bool (okIf_q h2).symm) | (exact congrArg Value.bool (okIf_s (okSt_p h3)).symm) | (exact congrArg Value.bool (okIf_s (okSt_l (i := i) (lvD_f (by omega) (by rw [← hti (by omega)]; omega)) (by omega))).symm) | (exact congrArg Value.bool (okIf_t h1 h2 (okSt_t h3 hinv.2 (by omega))).symm))
  · try rw [h1]
    try simp only [rfb] at h1
    refine WL_run rfl rfl rfl (WX_q rfl rfl (q_field_ptr G rfl rfl rfl rfl) (WL_run rfl rfl rfl (WX_q rfl rfl (q_load_box_struct G rfl rfl rfl rfl rfl rfl) (WL_run rfl rfl rfl (?_)))))
    refine WX_q rfl rfl (q_call rfl (ArgsOK.of rfl) (c_impl_IsQueue x.qu hl hw) rfl) ?_
    refine WL_run rfl rfl rfl (WX_q rfl rfl (q_not rfl rfl) (WL_cons rfl (WX_q rfl rfl (q_pick_f rfl rfl rfl) (?_))))
    refine WL_nil (hK3 _ ?_)
    clear hK3 K3
    refine W_cond rfl (fun h2 => ?_) (fun h2 => ?_)
    · try rw [h2]
      try simp only [rfb] at h2
      refine W_seq (fun K5 hK5 => ?_)
      refine W_region (WL_cons rfl (WX_q rfl rfl (q_assign rfl rfl) (?_)))
      refine WL_nil (hK5 _ ?_)
      clear hK5 K5
      refine W_ret (fin_one rfl (rc_v ?_))
      all_goals clear hK2 K2
      all_goals (first | (exact congrArg Value.bool (okIf_m h1).symm) | (exact congrArg Value.bool (okIf_q h2).symm) | (exact congrArg Value.bool (okIf_s (okSt_p h3)).symm) | (exact congrArg Value.bool (okIf_s (okSt_l (i := i) (lvD_f (by omega) (by rw [← hti (by omega)]; omega)) (by omega))).symm) | (exact congrArg Value.bool (okIf_t h1 h2 (okSt_t h3 hinv.2 (by omega))).symm))
    · try rw [h2]
      try simp only [rfb] at h2
      have hq := okQu_iff.mp h2
      have hSl := hq.1.sl
      have hl4 := hSl.len
      refine W_skip (hK2 _ ?_)
      clear hK2 K2
      refine W_seq (fun K6 hK6 => ?_)
      refine W_region (WL_cons rfl (WX_q rfl rfl (q_field_ptr G rfl rfl rfl rfl) (WL_cons rfl (WX_q rfl rfl (q_lst (q_load_box G rfl rfl rfl rfl rfl rfl rfl)) (WL_cons rfl (?_))))))
      refine WX_call 2 rfl rfl rfl (ArgsOK.of rfl) (c_impl_copyInts x.st hn) rfl rfl ?_
      refine WL_cons rfl (WX_q rfl rfl (q_assign rfl rfl) (?_))
      refine WL_nil (hK6 _ ?_)
      clear hK6 K6
      refine W_seq (fun K7 hK7 => ?_)
      refine W_region (WL_cons rfl (WX_q rfl rfl (q_move rfl rfl) (WL_cons rfl (?_))))
      refine WX_callm 2 [1] rfl rfl rfl (c_slices_Sort_int_int x.st hn) rfl (RowsIn.cons rfl RowsIn.nil) rfl rfl rfl ?_
      refine WL_nil (hK7 _ ?_)
      clear hK7 K7
      refine W_seq (fun K8 hK8 => ?_)
      refine W_seq (fun K9 hK9 => ?_)
      refine W_region (WL_cons rfl (WX_q rfl rfl (q_move rfl rfl) (WL_cons rfl (WX_q rfl rfl (q_field_ptr G rfl rfl rfl rfl) (WL_cons rfl (WX_q rfl rfl (q_field_ptr G rfl rfl rfl rfl) (WL_cons rfl (WX_q rfl rfl (q_lst (q_load_box G rfl rfl rfl rfl rfl rfl rfl)) (WL_cons rfl (?_))))))))))
      refine WX_call 3 rfl rfl rfl (ArgsOK.of rfl) (c_impl_activeIrqs x.qu.sl hSl) rfl rfl ?_
      refine WL_cons rfl (?_)
      refine WX_q rfl rfl (q_call rfl (ArgsOK.of rfl) (c_slices_Equal_int_int (srtI x.st) (srtI (actN x.qu.sl 4)) (by rw [srtI_len]; exact hn) (by rw [srtI_len]; have := @actN_len x.qu.sl 4; omega)) rfl) ?_
      refine WL_cons rfl (WX_q rfl rfl (q_not rfl rfl) (?_))
      refine WL_nil (hK9 _ ?_)
      clear hK9 K9
      refine W_cond rfl (fun h3 => ?_) (fun h3 => ?_)
      · try rw [h3]
        try simp only [rfb] at h3
        refine W_seq (fun K10 hK10 => ?_)
        refine W_region (WL_cons rfl (WX_q rfl rfl (q_assign rfl rfl) (?_)))
        refine WL_nil (hK10 _ ?_)
        clear hK10 K10
        refine W_ret (fin_one rfl (rc_v ?_))
        all_goals clear hK8 K8
        all_goals (first | (exact congrArg Value.bool (okIf_m h1).symm) | (exact congrArg Value.bool (okIf_q h2).symm) | (exact congrArg Value.bool (okIf_s (okSt_p h3)).symm) | (exact congrArg Value.bool (okIf_s (okSt_l (i := i) (lvD_f (by omega) (by rw [← hti (by omega)]; omega)) (by omega))).symm) | (exact congrArg Value.bool (okIf_t h1 h2 (okSt_t h3 hinv.2 (by omega))).symm))
      · try rw [h3]
        try simp only [rfb] at h3
        have hin := fun j (hj : j < x.st.length) => act_in (srt_in h3 (mem_getD.mpr ⟨j, hj, rfl⟩)) hl4
        refine W_skip (hK8 _ ?_)
        clear hK8 K8
        refine W_seq (fun K11 hK11 => ?_)
        refine W_seq (fun K12 hK12 => ?_)
        refine W_region (WL_cons rfl (WX_q rfl rfl (q_assign rfl rfl) (?_)))
        refine WL_nil (hK12 _ ?_)
        clear hK12 K12
        refine W_block ?_
        refine W_loopK [1] [0] (fun (i : Nat) => [(4, .v (.int .i64 (i : Int)))]) (fun (i : Nat) => []) (fun (i : Nat) => 1 ≤ i ∧ ∀ j, j < i → lvD x.qu.sl x.st j = true) (fun (i : Nat) => x.st.length - i) 1 rfl rfl ?_ ?_ ?_ ?_
        · exact ⟨Nat.le_refl _, fun j hj => by obtain rfl : j = 0 := (by omega); exact lvD_0⟩
        · exact ⟨⟨_, rfl, by (first | rfl | (simp; done) | (simp; omega))⟩, rfl, trivial⟩
        · exact trivial
        · intro i hinv
          have hti : 0 < i → ((i : Int) - 1).toNat = i - 1 := fun _ => (by omega)
          simp only [List.cons_append, List.nil_append]
          refine W_seq (fun K13 hK13 => ?_)
          refine W_seq (fun K14 hK14 => ?_)
          refine W_region (WL_cons rfl (WX_q rfl rfl (q_move rfl rfl) (WL_cons rfl (WX_q rfl rfl (q_field_ptr G rfl rfl rfl rfl) (WL_cons rfl (WX_q rfl rfl (q_lst (q_load_box G rfl rfl rfl rfl rfl rfl rfl)) (WL_cons rfl (?_))))))))
          first | refine WX_q rfl rfl (q_len' G rfl rfl rfl rfl (List.length_map _)) ?_ | refine WX_q rfl rfl (q_len G rfl rfl rfl rfl) ?_
          refine WL_cons rfl (WX_q rfl rfl (q_cmp rfl rfl rfl rfl) (?_))
          refine WL_nil (hK14 _ ?_)
          clear hK14 K14
          refine W_cond rfl (fun h4 => ?_) (fun h4 => ?_)
          · try rw [h4]
            try simp only [rfb] at h4
            have hi1 := hin i (by omega)
            have hi2 := hin (i - 1) (by omega)
            refine W_skip (hK13 _ ?_)
            clear hK13 K13
            refine W_seq (fun K15 hK15 => ?_)
            refine W_block ?_
            refine W_seq (fun K16 hK16 => ?_)
            refine W_draws mixed (by kernel_rfl) (QL_cons rfl (QX_q rfl rfl (q_field_ptr G rfl rfl rfl rfl) (QL_cons rfl (QX_q rfl rfl (q_field_ptr G rfl rfl rfl rfl) (QL_cons rfl (QX_q rfl rfl (q_lst (q_load_box G rfl rfl rfl rfl rfl rfl rfl)) (QL_cons rfl (QX_q rfl rfl (q_field_ptr G rfl rfl rfl rfl) (QL_cons rfl (QX_q rfl rfl (q_lst (q_load_box G rfl rfl rfl rfl rfl rfl rfl)) (QL_cons rfl (QX_q rfl rfl (q_move rfl rfl) (QL_cons rfl (?_))))))))))))))
            first | refine QX_q rfl rfl (q_index_lst G rfl rfl rfl rfl (by omega) (getN (by omega))) ?_ | refine QX_q rfl rfl (q_index_lst G rfl rfl rfl rfl (by omega) (getNI (by omega) (by omega))) ?_ | refine QX_q rfl rfl (q_index_lst G rfl rfl rfl rfl (by omega) (getM (by omega) (by omega))) ?_
            refine QL_cons rfl (QX_q rfl rfl (q_load_ept G rfl rfl rfl rfl rfl) (QL_cons rfl (?_)))
            refine QX_q rfl rfl (q_call rfl (ArgsOK.of rfl) (c_impl_priorityIn x.qu.sl _ hl hi1) rfl) ?_
            refine QL_cons rfl (QX_q rfl rfl (q_field_ptr G rfl rfl rfl rfl) (QL_cons rfl (QX_q rfl rfl (q_field_ptr G rfl rfl rfl rfl) (QL_cons rfl (QX_q rfl rfl (q_lst (q_load_box G rfl rfl rfl rfl rfl rfl rfl)) (QL_cons rfl (QX_q rfl rfl (q_field_ptr G rfl rfl rfl rfl) (QL_cons rfl (QX_q rfl rfl (q_lst (q_load_box G rfl rfl rfl rfl rfl rfl rfl)) (QL_cons rfl (QX_q rfl rfl (q_move rfl rfl) (QL_cons rfl (?_)))))))))))))
            first | refine QX_q rfl rfl (q_arith rfl rfl rfl rfl (by omega) (by omega)) ?_ | refine QX_q rfl rfl (q_wrap rfl rfl rfl rfl) ?_
            refine QL_cons rfl (?_)
            first | refine QX_q rfl rfl (q_index_lst G rfl rfl rfl rfl (by omega) (getN (by omega))) ?_ | refine QX_q rfl rfl (q_index_lst G rfl rfl rfl rfl (by omega) (getNI (by omega) (by omega))) ?_ | refine QX_q rfl rfl (q_index_lst G rfl rfl rfl rfl (by omega) (getM (by omega) (by omega))) ?_
            refine QL_cons rfl (QX_q rfl rfl (q_load_ept G rfl rfl rfl rfl rfl) (QL_cons rfl (?_)))
            refine QX_q rfl rfl (q_call rfl (ArgsOK.of rfl) (c_impl_priorityIn x.qu.sl _ hl (by rw [hti (by omega)]; exact hi2)) rfl) ?_
            refine QL_cons rfl (QX_q rfl rfl (q_cmp rfl rfl rfl rfl) (?_))
            refine QL_nil (hK16 _ ?_)
            clear hK16 K16
            refine W_cond rfl (fun h5 => ?_) (fun h5 => ?_)
            · try rw [h5]
              try simp only [rfb] at h5
              refine W_seq (fun K17 hK17 => ?_)
              refine W_region (WL_cons rfl (WX_q rfl rfl (q_assign rfl rfl) (?_)))
              refine WL_nil (hK17 _ ?_)
              clear hK17 K17
              refine W_ret (fin_one rfl (rc_v ?_))
              all_goals clear hK15 K15 hK11 K11
              all_goals (first | (exact congrArg Value.bool (okIf_m h1).symm) | (exact congrArg Value.bool (okIf_q h2).symm) | (exact congrArg Value.bool (okIf_s (okSt_p h3)).symm) | (exact congrArg Value.bool (okIf_s (okSt_l (i := i) (lvD_f (by omega) (by rw [← hti (by omega)]; omega)) (by omega))).symm) | (exact congrArg Value.bool (okIf_t h1 h2 (okSt_t h3 hinv.2 (by omega))).symm))
            · try rw [h5]
              try simp only [rfb] at h5
              refine W_skip (hK15 _ ?_)
              clear hK15 K15
              refine W_region (WL_cons rfl (WX_q rfl rfl (q_move rfl rfl) (WL_cons rfl (?_))))
              first | refine WX_q rfl rfl (q_arith rfl rfl rfl rfl (by omega) (by omega)) ?_ | refine WX_q rfl rfl (q_wrap rfl rfl rfl rfl) ?_
              refine WL_cons rfl (WX_q rfl rfl (q_assign rfl rfl) (?_))
              refine WL_nil ⟨(i + 1), ?_, ?_, ⟨⟨_, rfl, by rfl⟩, rfl, trivial⟩, trivial, rfl, rfl, rfl⟩
              · exact ⟨by omega, upto_succ hinv.2 (lvD_t (by rw [← hti (by omega)]; omega))⟩
              · omega
          · try rw [h4]
            try simp only [rfb] at h4
            refine W_exit (hK11 _ ?_)
            clear hK13 K13 hK11 K11
            refine W_seq (fun K18 hK18 => ?_)
            refine W_region (WL_cons rfl (WX_q rfl rfl (q_assign rfl rfl) (?_)))
            refine WL_nil (hK18 _ ?_)
            clear hK18 K18
            refine W_ret (fin_one rfl (rc_v ?_))
            all_goals (first | (exact congrArg Value.bool (okIf_m h1).symm) | (exact congrArg Value.bool (okIf_q h2).symm) | (exact congrArg Value.bool (okIf_s (okSt_p h3)).symm) | (exact congrArg Value.bool (okIf_s (okSt_l (i := i) (lvD_f (by omega) (by rw [← hti (by omega)]; omega)) (by omega))).symm) | (exact congrArg Value.bool (okIf_t h1 h2 (okSt_t h3 hinv.2 (by omega))).symm))

end Go.Proofs.YtieidkjfeboepaaGreatDoor

/- Walks through functions of the program, one contract each (written by gen.py). -/
set_option maxRecDepth 20000
set_option linter.unusedVariables false
set_option linter.unusedSimpArgs false
namespace Go.Proofs.YtieidkjfeboepaaGreatDoor
open Go Go.Rf

theorem c_spec_l10Good (x : Ifc) (hn : x.st.length ≤ 1048576) (hl : x.qu.sl.length ≤ 1048576) (hw : x.qu.wa.length ≤ 1048576) : Ctr Tryz.prog 46 [.agg [.v (.int .i64 x.ma), .lst 1 (x.st.map Rf.encI), .lst 3 (x.qu.sl.map encSl), .lst 2 (x.qu.wa.map encWa)]] (.one (.v (.bool (okIf x)))) := by
  refine Ctr.of (n := 74) G Tryz.func46 rfl (by kernel_rfl) rfl rfl rfl (fun w0 => ?_)
  refine W_pinS 0 rfl (fun _ => rfl) (fun u0 => ?_)
  refine W_seq (fun K1 hK1 => ?_)
  refine W_region (WL_cons rfl (WX_box 1 rfl rfl rfl rfl rfl rfl rfl (WL_cons rfl (WX_q rfl rfl (q_assign rfl rfl) (?_)))))
  refine WL_nil (hK1 _ ?_)
  clear hK1 K1
  refine W_seq (fun K2 hK2 => ?_)
  refine W_seq (fun K3 hK3 => ?_)
  refine W_region (WL_cons rfl (WX_q rfl rfl (q_field_ptr G rfl rfl rfl rfl) (WL_cons rfl (WX_q rfl rfl (q_load_box G rfl rfl rfl rfl rfl rfl rfl) (WL_cons rfl (?_))))))
  refine WX_q rfl rfl (q_call rfl (ArgsOK.of rfl) (c_spec_l1In x.ma 0 16) rfl) ?_
  refine WL_cons rfl (WX_q rfl rfl (q_not rfl rfl) (WL_cons rfl (WX_q rfl rfl (q_move rfl rfl) (WL_part rfl rfl rfl (fun h1 => ?_) (fun h1 => ?_)))))
  · try rw [h1]
    try simp only [rfb] at h1
    refine WL_skip rfl rfl rfl rfl rfl rfl (WL_skip rfl rfl rfl rfl rfl rfl (WL_skip rfl rfl rfl rfl rfl rfl (WL_skip rfl rfl rfl rfl rfl rfl (WL_cons rfl (WX_q rfl rfl (q_pick_t rfl rfl rfl) (?_))))))
    refine WL_nil (hK3 _ ?_)
    clear hK3 K3
    refine W_true rfl ?_
    refine W_seq (fun K4 hK4 => ?_)
    refine W_region (WL_cons rfl (WX_q rfl rfl (q_assign rfl rfl) (?_)))
    refine WL_nil (hK4 _ ?_)
    clear hK4 K4
    refine W_ret (fin_one rfl (rc_v ?_))
    all_goals clear hK2 K2
    all_goals (first | (exact congrArg Value.bool (okIf_m h1).symm) | (exact congrArg Value.bool (okIf_q h2).symm) | (exact congrArg Value.bool (okIf_s (okSt_in (i := i) (by omega) (fun g => hasI_nf.mp h4 ((actS_mem 4).mpr g)))).symm) | (obtain ⟨k, hk, e⟩ := (mem_take (by omega)).mp (hasI_iff.mp h5); (exact congrArg Value.bool (okIf_s (okSt_dup hSl hk (by omega) e)).symm)) | (exact congrArg Value.bool (okIf_s (okSt_l (i := i) (lvD_f (by omega) (by rw [← hti (by omega)]; omega)) (by omega))).symm) | (have e : i = x.st.length := (by omega); subst e; rw [okIf_e h1 h2, hinv.2.fin hSl, beqN, actS_len]; done))
  · try rw [h1]
    try simp only [rfb] at h1
    refine WL_run rfl rfl rfl (WX_q rfl rfl (q_field_ptr G rfl rfl rfl rfl) (WL_run rfl rfl rfl (WX_q rfl rfl (q_load_box_struct G rfl rfl rfl rfl rfl rfl) (WL_run rfl rfl rfl (?_)))))
    refine WX_q rfl rfl (q_call rfl (ArgsOK.of rfl) (c_spec_l9Good x.qu hl hw) rfl) ?_
    refine WL_run rfl rfl rfl (WX_q rfl rfl (q_not rfl rfl) (WL_cons rfl (WX_q rfl rfl (q_pick_f rfl rfl rfl) (?_))))
    refine WL_nil (hK3 _ ?_)
    clear hK3 K3
    refine W_cond rfl (fun h2 => ?_) (fun h2 => ?_)
    · try rw [h2]
      try simp only [rfb] at h2
      refine W_seq (fun K5 hK5 => ?_)
      refine W_region (WL_cons rfl (WX_q rfl rfl (q_assign rfl rfl) (?_)))
      refine WL_nil (hK5 _ ?_)
      clear hK5 K5
      refine W_ret (fin_one rfl (rc_v ?_))
      all_goals clear hK2 K2
      all_goals (first | (exact congrArg Value.bool (okIf_m h1).symm) | (exact congrArg Value.bool (okIf_q h2).symm) | (exact congrArg Value.bool (okIf_s (okSt_in (i := i) (by omega) (fun g => hasI_nf.mp h4 ((actS_mem 4).mpr g)))).symm) | (obtain ⟨k, hk, e⟩ := (mem_take (by omega)).mp (hasI_iff.mp h5); (exact congrArg Value.bool (okIf_s (okSt_dup hSl hk (by omega) e)).symm)) | (exact congrArg Value.bool (okIf_s (okSt_l (i := i) (lvD_f (by omega) (by rw [← hti (by omega)]; omega)) (by omega))).symm) | (have e : i = x.st.length := (by omega); subst e; rw [okIf_e h1 h2, hinv.2.fin hSl, beqN, actS_len]; done))
    · try rw [h2]
      try simp only [rfb] at h2
      have hq := okQu_iff.mp h2
      have hSl := hq.1.sl
      have hl4 := hSl.len
      refine W_skip (hK2 _ ?_)
      clear hK2 K2
      refine W_seq (fun K6 hK6 => ?_)
      refine W_region (WL_cons rfl (WX_q rfl rfl (q_field_ptr G rfl rfl rfl rfl) (WL_cons rfl (WX_q rfl rfl (q_field_ptr G rfl rfl rfl rfl) (WL_cons rfl (WX_q rfl rfl (q_lst (q_load_box G rfl rfl rfl rfl rfl rfl rfl)) (WL_cons rfl (?_))))))))
      refine WX_call 2 rfl rfl rfl (ArgsOK.of rfl) (c_spec_l8Active x.qu.sl hSl) rfl rfl ?_
      refine WL_cons rfl (WX_q rfl rfl (q_assign rfl rfl) (?_))
      refine WL_nil (hK6 _ ?_)
      clear hK6 K6
      refine W_seq (fun K7 hK7 => ?_)
      refine W_seq (fun K8 hK8 => ?_)
      refine W_region (WL_cons rfl (WX_q rfl rfl (q_assign rfl rfl) (?_)))
      refine WL_nil (hK8 _ ?_)
      clear hK8 K8
      refine W_block ?_
      refine W_loopK [1, 3] [0, 1] (fun (i : Nat) => [(4, .v (.int .i64 (i : Int)))]) (fun (i : Nat) => []) (fun (i : Nat) => i ≤ x.st.length ∧ StP x.qu.sl x.st i) (fun (i : Nat) => x.st.length - i) 0 rfl rfl ?_ ?_ ?_ ?_
      · exact ⟨Nat.zero_le _, stP_0⟩
      · exact ⟨⟨_, rfl, by (first | rfl | (simp; done) | (simp; omega))⟩, rfl, trivial⟩
      · exact trivial
      · intro i hinv
        have hti : 0 < i → ((i : Int) - 1).toNat = i - 1 := fun _ => (by omega)
        simp only [List.cons_append, List.nil_append]
        refine W_seq (fun K9 hK9 => ?_)
        refine W_seq (fun K10 hK10 => ?_)
        refine W_region (WL_cons rfl (WX_q rfl rfl (q_move rfl rfl) (WL_cons rfl (WX_q rfl rfl (q_field_ptr G rfl rfl rfl rfl) (WL_cons rfl (WX_q rfl rfl (q_lst (q_load_box G rfl rfl rfl rfl rfl rfl rfl)) (WL_cons rfl (?_))))))))
        first | refine WX_q rfl rfl (q_len' G rfl rfl rfl rfl (List.length_map _)) ?_ | refine WX_q rfl rfl (q_len G rfl rfl rfl rfl) ?_
        refine WL_cons rfl (WX_q rfl rfl (q_cmp rfl rfl rfl rfl) (?_))
        refine WL_nil (hK10 _ ?_)
        clear hK10 K10
        refine W_cond rfl (fun h3 => ?_) (fun h3 => ?_)
        · try rw [h3]
          try simp only [rfb] at h3
          refine W_skip (hK9 _ ?_)
          clear hK9 K9
          refine W_seq (fun K11 hK11 => ?_)
          refine W_block ?_
          refine W_seq (fun K12 hK12 => ?_)
          refine W_seq (fun K13 hK13 => ?_)
          refine W_draws mixed (by kernel_rfl) (QL_cons rfl (QX_q rfl rfl (q_move rfl rfl) (QL_cons rfl (QX_q rfl rfl (q_field_ptr G rfl rfl rfl rfl) (QL_cons rfl (QX_q rfl rfl (q_lst (q_load_box G rfl rfl rfl rfl rfl rfl rfl)) (QL_cons rfl (QX_q rfl rfl (q_move rfl rfl) (QL_cons rfl (?_))))))))))
          first | refine QX_q rfl rfl (q_index_lst G rfl rfl rfl rfl (by omega) (getN (by omega))) ?_ | refine QX_q rfl rfl (q_index_lst G rfl rfl rfl rfl (by omega) (getNI (by omega) (by omega))) ?_ | refine QX_q rfl rfl (q_index_lst G rfl rfl rfl rfl (by omega) (getM (by omega) (by omega))) ?_
          refine QL_cons rfl (QX_q rfl rfl (q_load_ept G rfl rfl rfl rfl rfl) (QL_cons rfl (?_)))
          refine QX_q rfl rfl (q_call rfl (by first | exact ArgsOK.of rfl | exact ArgsOK.of (congrArg some (congrArg (fun z => [AV.lst 1 z, .v (.int .i64 (x.st.getD i default))]) (cut_take (xs := x.st) (i := i))))) (c_spec_l1Has (actS x.qu.sl 4) _ (by have := @actS_len x.qu.sl 4; have := @actN_len x.qu.sl 4; omega)) rfl) ?_
          refine QL_cons rfl (QX_q rfl rfl (q_not rfl rfl) (QL_cons rfl (QX_q rfl rfl (q_move rfl rfl) (QL_part rfl rfl rfl (fun h4 => ?_) (fun h4 => ?_)))))
          · try rw [h4]
            try simp only [rfb] at h4
            refine QL_skip rfl rfl rfl rfl rfl rfl (QL_skip rfl rfl rfl rfl rfl rfl (QL_skip rfl rfl rfl rfl rfl rfl (QL_skip rfl rfl rfl rfl rfl rfl (QL_skip rfl rfl rfl rfl rfl rfl (QL_skip rfl rfl rfl rfl rfl rfl (QL_skip rfl rfl rfl rfl rfl rfl (QL_skip rfl rfl rfl rfl rfl rfl (QL_skip rfl rfl rfl rfl rfl rfl (QL_skip rfl rfl rfl rfl rfl rfl (QL_cons rfl (QX_q rfl rfl (q_pick_t rfl rfl rfl) (?_))))))))))))
            refine QL_nil (hK13 _ ?_)
            clear hK13 K13
            refine W_true rfl ?_
            refine W_seq (fun K14 hK14 => ?_)
            refine W_region (WL_cons rfl (WX_q rfl rfl (q_assign rfl rfl) (?_)))
            refine WL_nil (hK14 _ ?_)
            clear hK14 K14
            refine W_ret (fin_one rfl (rc_v ?_))
            all_goals clear hK12 K12 hK11 K11 hK7 K7
            all_goals (first | (exact congrArg Value.bool (okIf_m h1).symm) | (exact congrArg Value.bool (okIf_q h2).symm) | (exact congrArg Value.bool (okIf_s (okSt_in (i := i) (by omega) (fun g => hasI_nf.mp h4 ((actS_mem 4).mpr g)))).symm) | (obtain ⟨k, hk, e⟩ := (mem_take (by omega)).mp (hasI_iff.mp h5); (exact congrArg Value.bool (okIf_s (okSt_dup hSl hk (by omega) e)).symm)) | (exact congrArg Value.bool (okIf_s (okSt_l (i := i) (lvD_f (by omega) (by rw [← hti (by omega)]; omega)) (by omega))).symm) | (have e : i = x.st.length := (by omega); subst e; rw [okIf_e h1 h2, hinv.2.fin hSl, beqN, actS_len]; done))
          · try rw [h4]
            try simp only [rfb] at h4
            have hm := (actS_mem 4).mp (hasI_iff.mp h4)
            refine QL_run rfl rfl rfl (QX_q rfl rfl (q_field_ptr G rfl rfl rfl rfl) (QL_run rfl rfl rfl (QX_q rfl rfl (q_lst (q_load_box G rfl rfl rfl rfl rfl rfl rfl)) (QL_run rfl rfl rfl (QX_q rfl rfl (q_move rfl rfl) (QL_run rfl rfl rfl (?_)))))))
            first | refine QX_q rfl rfl (q_cut_lst G rfl rfl rfl rfl rfl (by omega) (by omega) (by omega)) ?_ | refine QX_q rfl rfl (q_cut_lst G rfl rfl rfl rfl rfl (by omega) (by first | (simp; done) | (simp; omega)) (by first | (simp; done) | (simp; omega))) ?_
            refine QL_run rfl rfl rfl (QX_q rfl rfl (q_field_ptr G rfl rfl rfl rfl) (QL_run rfl rfl rfl (QX_q rfl rfl (q_lst (q_load_box G rfl rfl rfl rfl rfl rfl rfl)) (QL_run rfl rfl rfl (QX_q rfl rfl (q_move rfl rfl) (QL_run rfl rfl rfl (?_)))))))
            first | refine QX_q rfl rfl (q_index_lst G rfl rfl rfl rfl (by omega) (getN (by omega))) ?_ | refine QX_q rfl rfl (q_index_lst G rfl rfl rfl rfl (by omega) (getNI (by omega) (by omega))) ?_ | refine QX_q rfl rfl (q_index_lst G rfl rfl rfl rfl (by omega) (getM (by omega) (by omega))) ?_
            refine QL_run rfl rfl rfl (QX_q rfl rfl (q_load_ept G rfl rfl rfl rfl rfl) (QL_run rfl rfl rfl (?_)))
            refine QX_q rfl rfl (q_call rfl (by first | exact ArgsOK.of rfl | exact ArgsOK.of (congrArg some (congrArg (fun z => [AV.lst 1 z, .v (.int .i64 (x.st.getD i default))]) (cut_take (xs := x.st) (i := i))))) (c_spec_l1Has (x.st.take i) _ (by rw [List.length_take]; omega)) rfl) ?_
            refine QL_cons rfl (QX_q rfl rfl (q_pick_f rfl rfl rfl) (?_))
            refine QL_nil (hK13 _ ?_)
            clear hK13 K13
            refine W_cond rfl (fun h5 => ?_) (fun h5 => ?_)
            · try rw [h5]
              try simp only [rfb] at h5
              refine W_seq (fun K15 hK15 => ?_)
              refine W_region (WL_cons rfl (WX_q rfl rfl (q_assign rfl rfl) (?_)))
              refine WL_nil (hK15 _ ?_)
              clear hK15 K15
              refine W_ret (fin_one rfl (rc_v ?_))
              all_goals clear hK12 K12 hK11 K11 hK7 K7
              all_goals (first | (exact congrArg Value.bool (okIf_m h1).symm) | (exact congrArg Value.bool (okIf_q h2).symm) | (exact congrArg Value.bool (okIf_s (okSt_in (i := i) (by omega) (fun g => hasI_nf.mp h4 ((actS_mem 4).mpr g)))).symm) | (obtain ⟨k, hk, e⟩ := (mem_take (by omega)).mp (hasI_iff.mp h5); (exact congrArg Value.bool (okIf_s (okSt_dup hSl hk (by omega) e)).symm)) | (exact congrArg Value.bool (okIf_s (okSt_l (i := i) (lvD_f (by omega) (by rw [← hti (by omega)]; omega)) (by omega))).symm) | (have e : i = x.st.length := (by omega); subst e; rw [okIf_e h1 h2, hinv.2.fin hSl, beqN, actS_len]; done))
            · try rw [h5]
              try simp only [rfb] at h5
              refine W_skip (hK12 _ ?_)
              clear hK12 K12
              refine W_seq (fun K16 hK16 => ?_)
              refine W_draws mixed (by kernel_rfl) (QL_cons rfl (QX_q rfl rfl (q_move rfl rfl) (QL_cons rfl (QX_q rfl rfl (q_cmp rfl rfl rfl rfl) (QL_cons rfl (QX_q rfl rfl (q_move rfl rfl) (QL_part rfl rfl rfl (fun h6 => ?_) (fun h6 => ?_))))))))
              · try rw [h6]
                try simp only [rfb] at h6
                have hl1 := act_in (hinv.2.inn (i - 1) (by omega)) hl4
                have hl2 := act_in hm hl4
                refine QL_run rfl rfl rfl (QX_q rfl rfl (q_field_ptr G rfl rfl rfl rfl) (QL_run rfl rfl rfl (QX_q rfl rfl (q_load_box_struct G rfl rfl rfl rfl rfl rfl) (QL_run rfl rfl rfl (QX_q rfl rfl (q_field_ptr G rfl rfl rfl rfl) (QL_run rfl rfl rfl (QX_q rfl rfl (q_lst (q_load_box G rfl rfl rfl rfl rfl rfl rfl)) (QL_run rfl rfl rfl (QX_q rfl rfl (q_move rfl rfl) (QL_run rfl rfl rfl (?_)))))))))))
                first | refine QX_q rfl rfl (q_arith rfl rfl rfl rfl (by omega) (by omega)) ?_ | refine QX_q rfl rfl (q_wrap rfl rfl rfl rfl) ?_
                refine QL_run rfl rfl rfl (?_)
                first | refine QX_q rfl rfl (q_index_lst G rfl rfl rfl rfl (by omega) (getN (by omega))) ?_ | refine QX_q rfl rfl (q_index_lst G rfl rfl rfl rfl (by omega) (getNI (by omega) (by omega))) ?_ | refine QX_q rfl rfl (q_index_lst G rfl rfl rfl rfl (by omega) (getM (by omega) (by omega))) ?_
                refine QL_run rfl rfl rfl (QX_q rfl rfl (q_load_ept G rfl rfl rfl rfl rfl) (QL_run rfl rfl rfl (?_)))
                refine QX_q rfl rfl (q_call rfl (ArgsOK.of rfl) (c_spec_l10Level x.qu _ hl (by rw [hti (by omega)]; exact hl1)) rfl) ?_
                refine QL_run rfl rfl rfl (QX_q rfl rfl (q_field_ptr G rfl rfl rfl rfl) (QL_run rfl rfl rfl (QX_q rfl rfl (q_load_box_struct G rfl rfl rfl rfl rfl rfl) (QL_run rfl rfl rfl (QX_q rfl rfl (q_field_ptr G rfl rfl rfl rfl) (QL_run rfl rfl rfl (QX_q rfl rfl (q_lst (q_load_box G rfl rfl rfl rfl rfl rfl rfl)) (QL_run rfl rfl rfl (QX_q rfl rfl (q_move rfl rfl) (QL_run rfl rfl rfl (?_)))))))))))
                first | refine QX_q rfl rfl (q_index_lst G rfl rfl rfl rfl (by omega) (getN (by omega))) ?_ | refine QX_q rfl rfl (q_index_lst G rfl rfl rfl rfl (by omega) (getNI (by omega) (by omega))) ?_ | refine QX_q rfl rfl (q_index_lst G rfl rfl rfl rfl (by omega) (getM (by omega) (by omega))) ?_
                refine QL_run rfl rfl rfl (QX_q rfl rfl (q_load_ept G rfl rfl rfl rfl rfl) (QL_run rfl rfl rfl (?_)))
                refine QX_q rfl rfl (q_call rfl (ArgsOK.of rfl) (c_spec_l10Level x.qu _ hl hl2) rfl) ?_
                refine QL_run rfl rfl rfl (QX_q rfl rfl (q_cmp rfl rfl rfl rfl) (QL_cons rfl (QX_q rfl rfl (q_pick_t rfl rfl rfl) (?_))))
                refine QL_nil (hK16 _ ?_)
                clear hK16 K16
                refine W_cond rfl (fun h7 => ?_) (fun h7 => ?_)
                · try rw [h7]
                  try simp only [rfb] at h7
                  refine W_seq (fun K17 hK17 => ?_)
                  refine W_region (WL_cons rfl (WX_q rfl rfl (q_assign rfl rfl) (?_)))
                  refine WL_nil (hK17 _ ?_)
                  clear hK17 K17
                  refine W_ret (fin_one rfl (rc_v ?_))
                  all_goals clear hK11 K11 hK7 K7
                  all_goals (first | (exact congrArg Value.bool (okIf_m h1).symm) | (exact congrArg Value.bool (okIf_q h2).symm) | (exact congrArg Value.bool (okIf_s (okSt_in (i := i) (by omega) (fun g => hasI_nf.mp h4 ((actS_mem 4).mpr g)))).symm) | (obtain ⟨k, hk, e⟩ := (mem_take (by omega)).mp (hasI_iff.mp h5); (exact congrArg Value.bool (okIf_s (okSt_dup hSl hk (by omega) e)).symm)) | (exact congrArg Value.bool (okIf_s (okSt_l (i := i) (lvD_f (by omega) (by rw [← hti (by omega)]; omega)) (by omega))).symm) | (have e : i = x.st.length := (by omega); subst e; rw [okIf_e h1 h2, hinv.2.fin hSl, beqN, actS_len]; done))
                · try rw [h7]
                  try simp only [rfb] at h7
                  refine W_skip (hK11 _ ?_)
                  clear hK11 K11
                  refine W_region (WL_cons rfl (WX_q rfl rfl (q_move rfl rfl) (WL_cons rfl (?_))))
                  first | refine WX_q rfl rfl (q_arith rfl rfl rfl rfl (by omega) (by omega)) ?_ | refine WX_q rfl rfl (q_wrap rfl rfl rfl rfl) ?_
                  refine WL_cons rfl (WX_q rfl rfl (q_assign rfl rfl) (?_))
                  refine WL_nil ⟨(i + 1), ?_, ?_, ⟨⟨_, rfl, by rfl⟩, rfl, trivial⟩, trivial, rfl, rfl, rfl⟩
                  · exact ⟨by omega, hinv.2.succ hm (fun k hk e => (hasI_nf.mp h5) ((mem_take (by omega)).mpr ⟨k, hk, e⟩)) (by first | exact lvD_t (by rw [← hti (by omega)]; omega) | (obtain rfl : i = 0 := (by omega); exact lvD_0))⟩
                  · omega
              · try rw [h6]
                try simp only [rfb] at h6
                refine QL_skip rfl rfl rfl rfl rfl rfl (QL_skip rfl rfl rfl rfl rfl rfl (QL_skip rfl rfl rfl rfl rfl rfl (QL_skip rfl rfl rfl rfl rfl rfl (QL_skip rfl rfl rfl rfl rfl rfl (QL_skip rfl rfl rfl rfl rfl rfl (QL_skip rfl rfl rfl rfl rfl rfl (QL_skip rfl rfl rfl rfl rfl rfl (QL_skip rfl rfl rfl rfl rfl rfl (QL_skip rfl rfl rfl rfl rfl rfl (QL_skip rfl rfl rfl rfl rfl rfl (QL_skip rfl rfl rfl rfl rfl rfl (QL_skip rfl rfl rfl rfl rfl rfl (QL_skip rfl rfl rfl rfl rfl rfl (QL_skip rfl rfl rfl rfl rfl rfl (QL_skip rfl rfl rfl rfl rfl rfl (QL_skip rfl rfl rfl rfl rfl rfl (QL_skip rfl rfl rfl rfl rfl rfl (QL_cons rfl (QX_q rfl rfl (q_pick_f rfl rfl rfl) (?_))))))))))))))))))))
                refine QL_nil (hK16 _ ?_)
                clear hK16 K16
                refine W_false rfl ?_
                refine W_skip (hK11 _ ?_)
                clear hK11 K11
                refine W_region (WL_cons rfl (WX_q rfl rfl (q_move rfl rfl) (WL_cons rfl (?_))))
                first | refine WX_q rfl rfl (q_arith rfl rfl rfl rfl (by omega) (by omega)) ?_ | refine WX_q rfl rfl (q_wrap rfl rfl rfl rfl) ?_
                refine WL_cons rfl (WX_q rfl rfl (q_assign rfl rfl) (?_))
                refine WL_nil ⟨(i + 1), ?_, ?_, ⟨⟨_, rfl, by rfl⟩, rfl, trivial⟩, trivial, rfl, rfl, rfl⟩
                · exact ⟨by omega, hinv.2.succ hm (fun k hk e => (hasI_nf.mp h5) ((mem_take (by omega)).mpr ⟨k, hk, e⟩)) (by first | exact lvD_t (by rw [← hti (by omega)]; omega) | (obtain rfl : i = 0 := (by omega); exact lvD_0))⟩
                · omega
        · try rw [h3]
          try simp only [rfb] at h3
          refine W_exit (hK7 _ ?_)
          clear hK9 K9 hK7 K7
          refine W_seq (fun K18 hK18 => ?_)
          refine W_region (WL_cons rfl (WX_q rfl rfl (q_field_ptr G rfl rfl rfl rfl) (WL_cons rfl (WX_q rfl rfl (q_lst (q_load_box G rfl rfl rfl rfl rfl rfl rfl)) (WL_cons rfl (?_))))))
          first | refine WX_q rfl rfl (q_len' G rfl rfl rfl rfl (List.length_map _)) ?_ | refine WX_q rfl rfl (q_len G rfl rfl rfl rfl) ?_
          refine WL_cons rfl (WX_q rfl rfl (q_move rfl rfl) (WL_cons rfl (?_)))
          first | refine WX_q rfl rfl (q_len' G rfl rfl rfl rfl (List.length_map _)) ?_ | refine WX_q rfl rfl (q_len G rfl rfl rfl rfl) ?_
          refine WL_cons rfl (WX_q rfl rfl (q_cmp rfl rfl rfl rfl) (WL_cons rfl (WX_q rfl rfl (q_assign rfl rfl) (?_))))
          refine WL_nil (hK18 _ ?_)
          clear hK18 K18
          refine W_ret (fin_one rfl (rc_v ?_))
          all_goals (first | (exact congrArg Value.bool (okIf_m h1).symm) | (exact congrArg Value.bool (okIf_q h2).symm) | (exact congrArg Value.bool (okIf_s (okSt_in (i := i) (by omega) (fun g => hasI_nf.mp h4 ((actS_mem 4).mpr g)))).symm) | (obtain ⟨k, hk, e⟩ := (mem_take (by omega)).mp (hasI_iff.mp h5); (exact congrArg Value.bool (okIf_s (okSt_dup hSl hk (by omega) e)).symm)) | (exact congrArg Value.bool (okIf_s (okSt_l (i := i) (lvD_f (by omega) (by rw [← hti (by omega)]; omega)) (by omega))).symm) | (have e : i = x.st.length := (by omega); subst e; rw [okIf_e h1 h2, hinv.2.fin hSl, beqN, actS_len]; done))

theorem c_spec_l21Queue (rs : List Route) (q : Que) (k : Nat) (hr8 : rs.length = 8) (hF : QF q) (hk : k ≤ 8) : Ctr Tryz.prog 47 [.lst 2 (rs.map encRo), .agg [.lst 3 (q.sl.map encSl), .lst 2 (q.wa.map encWa)], .v (.int .i64 (k : Int))] (.one (.v (.bool (okRq rs q k)))) := by
  have hl4 := hF.sl.len
  have hwn := hF.wn8
  refine Ctr.of (n := 83) G Tryz.func47 rfl (by kernel_rfl) rfl rfl rfl (fun w0 => ?_)
  refine W_pinS 1 rfl (fun _ => rfl) (fun u1 => ?_)
  refine W_seq (fun K1 hK1 => ?_)
  refine W_region (WL_cons rfl (WX_box 1 rfl rfl rfl rfl rfl rfl rfl (WL_cons rfl (WX_q rfl rfl (q_assign rfl rfl) (?_)))))
  refine WL_nil (hK1 _ ?_)
  clear hK1 K1
  refine W_seq (fun K2 hK2 => ?_)
  refine W_seq (fun K3 hK3 => ?_)
  refine W_region (WL_cons rfl (WX_q rfl rfl (q_assign rfl rfl) (?_)))
  refine WL_nil (hK3 _ ?_)
  clear hK3 K3
  refine W_block ?_
  refine W_loopK [0, 2, 4] [0] (fun (i : Nat) => [(7, .v (.int .i64 (i : Int)))]) (fun (i : Nat) => []) (fun (i : Nat) => i ≤ 4 ∧ ∀ t, t < i → rtS rs k (q.sl.getD t default) = true) (fun (i : Nat) => 4 - i) 0 rfl rfl ?_ ?_ ?_ ?_
  · exact ⟨Nat.zero_le _, fun j hj => by omega⟩
  · exact ⟨⟨_, rfl, by (first | rfl | (simp; done) | (simp; omega))⟩, rfl, trivial⟩
  · exact trivial
  · intro i hi
    simp only [List.cons_append, List.nil_append]
    refine W_seq (fun K4 hK4 => ?_)
    refine W_seq (fun K5 hK5 => ?_)
    refine W_region (WL_cons rfl (WX_q rfl rfl (q_move rfl rfl) (WL_cons rfl (WX_q rfl rfl (q_field_ptr G rfl rfl rfl rfl) (WL_cons rfl (WX_q rfl rfl (q_lst (q_load_box G rfl rfl rfl rfl rfl rfl rfl)) (WL_cons rfl (?_))))))))
    first | refine WX_q rfl rfl (q_len' G rfl rfl rfl rfl (List.length_map _)) ?_ | refine WX_q rfl rfl (q_len G rfl rfl rfl rfl) ?_
    refine WL_cons rfl (WX_q rfl rfl (q_cmp rfl rfl rfl rfl) (?_))
    refine WL_nil (hK5 _ ?_)
    clear hK5 K5
    refine W_cond rfl (fun h1 => ?_) (fun h1 => ?_)
    · try rw [h1]
      try simp only [rfb] at h1
      refine W_skip (hK4 _ ?_)
      clear hK4 K4
      refine W_seq (fun K6 hK6 => ?_)
      refine W_block ?_
      refine W_seq (fun K7 hK7 => ?_)
      refine W_region (WL_cons rfl (WX_q rfl rfl (q_field_ptr G rfl rfl rfl rfl) (WL_cons rfl (WX_q rfl rfl (q_lst (q_load_box G rfl rfl rfl rfl rfl rfl rfl)) (WL_cons rfl (WX_q rfl rfl (q_move rfl rfl) (WL_cons rfl (?_))))))))
      first | refine WX_q rfl rfl (q_index_lst G rfl rfl rfl rfl (by omega) (getN (by omega))) ?_ | refine WX_q rfl rfl (q_index_lst G rfl rfl rfl rfl (by omega) (getNI (by omega) (by omega))) ?_ | refine WX_q rfl rfl (q_index_lst G rfl rfl rfl rfl (by omega) (getM (by omega) (by omega))) ?_
      refine WL_cons rfl (WX_q rfl rfl (q_load_ept_struct G rfl rfl rfl rfl) (WL_cons rfl (WX_alloc_s G 2 rfl rfl rfl rfl rfl (WL_cons rfl (WX_store G rfl rfl rfl rfl rfl rfl rfl rfl rfl rfl rfl (?_))))))
      refine WL_nil (hK7 _ ?_)
      clear hK7 K7
      refine W_seq (fun K8 hK8 => ?_)
      refine W_draws mixed (by kernel_rfl) (QL_cons rfl (QX_q rfl rfl (q_field_ptr G rfl rfl rfl rfl) (QL_cons rfl (QX_q rfl rfl (q_load_box G rfl rfl rfl rfl rfl rfl rfl) (QL_cons rfl (QX_q rfl rfl (q_cmp rfl rfl rfl rfl) (QL_cons rfl (QX_q rfl rfl (q_move rfl rfl) (QL_part rfl rfl rfl (fun h2 => ?_) (fun h2 => ?_))))))))))
      · try rw [h2]
        try simp only [rfb] at h2
        refine QL_skip rfl rfl rfl rfl rfl rfl (QL_skip rfl rfl rfl rfl rfl rfl (QL_skip rfl rfl rfl rfl rfl rfl (QL_skip rfl rfl rfl rfl rfl rfl (QL_skip_u rfl rfl rfl rfl rfl (QL_skip_u rfl rfl rfl rfl rfl (QL_skip_u rfl rfl rfl rfl rfl (QL_skip_u rfl rfl rfl rfl rfl (QL_skip_u rfl rfl rfl rfl rfl (QL_skip_u rfl rfl rfl rfl rfl (QL_skip_u rfl rfl rfl rfl rfl (QL_skip_u rfl rfl rfl rfl rfl (QL_skip_u rfl rfl rfl rfl rfl (QL_skip_u rfl rfl rfl rfl rfl (QL_skip_u rfl rfl rfl rfl rfl (QL_skip_u rfl rfl rfl rfl rfl (QL_skip_u rfl rfl rfl rfl rfl (QL_skip_u rfl rfl rfl rfl rfl (QL_skip_u rfl rfl rfl rfl rfl (QL_skip_u rfl rfl rfl rfl rfl (QL_skip_u rfl rfl rfl rfl rfl (QL_skip_u rfl rfl rfl rfl rfl (QL_skip_u rfl rfl rfl rfl rfl (QL_skip rfl rfl rfl rfl rfl rfl (QL_cons rfl (QX_q rfl rfl (q_pick_t rfl rfl rfl) (?_))))))))))))))))))))))))))
        refine QL_nil (hK8 _ ?_)
        clear hK8 K8
        refine W_true rfl ?_
        refine W_seq (fun K9 hK9 => ?_)
        refine W_region (WL_cons rfl (WX_q rfl rfl (q_assign rfl rfl) (?_)))
        refine WL_nil (hK9 _ ?_)
        clear hK9 K9
        refine W_ret (fin_one rfl (rc_v ?_))
        all_goals clear hK6 K6 hK2 K2
        all_goals (first | (exact congrArg Value.bool (okRq_t hi.2 (by omega) hj.2 (by omega)).symm) | (exact congrArg Value.bool (okRq_s (i := i) (rtS_nf.mpr (fun g => by first | exact g.1 (by assumption) | (rcases g.2 with g2 | ⟨g2, g3⟩ <;> first | (exact absurd g2 (by assumption)) | (exact absurd g3 (by assumption))))) (by omega)).symm) | (exact congrArg Value.bool (okRq_w (i := j) (rtW_nf.mpr (fun g => by first | exact absurd g.1 (by assumption) | exact absurd g.2 (by assumption))) (by omega)).symm))
      · try rw [h2]
        try simp only [rfb] at h2
        have hb0 := hF.sl.ok i (by omega)
        refine QL_run rfl rfl rfl (QX_q rfl rfl (q_field_ptr G rfl rfl rfl rfl) (QL_run rfl rfl rfl (QX_q rfl rfl (q_load_box G rfl rfl rfl rfl rfl rfl rfl) (QL_run rfl rfl rfl (QX_q rfl rfl (q_cmp rfl rfl rfl rfl) (QL_run rfl rfl rfl (QX_q rfl rfl (q_move rfl rfl) (QL_part rfl rfl rfl (fun h3 => ?_) (fun h3 => ?_)))))))))
        · try rw [h3]
          try simp only [rfb] at h3
          have hb := (hF.sl.ok i (by omega) h3).2.1
          refine QL_run rfl rfl rfl (QX_q rfl rfl (q_move rfl rfl) (QL_run rfl rfl rfl (QX_q rfl rfl (q_field_ptr G rfl rfl rfl rfl) (QL_run rfl rfl rfl (QX_q rfl rfl (q_load_box G rfl rfl rfl rfl rfl rfl rfl) (QL_run rfl rfl rfl (?_)))))))
          first | refine QX_q rfl rfl (q_index_lst G rfl rfl rfl rfl (by omega) (getN (by omega))) ?_ | refine QX_q rfl rfl (q_index_lst G rfl rfl rfl rfl (by omega) (getNI (by omega) (by omega))) ?_ | refine QX_q rfl rfl (q_index_lst G rfl rfl rfl rfl (by omega) (getM (by omega) (by omega))) ?_
          refine QL_run rfl rfl rfl (QX_q rfl rfl (q_field_ept G rfl rfl rfl rfl) (QL_run rfl rfl rfl (QX_q rfl rfl (q_load_ept G rfl rfl rfl rfl rfl) (QL_run rfl rfl rfl (QX_q rfl rfl (q_move rfl rfl) (QL_run rfl rfl rfl (QX_q rfl rfl (q_cmp rfl rfl rfl rfl) (QL_run rfl rfl rfl (QX_q rfl rfl (q_move rfl rfl) (QL_part rfl rfl rfl (fun h4 => ?_) (fun h4 => ?_)))))))))))
          · try rw [h4]
            try simp only [rfb] at h4
            refine QL_skip rfl rfl rfl rfl rfl rfl (QL_skip rfl rfl rfl rfl rfl rfl (QL_skip rfl rfl rfl rfl rfl rfl (QL_skip rfl rfl rfl rfl rfl rfl (QL_skip rfl rfl rfl rfl rfl rfl (QL_skip rfl rfl rfl rfl rfl rfl (QL_skip rfl rfl rfl rfl rfl rfl (QL_skip rfl rfl rfl rfl rfl rfl (QL_skip rfl rfl rfl rfl rfl rfl (QL_run rfl rfl rfl (QX_q rfl rfl (q_pick_t rfl rfl rfl) (QL_run rfl rfl rfl (QX_q rfl rfl (q_pick_t rfl rfl rfl) (QL_cons rfl (QX_q rfl rfl (q_pick_f rfl rfl rfl) (?_)))))))))))))))
            refine QL_nil (hK8 _ ?_)
            clear hK8 K8
            refine W_true rfl ?_
            refine W_seq (fun K10 hK10 => ?_)
            refine W_region (WL_cons rfl (WX_q rfl rfl (q_assign rfl rfl) (?_)))
            refine WL_nil (hK10 _ ?_)
            clear hK10 K10
            refine W_ret (fin_one rfl (rc_v ?_))
            all_goals clear hK6 K6 hK2 K2
            all_goals (first | (exact congrArg Value.bool (okRq_t hi.2 (by omega) hj.2 (by omega)).symm) | (exact congrArg Value.bool (okRq_s (i := i) (rtS_nf.mpr (fun g => by first | exact g.1 (by assumption) | (rcases g.2 with g2 | ⟨g2, g3⟩ <;> first | (exact absurd g2 (by assumption)) | (exact absurd g3 (by assumption))))) (by omega)).symm) | (exact congrArg Value.bool (okRq_w (i := j) (rtW_nf.mpr (fun g => by first | exact absurd g.1 (by assumption) | exact absurd g.2 (by assumption))) (by omega)).symm))
          · try rw [h4]
            try simp only [rfb] at h4
            refine QL_run rfl rfl rfl (QX_q rfl rfl (q_move rfl rfl) (QL_run rfl rfl rfl (QX_q rfl rfl (q_field_ptr G rfl rfl rfl rfl) (QL_run rfl rfl rfl (QX_q rfl rfl (q_load_box G rfl rfl rfl rfl rfl rfl rfl) (QL_run rfl rfl rfl (?_)))))))
            first | refine QX_q rfl rfl (q_index_lst G rfl rfl rfl rfl (by omega) (getN (by omega))) ?_ | refine QX_q rfl rfl (q_index_lst G rfl rfl rfl rfl (by omega) (getNI (by omega) (by omega))) ?_ | refine QX_q rfl rfl (q_index_lst G rfl rfl rfl rfl (by omega) (getM (by omega) (by omega))) ?_
            refine QL_run rfl rfl rfl (QX_q rfl rfl (q_field_ept G rfl rfl rfl rfl) (QL_run rfl rfl rfl (QX_q rfl rfl (q_load_ept G rfl rfl rfl rfl rfl) (QL_run rfl rfl rfl (QX_q rfl rfl (q_field_ptr G rfl rfl rfl rfl) (QL_run rfl rfl rfl (QX_q rfl rfl (q_load_box G rfl rfl rfl rfl rfl rfl rfl) (QL_run rfl rfl rfl (QX_q rfl rfl (q_cmp rfl rfl rfl rfl) (QL_run rfl rfl rfl (QX_q rfl rfl (q_pick_f rfl rfl rfl) (QL_run rfl rfl rfl (QX_q rfl rfl (q_pick_t rfl rfl rfl) (QL_cons rfl (QX_q rfl rfl (q_pick_f rfl rfl rfl) (?_))))))))))))))))
            refine QL_nil (hK8 _ ?_)
            clear hK8 K8
            refine W_cond rfl (fun h5 => ?_) (fun h5 => ?_)
            · try rw [h5]
              try simp only [rfb] at h5
              refine W_seq (fun K11 hK11 => ?_)
              refine W_region (WL_cons rfl (WX_q rfl rfl (q_assign rfl rfl) (?_)))
              refine WL_nil (hK11 _ ?_)
              clear hK11 K11
              refine W_ret (fin_one rfl (rc_v ?_))
              all_goals clear hK6 K6 hK2 K2
              all_goals (first | (exact congrArg Value.bool (okRq_t hi.2 (by omega) hj.2 (by omega)).symm) | (exact congrArg Value.bool (okRq_s (i := i) (rtS_nf.mpr (fun g => by first | exact g.1 (by assumption) | (rcases g.2 with g2 | ⟨g2, g3⟩ <;> first | (exact absurd g2 (by assumption)) | (exact absurd g3 (by assumption))))) (by omega)).symm) | (exact congrArg Value.bool (okRq_w (i := j) (rtW_nf.mpr (fun g => by first | exact absurd g.1 (by assumption) | exact absurd g.2 (by assumption))) (by omega)).symm))
            · try rw [h5]
              try simp only [rfb] at h5
              refine W_skip (hK6 _ ?_)
              clear hK6 K6
              refine W_region (WL_cons rfl (WX_q rfl rfl (q_move rfl rfl) (WL_cons rfl (?_))))
              first | refine WX_q rfl rfl (q_arith rfl rfl rfl rfl (by omega) (by omega)) ?_ | refine WX_q rfl rfl (q_wrap rfl rfl rfl rfl) ?_
              refine WL_cons rfl (WX_q rfl rfl (q_assign rfl rfl) (?_))
              refine WL_nil ⟨(i + 1), ?_, ?_, ⟨⟨_, rfl, by rfl⟩, rfl, trivial⟩, trivial, rfl, rfl, rfl⟩
              · exact ⟨by omega, upto_succ hi.2 (rtS_iff.mpr ⟨by omega, by first | exact .inl (by omega) | exact .inr ⟨by assumption, by assumption⟩⟩)⟩
              · omega
        · try rw [h3]
          try simp only [rfb] at h3
          refine QL_skip rfl rfl rfl rfl rfl rfl (QL_skip rfl rfl rfl rfl rfl rfl (QL_skip rfl rfl rfl rfl rfl rfl (QL_skip rfl rfl rfl rfl rfl rfl (QL_skip rfl rfl rfl rfl rfl rfl (QL_skip rfl rfl rfl rfl rfl rfl (QL_skip rfl rfl rfl rfl rfl rfl (QL_skip rfl rfl rfl rfl rfl rfl (QL_skip rfl rfl rfl rfl rfl rfl (QL_skip_u rfl rfl rfl rfl rfl (QL_skip_u rfl rfl rfl rfl rfl (QL_skip_u rfl rfl rfl rfl rfl (QL_skip_u rfl rfl rfl rfl rfl (QL_skip_u rfl rfl rfl rfl rfl (QL_skip_u rfl rfl rfl rfl rfl (QL_skip_u rfl rfl rfl rfl rfl (QL_skip_u rfl rfl rfl rfl rfl (QL_skip_u rfl rfl rfl rfl rfl (QL_skip rfl rfl rfl rfl rfl rfl (QL_run rfl rfl rfl (QX_q rfl rfl (q_pick_f rfl rfl rfl) (QL_cons rfl (QX_q rfl rfl (q_pick_f rfl rfl rfl) (?_)))))))))))))))))))))))
          refine QL_nil (hK8 _ ?_)
          clear hK8 K8
          refine W_false rfl ?_
          refine W_skip (hK6 _ ?_)
          clear hK6 K6
          refine W_region (WL_cons rfl (WX_q rfl rfl (q_move rfl rfl) (WL_cons rfl (?_))))
          first | refine WX_q rfl rfl (q_arith rfl rfl rfl rfl (by omega) (by omega)) ?_ | refine WX_q rfl rfl (q_wrap rfl rfl rfl rfl) ?_
          refine WL_cons rfl (WX_q rfl rfl (q_assign rfl rfl) (?_))
          refine WL_nil ⟨(i + 1), ?_, ?_, ⟨⟨_, rfl, by rfl⟩, rfl, trivial⟩, trivial, rfl, rfl, rfl⟩
          · exact ⟨by omega, upto_succ hi.2 (rtS_iff.mpr ⟨by omega, by first | exact .inl (by omega) | exact .inr ⟨by assumption, by assumption⟩⟩)⟩
          · omega
    · try rw [h1]
      try simp only [rfb] at h1
      refine W_exit (hK2 _ ?_)
      clear hK4 K4 hK2 K2
      refine W_seq (fun K12 hK12 => ?_)
      refine W_seq (fun K13 hK13 => ?_)
      refine W_region (WL_cons rfl (WX_q rfl rfl (q_assign rfl rfl) (?_)))
      refine WL_nil (hK13 _ ?_)
      clear hK13 K13
      refine W_block ?_
      refine W_loopK [0, 2, 4] [0] (fun (j : Nat) => [(9, .v (.int .i64 (j : Int)))]) (fun (j : Nat) => []) (fun (j : Nat) => j ≤ q.wa.length ∧ ∀ t, t < j → rtW rs k (q.wa.getD t default) = true) (fun (j : Nat) => q.wa.length - j) 0 rfl rfl ?_ ?_ ?_ ?_
      · exact ⟨Nat.zero_le _, fun j hj => by omega⟩
      · exact ⟨⟨_, rfl, by (first | rfl | (simp; done) | (simp; omega))⟩, rfl, trivial⟩
      · exact trivial
      · intro j hj
        simp only [List.cons_append, List.nil_append]
        refine W_seq (fun K14 hK14 => ?_)
        refine W_seq (fun K15 hK15 => ?_)
        refine W_region (WL_cons rfl (WX_q rfl rfl (q_move rfl rfl) (WL_cons rfl (WX_q rfl rfl (q_field_ptr G rfl rfl rfl rfl) (WL_cons rfl (WX_q rfl rfl (q_lst (q_load_box G rfl rfl rfl rfl rfl rfl rfl)) (WL_cons rfl (?_))))))))
        first | refine WX_q rfl rfl (q_len' G rfl rfl rfl rfl (List.length_map _)) ?_ | refine WX_q rfl rfl (q_len G rfl rfl rfl rfl) ?_
        refine WL_cons rfl (WX_q rfl rfl (q_cmp rfl rfl rfl rfl) (?_))
        refine WL_nil (hK15 _ ?_)
        clear hK15 K15
        refine W_cond rfl (fun h6 => ?_) (fun h6 => ?_)
        · try rw [h6]
          try simp only [rfb] at h6
          have hbw := (hF.wa _ (mem_getD.mpr ⟨j, by omega, rfl⟩)).1
          refine W_skip (hK14 _ ?_)
          clear hK14 K14
          refine W_seq (fun K16 hK16 => ?_)
          refine W_block ?_
          refine W_seq (fun K17 hK17 => ?_)
          refine W_region (WL_cons rfl (WX_q rfl rfl (q_field_ptr G rfl rfl rfl rfl) (WL_cons rfl (WX_q rfl rfl (q_lst (q_load_box G rfl rfl rfl rfl rfl rfl rfl)) (WL_cons rfl (WX_q rfl rfl (q_move rfl rfl) (WL_cons rfl (?_))))))))
          first | refine WX_q rfl rfl (q_index_lst G rfl rfl rfl rfl (by omega) (getN (by omega))) ?_ | refine WX_q rfl rfl (q_index_lst G rfl rfl rfl rfl (by omega) (getNI (by omega) (by omega))) ?_ | refine WX_q rfl rfl (q_index_lst G rfl rfl rfl rfl (by omega) (getM (by omega) (by omega))) ?_
          refine WL_cons rfl (WX_q rfl rfl (q_load_ept_struct G rfl rfl rfl rfl) (WL_cons rfl (WX_alloc_s G 2 rfl rfl rfl rfl rfl (WL_cons rfl (WX_store G rfl rfl rfl rfl rfl rfl rfl rfl rfl rfl rfl (?_))))))
          refine WL_nil (hK17 _ ?_)
          clear hK17 K17
          refine W_seq (fun K18 hK18 => ?_)
          refine W_draws mixed (by kernel_rfl) (QL_cons rfl (QX_q rfl rfl (q_move rfl rfl) (QL_cons rfl (QX_q rfl rfl (q_field_ptr G rfl rfl rfl rfl) (QL_cons rfl (QX_q rfl rfl (q_load_box G rfl rfl rfl rfl rfl rfl rfl) (QL_cons rfl (?_))))))))
          first | refine QX_q rfl rfl (q_index_lst G rfl rfl rfl rfl (by omega) (getN (by omega))) ?_ | refine QX_q rfl rfl (q_index_lst G rfl rfl rfl rfl (by omega) (getNI (by omega) (by omega))) ?_ | refine QX_q rfl rfl (q_index_lst G rfl rfl rfl rfl (by omega) (getM (by omega) (by omega))) ?_
          refine QL_cons rfl (QX_q rfl rfl (q_field_ept G rfl rfl rfl rfl) (QL_cons rfl (QX_q rfl rfl (q_load_ept G rfl rfl rfl rfl rfl) (QL_cons rfl (QX_q rfl rfl (q_move rfl rfl) (QL_cons rfl (QX_q rfl rfl (q_cmp rfl rfl rfl rfl) (QL_cons rfl (QX_q rfl rfl (q_move rfl rfl) (QL_part rfl rfl rfl (fun h7 => ?_) (fun h7 => ?_)))))))))))
          · try rw [h7]
            try simp only [rfb] at h7
            refine QL_skip rfl rfl rfl rfl rfl rfl (QL_skip rfl rfl rfl rfl rfl rfl (QL_skip rfl rfl rfl rfl rfl rfl (QL_skip rfl rfl rfl rfl rfl rfl (QL_skip rfl rfl rfl rfl rfl rfl (QL_skip rfl rfl rfl rfl rfl rfl (QL_skip rfl rfl rfl rfl rfl rfl (QL_skip rfl rfl rfl rfl rfl rfl (QL_skip rfl rfl rfl rfl rfl rfl (QL_cons rfl (QX_q rfl rfl (q_pick_t rfl rfl rfl) (?_)))))))))))
            refine QL_nil (hK18 _ ?_)
            clear hK18 K18
            refine W_true rfl ?_
            refine W_seq (fun K19 hK19 => ?_)
            refine W_region (WL_cons rfl (WX_q rfl rfl (q_assign rfl rfl) (?_)))
            refine WL_nil (hK19 _ ?_)
            clear hK19 K19
            refine W_ret (fin_one rfl (rc_v ?_))
            all_goals clear hK16 K16 hK12 K12
            all_goals (first | (exact congrArg Value.bool (okRq_t hi.2 (by omega) hj.2 (by omega)).symm) | (exact congrArg Value.bool (okRq_s (i := i) (rtS_nf.mpr (fun g => by first | exact g.1 (by assumption) | (rcases g.2 with g2 | ⟨g2, g3⟩ <;> first | (exact absurd g2 (by assumption)) | (exact absurd g3 (by assumption))))) (by omega)).symm) | (exact congrArg Value.bool (okRq_w (i := j) (rtW_nf.mpr (fun g => by first | exact absurd g.1 (by assumption) | exact absurd g.2 (by assumption))) (by omega)).symm))
          · try rw [h7]
            try simp only [rfb] at h7
            refine QL_run rfl rfl rfl (QX_q rfl rfl (q_move rfl rfl) (QL_run rfl rfl rfl (QX_q rfl rfl (q_field_ptr G rfl rfl rfl rfl) (QL_run rfl rfl rfl (QX_q rfl rfl (q_load_box G rfl rfl rfl rfl rfl rfl rfl) (QL_run rfl rfl rfl (?_)))))))
            first | refine QX_q rfl rfl (q_index_lst G rfl rfl rfl rfl (by omega) (getN (by omega))) ?_ | refine QX_q rfl rfl (q_index_lst G rfl rfl rfl rfl (by omega) (getNI (by omega) (by omega))) ?_ | refine QX_q rfl rfl (q_index_lst G rfl rfl rfl rfl (by omega) (getM (by omega) (by omega))) ?_
            refine QL_run rfl rfl rfl (QX_q rfl rfl (q_field_ept G rfl rfl rfl rfl) (QL_run rfl rfl rfl (QX_q rfl rfl (q_load_ept G rfl rfl rfl rfl rfl) (QL_run rfl rfl rfl (QX_q rfl rfl (q_field_ptr G rfl rfl rfl rfl) (QL_run rfl rfl rfl (QX_q rfl rfl (q_load_box G rfl rfl rfl rfl rfl rfl rfl) (QL_run rfl rfl rfl (QX_q rfl rfl (q_cmp rfl rfl rfl rfl) (QL_cons rfl (QX_q rfl rfl (q_pick_f rfl rfl rfl) (?_))))))))))))
            refine QL_nil (hK18 _ ?_)
            clear hK18 K18
            refine W_cond rfl (fun h8 => ?_) (fun h8 => ?_)
            · try rw [h8]
              try simp only [rfb] at h8
              refine W_seq (fun K20 hK20 => ?_)
              refine W_region (WL_cons rfl (WX_q rfl rfl (q_assign rfl rfl) (?_)))
              refine WL_nil (hK20 _ ?_)
              clear hK20 K20
              refine W_ret (fin_one rfl (rc_v ?_))
              all_goals clear hK16 K16 hK12 K12
              all_goals (first | (exact congrArg Value.bool (okRq_t hi.2 (by omega) hj.2 (by omega)).symm) | (exact congrArg Value.bool (okRq_s (i := i) (rtS_nf.mpr (fun g => by first | exact g.1 (by assumption) | (rcases g.2 with g2 | ⟨g2, g3⟩ <;> first | (exact absurd g2 (by assumption)) | (exact absurd g3 (by assumption))))) (by omega)).symm) | (exact congrArg Value.bool (okRq_w (i := j) (rtW_nf.mpr (fun g => by first | exact absurd g.1 (by assumption) | exact absurd g.2 (by assumption))) (by omega)).symm))
            · try rw [h8]
              try simp only [rfb] at h8
              refine W_skip (hK16 _ ?_)
              clear hK16 K16
              refine W_region (WL_cons rfl (WX_q rfl rfl (q_move rfl rfl) (WL_cons rfl (?_))))
              first | refine WX_q rfl rfl (q_arith rfl rfl rfl rfl (by omega) (by omega)) ?_ | refine WX_q rfl rfl (q_wrap rfl rfl rfl rfl) ?_
              refine WL_cons rfl (WX_q rfl rfl (q_assign rfl rfl) (?_))
              refine WL_nil ⟨(j + 1), ?_, ?_, ⟨⟨_, rfl, by rfl⟩, rfl, trivial⟩, trivial, rfl, rfl, rfl⟩
              · exact ⟨by omega, upto_succ hj.2 (rtW_iff.mpr ⟨by assumption, by assumption⟩)⟩
              · omega
        · try rw [h6]
          try simp only [rfb] at h6
          refine W_exit (hK12 _ ?_)
          clear hK14 K14 hK12 K12
          refine W_seq (fun K21 hK21 => ?_)
          refine W_region (WL_cons rfl (WX_q rfl rfl (q_assign rfl rfl) (?_)))
          refine WL_nil (hK21 _ ?_)
          clear hK21 K21
          refine W_ret (fin_one rfl (rc_v ?_))
          all_goals (first | (exact congrArg Value.bool (okRq_t hi.2 (by omega) hj.2 (by omega)).symm) | (exact congrArg Value.bool (okRq_s (i := i) (rtS_nf.mpr (fun g => by first | exact g.1 (by assumption) | (rcases g.2 with g2 | ⟨g2, g3⟩ <;> first | (exact absurd g2 (by assumption)) | (exact absurd g3 (by assumption))))) (by omega)).symm) | (exact congrArg Value.bool (okRq_w (i := j) (rtW_nf.mpr (fun g => by first | exact absurd g.1 (by assumption) | exact absurd g.2 (by assumption))) (by omega)).symm))

end Go.Proofs.YtieidkjfeboepaaGreatDoor
