/- Walks through functions of the program, one contract each (written by gen.py). -/
import Derived.Test.YtehijimgenicfaaX2
import Derived.Test.YtehijimgenicfaaW8
set_option maxRecDepth 20000
set_option linter.unusedVariables false
set_option linter.unusedSimpArgs false
namespace Go.Proofs.Ytehijimgenicfaa
open Go Go.Rf

set_option maxHeartbeats 1600000 in
theorem c_spec_l1Cur_setting {x : Cur} {n : Int} (h : okC n x) (hn : n ≤ 900000000000) (g : Int) : CtrX (α := Setting × Cur) Try.prog 39 [.ptr 0 0, .v (.int .i64 g)] [.box [.lst 1 (x.c.map encU), .v (.int .i64 x.a), .v (.int .u64 x.s)]] (fun y => y.1.n.size ≤ 9 ∧ okC (n + 20) y.2) (fun y => .one (.v (encT y.1))) (fun y => [some (.box [.lst 1 (y.2.c.map encU), .v (.int .i64 y.2.a), .v (.int .u64 y.2.s)])]) := by
  refine CtrX.of (n := 55) (k := 1) G Try.func39 rfl (by kernel_rfl) rfl rfl rfl rfl (fun _ => rfl) rfl rfl (fun w0 _ hpin => ?_)
  refine W_seq (fun K1 hK1 => ?_)
  refine W_region (WL_cons rfl (WX_alloc_s G 2 rfl rfl rfl rfl rfl (?_)))
  refine WL_nil (hK1 _ ?_)
  clear hK1 K1
  refine W_seq (fun K2 hK2 => ?_)
  refine W_region (WL_cons rfl (WX_q rfl rfl (q_move rfl rfl) (WL_cons rfl (WX_q rfl rfl (q_move rfl rfl) (WL_cons rfl (WX_lit G 3 rfl rfl rfl rfl rfl rfl rfl rfl (WL_cons rfl (?_))))))))
  refine WX_callx 3 [0, 2] rfl rfl rfl (x_of h (by omega) [⟨#[109, 97, 105, 108]⟩, ⟨#[119, 101, 98]⟩, ⟨#[100, 98]⟩, ⟨#[97]⟩, ⟨#[108, 111, 110, 103, 110, 97, 109, 101]⟩, ⟨#[109, 97, 105, 108]⟩] (by decide)) rfl (RowsIn.cons rfl (RowsIn.cons rfl RowsIn.nil)) rfl (fun _ => rfl) rfl (fun x1 ⟨hv1, hc1⟩ => ?_)
  refine WL_cons rfl (WX_q rfl rfl (q_move rfl rfl) (WL_cons rfl (?_)))
  refine WX_callx 3 [0] rfl rfl rfl (x_pick hc1 (by omega) (4)) rfl (RowsIn.cons rfl RowsIn.nil) rfl (fun _ => rfl) rfl (fun x2 ⟨hv2, hc2⟩ => ?_)
  refine WL_cons rfl (?_)
  first | refine WX_q rfl rfl (q_arith rfl rfl rfl rfl (by omega) (by omega)) ?_ | refine WX_q rfl rfl (q_wrap rfl rfl rfl rfl) ?_
  refine WL_cons rfl (WX_q rfl rfl (q_move rfl rfl) (WL_cons rfl (WX_lit G 4 rfl rfl rfl rfl rfl rfl rfl rfl (WL_cons rfl (?_)))))
  refine WX_callx 4 [0, 3] rfl rfl rfl (x_among hc2 (by omega) [1, 2, 3, 4, 16] (1) (16) (by decide) (by decide)) rfl (RowsIn.cons rfl (RowsIn.cons rfl RowsIn.nil)) rfl (fun _ => rfl) rfl (fun x3 ⟨hv3, hc3⟩ => ?_)
  refine WL_cons rfl (WX_q rfl rfl (q_move rfl rfl) (WL_cons rfl (WX_lit G 5 rfl rfl rfl rfl rfl rfl rfl rfl (WL_cons rfl (?_)))))
  refine WX_callx 5 [0, 4] rfl rfl rfl (x_among hc3 (by omega) [1, 50, 100] (1) (100) (by decide) (by decide)) rfl (RowsIn.cons rfl (RowsIn.cons rfl RowsIn.nil)) rfl (fun _ => rfl) rfl (fun x4 ⟨hv4, hc4⟩ => ?_)
  refine WL_cons rfl (WX_q rfl rfl (q_move rfl rfl) (WL_cons rfl (?_)))
  refine WX_callx 5 [0] rfl rfl rfl (x_one hc4 (by omega) (2)) rfl (RowsIn.cons rfl RowsIn.nil) rfl (fun _ => rfl) rfl (fun x5 ⟨hv5, hc5⟩ => ?_)
  refine WL_cons rfl (WX_q rfl rfl (q_build G rfl rfl rfl rfl) (WL_cons rfl (WX_alloc_s G 6 rfl rfl rfl rfl rfl (WL_cons rfl (WX_store G rfl rfl rfl rfl rfl rfl rfl rfl rfl rfl rfl (?_))))))
  refine WL_nil (hK2 _ ?_)
  clear hK2 K2
  refine W_seq (fun K3 hK3 => ?_)
  refine W_seq (fun K4 hK4 => ?_)
  refine W_region (WL_cons rfl (WX_q rfl rfl (q_move rfl rfl) (WL_cons rfl (?_))))
  refine WX_callx 6 [0] rfl rfl rfl (x_pick hc5 (by omega) (60)) rfl (RowsIn.cons rfl RowsIn.nil) rfl (fun _ => rfl) rfl (fun x6 ⟨hv6, hc6⟩ => ?_)
  refine WL_nil (hK4 _ ?_)
  clear hK4 K4
  refine W_block ?_
  refine W_seq (fun K5 hK5 => ?_)
  refine W_region (WL_cons rfl (WX_q rfl rfl (q_cmp rfl rfl rfl rfl) (WL_cons rfl (WX_q rfl rfl (q_assign rfl rfl) (?_)))))
  refine WL_nil (hK5 _ ?_)
  clear hK5 K5
  refine W_cond rfl (fun h1 => ?_) (fun h1 => ?_)
  · try rw [h1]
    try simp only [decide_eq_true_eq, decide_eq_false_iff_not, beq_iff_eq, bne_iff_ne, ne_eq, Bool.not_eq_true', Bool.not_eq_false', beq_eq_false_iff_ne, bne_eq_false_iff_eq, Bool.not_eq_true, Bool.not_eq_false, Int.not_lt, Int.not_le, gt_iff_lt, ge_iff_le, Bool.and_eq_true, Bool.and_eq_false_iff, Bool.or_eq_true, Bool.or_eq_false_iff] at h1
    refine W_region (WL_cons rfl (WX_q rfl rfl (q_move rfl rfl) (WL_cons rfl (WX_lit G 7 rfl rfl rfl rfl rfl rfl rfl rfl (WL_cons rfl (?_))))))
    refine WX_callx 7 [0, 6] rfl rfl rfl (x_among hc6 (by omega) [0, 5] (0) (5) (by decide) (by decide)) rfl (RowsIn.cons rfl (RowsIn.cons rfl RowsIn.nil)) rfl (fun _ => rfl) rfl (fun x7 ⟨hv7, hc7⟩ => ?_)
    refine WL_cons rfl (WX_q rfl rfl (q_field_ptr G rfl rfl rfl rfl) (WL_cons rfl (WX_store G rfl rfl rfl rfl rfl rfl rfl rfl rfl rfl rfl (?_))))
    refine WL_nil (hK3 _ ?_)
    clear hK3 K3
    refine W_seq (fun K6 hK6 => ?_)
    refine W_region (WL_cons rfl (WX_q rfl rfl (q_load_box_struct G rfl rfl rfl rfl rfl rfl) (WL_cons rfl (WX_store G rfl rfl rfl rfl rfl rfl rfl rfl rfl rfl rfl (?_)))))
    refine WL_nil (hK6 _ ?_)
    clear hK6 K6
    refine W_ret (finx ((⟨_, _, _, _, _, _⟩, ⟨_, _, _⟩)) (finm_one rfl (rc_agg rfl rfl) rfl (AftOK.stays rfl rfl rfl AftOK.nil)) (⟨?_, ?_⟩))
    all_goals (try rcases x1 with ⟨_, _⟩)
    all_goals (try rcases x2 with ⟨_, _⟩)
    all_goals (try rcases x3 with ⟨_, _⟩)
    all_goals (try rcases x4 with ⟨_, _⟩)
    all_goals (try rcases x5 with ⟨_, _⟩)
    all_goals (try rcases x6 with ⟨_, _⟩)
    all_goals (try rcases x7 with ⟨_, _⟩)
    all_goals (try dsimp only at *)
    all_goals (first | exact hc7.mono (by omega) | exact of_size (by assumption) (by decide))
  · try rw [h1]
    try simp only [decide_eq_true_eq, decide_eq_false_iff_not, beq_iff_eq, bne_iff_ne, ne_eq, Bool.not_eq_true', Bool.not_eq_false', beq_eq_false_iff_ne, bne_eq_false_iff_eq, Bool.not_eq_true, Bool.not_eq_false, Int.not_lt, Int.not_le, gt_iff_lt, ge_iff_le, Bool.and_eq_true, Bool.and_eq_false_iff, Bool.or_eq_true, Bool.or_eq_false_iff] at h1
    refine W_seq (fun K7 hK7 => ?_)
    refine W_region (WL_cons rfl (WX_q rfl rfl (q_cmp rfl rfl rfl rfl) (WL_cons rfl (WX_q rfl rfl (q_assign rfl rfl) (?_)))))
    refine WL_nil (hK7 _ ?_)
    clear hK7 K7
    refine W_cond rfl (fun h2 => ?_) (fun h2 => ?_)
    · try rw [h2]
      try simp only [decide_eq_true_eq, decide_eq_false_iff_not, beq_iff_eq, bne_iff_ne, ne_eq, Bool.not_eq_true', Bool.not_eq_false', beq_eq_false_iff_ne, bne_eq_false_iff_eq, Bool.not_eq_true, Bool.not_eq_false, Int.not_lt, Int.not_le, gt_iff_lt, ge_iff_le, Bool.and_eq_true, Bool.and_eq_false_iff, Bool.or_eq_true, Bool.or_eq_false_iff] at h2
      refine W_region (WL_cons rfl (WX_q rfl rfl (q_move rfl rfl) (WL_cons rfl (WX_lit G 7 rfl rfl rfl rfl rfl rfl rfl rfl (WL_cons rfl (?_))))))
      refine WX_callx 7 [0, 6] rfl rfl rfl (x_of hc6 (by omega) [⟨#[]⟩, ⟨#[65]⟩, ⟨#[110, 105, 110, 101, 99, 104, 97, 114, 115]⟩] (by decide)) rfl (RowsIn.cons rfl (RowsIn.cons rfl RowsIn.nil)) rfl (fun _ => rfl) rfl (fun x8 ⟨hv8, hc8⟩ => ?_)
      refine WL_cons rfl (WX_q rfl rfl (q_field_ptr G rfl rfl rfl rfl) (WL_cons rfl (WX_store G rfl rfl rfl rfl rfl rfl rfl rfl rfl rfl rfl (?_))))
      refine WL_nil (hK3 _ ?_)
      clear hK3 K3
      refine W_seq (fun K8 hK8 => ?_)
      refine W_region (WL_cons rfl (WX_q rfl rfl (q_load_box_struct G rfl rfl rfl rfl rfl rfl) (WL_cons rfl (WX_store G rfl rfl rfl rfl rfl rfl rfl rfl rfl rfl rfl (?_)))))
      refine WL_nil (hK8 _ ?_)
      clear hK8 K8
      refine W_ret (finx ((⟨_, _, _, _, _, _⟩, ⟨_, _, _⟩)) (finm_one rfl (rc_agg rfl rfl) rfl (AftOK.stays rfl rfl rfl AftOK.nil)) (⟨?_, ?_⟩))
      all_goals (try rcases x1 with ⟨_, _⟩)
      all_goals (try rcases x2 with ⟨_, _⟩)
      all_goals (try rcases x3 with ⟨_, _⟩)
      all_goals (try rcases x4 with ⟨_, _⟩)
      all_goals (try rcases x5 with ⟨_, _⟩)
      all_goals (try rcases x6 with ⟨_, _⟩)
      all_goals (try rcases x7 with ⟨_, _⟩)
      all_goals (try rcases x8 with ⟨_, _⟩)
      all_goals (try dsimp only at *)
      all_goals (first | exact hc8.mono (by omega) | exact of_size (by assumption) (by decide))
    · try rw [h2]
      try simp only [decide_eq_true_eq, decide_eq_false_iff_not, beq_iff_eq, bne_iff_ne, ne_eq, Bool.not_eq_true', Bool.not_eq_false', beq_eq_false_iff_ne, bne_eq_false_iff_eq, Bool.not_eq_true, Bool.not_eq_false, Int.not_lt, Int.not_le, gt_iff_lt, ge_iff_le, Bool.and_eq_true, Bool.and_eq_false_iff, Bool.or_eq_true, Bool.or_eq_false_iff] at h2
      refine W_seq (fun K9 hK9 => ?_)
      refine W_region (WL_cons rfl (WX_q rfl rfl (q_cmp rfl rfl rfl rfl) (WL_cons rfl (WX_q rfl rfl (q_assign rfl rfl) (?_)))))
      refine WL_nil (hK9 _ ?_)
      clear hK9 K9
      refine W_cond rfl (fun h3 => ?_) (fun h3 => ?_)
      · try rw [h3]
        try simp only [decide_eq_true_eq, decide_eq_false_iff_not, beq_iff_eq, bne_iff_ne, ne_eq, Bool.not_eq_true', Bool.not_eq_false', beq_eq_false_iff_ne, bne_eq_false_iff_eq, Bool.not_eq_true, Bool.not_eq_false, Int.not_lt, Int.not_le, gt_iff_lt, ge_iff_le, Bool.and_eq_true, Bool.and_eq_false_iff, Bool.or_eq_true, Bool.or_eq_false_iff] at h3
        refine W_region (WL_cons rfl (WX_q rfl rfl (q_move rfl rfl) (WL_cons rfl (WX_lit G 7 rfl rfl rfl rfl rfl rfl rfl rfl (WL_cons rfl (?_))))))
        refine WX_callx 7 [0, 6] rfl rfl rfl (x_among hc6 (by omega) [0, 5] (0) (5) (by decide) (by decide)) rfl (RowsIn.cons rfl (RowsIn.cons rfl RowsIn.nil)) rfl (fun _ => rfl) rfl (fun x9 ⟨hv9, hc9⟩ => ?_)
        refine WL_cons rfl (WX_q rfl rfl (q_field_ptr G rfl rfl rfl rfl) (WL_cons rfl (WX_store G rfl rfl rfl rfl rfl rfl rfl rfl rfl rfl rfl (?_))))
        refine WL_nil (hK3 _ ?_)
        clear hK3 K3
        refine W_seq (fun K10 hK10 => ?_)
        refine W_region (WL_cons rfl (WX_q rfl rfl (q_load_box_struct G rfl rfl rfl rfl rfl rfl) (WL_cons rfl (WX_store G rfl rfl rfl rfl rfl rfl rfl rfl rfl rfl rfl (?_)))))
        refine WL_nil (hK10 _ ?_)
        clear hK10 K10
        refine W_ret (finx ((⟨_, _, _, _, _, _⟩, ⟨_, _, _⟩)) (finm_one rfl (rc_agg rfl rfl) rfl (AftOK.stays rfl rfl rfl AftOK.nil)) (⟨?_, ?_⟩))
        all_goals (try rcases x1 with ⟨_, _⟩)
        all_goals (try rcases x2 with ⟨_, _⟩)
        all_goals (try rcases x3 with ⟨_, _⟩)
        all_goals (try rcases x4 with ⟨_, _⟩)
        all_goals (try rcases x5 with ⟨_, _⟩)
        all_goals (try rcases x6 with ⟨_, _⟩)
        all_goals (try rcases x7 with ⟨_, _⟩)
        all_goals (try rcases x8 with ⟨_, _⟩)
        all_goals (try rcases x9 with ⟨_, _⟩)
        all_goals (try dsimp only at *)
        all_goals (first | exact hc9.mono (by omega) | exact of_size (by assumption) (by decide))
      · try rw [h3]
        try simp only [decide_eq_true_eq, decide_eq_false_iff_not, beq_iff_eq, bne_iff_ne, ne_eq, Bool.not_eq_true', Bool.not_eq_false', beq_eq_false_iff_ne, bne_eq_false_iff_eq, Bool.not_eq_true, Bool.not_eq_false, Int.not_lt, Int.not_le, gt_iff_lt, ge_iff_le, Bool.and_eq_true, Bool.and_eq_false_iff, Bool.or_eq_true, Bool.or_eq_false_iff] at h3
        refine W_seq (fun K11 hK11 => ?_)
        refine W_region (WL_cons rfl (WX_q rfl rfl (q_cmp rfl rfl rfl rfl) (WL_cons rfl (WX_q rfl rfl (q_assign rfl rfl) (?_)))))
        refine WL_nil (hK11 _ ?_)
        clear hK11 K11
        refine W_cond rfl (fun h4 => ?_) (fun h4 => ?_)
        · try rw [h4]
          try simp only [decide_eq_true_eq, decide_eq_false_iff_not, beq_iff_eq, bne_iff_ne, ne_eq, Bool.not_eq_true', Bool.not_eq_false', beq_eq_false_iff_ne, bne_eq_false_iff_eq, Bool.not_eq_true, Bool.not_eq_false, Int.not_lt, Int.not_le, gt_iff_lt, ge_iff_le, Bool.and_eq_true, Bool.and_eq_false_iff, Bool.or_eq_true, Bool.or_eq_false_iff] at h4
          refine W_region (WL_cons rfl (WX_q rfl rfl (q_move rfl rfl) (WL_cons rfl (WX_lit G 7 rfl rfl rfl rfl rfl rfl rfl rfl (WL_cons rfl (?_))))))
          refine WX_callx 7 [0, 6] rfl rfl rfl (x_among hc6 (by omega) [0, 17] (0) (17) (by decide) (by decide)) rfl (RowsIn.cons rfl (RowsIn.cons rfl RowsIn.nil)) rfl (fun _ => rfl) rfl (fun x10 ⟨hv10, hc10⟩ => ?_)
          refine WL_cons rfl (WX_q rfl rfl (q_field_ptr G rfl rfl rfl rfl) (WL_cons rfl (WX_store G rfl rfl rfl rfl rfl rfl rfl rfl rfl rfl rfl (?_))))
          refine WL_nil (hK3 _ ?_)
          clear hK3 K3
          refine W_seq (fun K12 hK12 => ?_)
          refine W_region (WL_cons rfl (WX_q rfl rfl (q_load_box_struct G rfl rfl rfl rfl rfl rfl) (WL_cons rfl (WX_store G rfl rfl rfl rfl rfl rfl rfl rfl rfl rfl rfl (?_)))))
          refine WL_nil (hK12 _ ?_)
          clear hK12 K12
          refine W_ret (finx ((⟨_, _, _, _, _, _⟩, ⟨_, _, _⟩)) (finm_one rfl (rc_agg rfl rfl) rfl (AftOK.stays rfl rfl rfl AftOK.nil)) (⟨?_, ?_⟩))
          all_goals (try rcases x1 with ⟨_, _⟩)
          all_goals (try rcases x2 with ⟨_, _⟩)
          all_goals (try rcases x3 with ⟨_, _⟩)
          all_goals (try rcases x4 with ⟨_, _⟩)
          all_goals (try rcases x5 with ⟨_, _⟩)
          all_goals (try rcases x6 with ⟨_, _⟩)
          all_goals (try rcases x7 with ⟨_, _⟩)
          all_goals (try rcases x8 with ⟨_, _⟩)
          all_goals (try rcases x9 with ⟨_, _⟩)
          all_goals (try rcases x10 with ⟨_, _⟩)
          all_goals (try dsimp only at *)
          all_goals (first | exact hc10.mono (by omega) | exact of_size (by assumption) (by decide))
        · try rw [h4]
          try simp only [decide_eq_true_eq, decide_eq_false_iff_not, beq_iff_eq, bne_iff_ne, ne_eq, Bool.not_eq_true', Bool.not_eq_false', beq_eq_false_iff_ne, bne_eq_false_iff_eq, Bool.not_eq_true, Bool.not_eq_false, Int.not_lt, Int.not_le, gt_iff_lt, ge_iff_le, Bool.and_eq_true, Bool.and_eq_false_iff, Bool.or_eq_true, Bool.or_eq_false_iff] at h4
          refine W_seq (fun K13 hK13 => ?_)
          refine W_region (WL_cons rfl (WX_q rfl rfl (q_cmp rfl rfl rfl rfl) (WL_cons rfl (WX_q rfl rfl (q_assign rfl rfl) (?_)))))
          refine WL_nil (hK13 _ ?_)
          clear hK13 K13
          refine W_cond rfl (fun h5 => ?_) (fun h5 => ?_)
          · try rw [h5]
            try simp only [decide_eq_true_eq, decide_eq_false_iff_not, beq_iff_eq, bne_iff_ne, ne_eq, Bool.not_eq_true', Bool.not_eq_false', beq_eq_false_iff_ne, bne_eq_false_iff_eq, Bool.not_eq_true, Bool.not_eq_false, Int.not_lt, Int.not_le, gt_iff_lt, ge_iff_le, Bool.and_eq_true, Bool.and_eq_false_iff, Bool.or_eq_true, Bool.or_eq_false_iff] at h5
            refine W_region (WL_cons rfl (WX_q rfl rfl (q_move rfl rfl) (WL_cons rfl (WX_lit G 7 rfl rfl rfl rfl rfl rfl rfl rfl (WL_cons rfl (?_))))))
            refine WX_callx 7 [0, 6] rfl rfl rfl (x_among hc6 (by omega) [0, 101] (0) (101) (by decide) (by decide)) rfl (RowsIn.cons rfl (RowsIn.cons rfl RowsIn.nil)) rfl (fun _ => rfl) rfl (fun x11 ⟨hv11, hc11⟩ => ?_)
            refine WL_cons rfl (WX_q rfl rfl (q_field_ptr G rfl rfl rfl rfl) (WL_cons rfl (WX_store G rfl rfl rfl rfl rfl rfl rfl rfl rfl rfl rfl (?_))))
            refine WL_nil (hK3 _ ?_)
            clear hK3 K3
            refine W_seq (fun K14 hK14 => ?_)
            refine W_region (WL_cons rfl (WX_q rfl rfl (q_load_box_struct G rfl rfl rfl rfl rfl rfl) (WL_cons rfl (WX_store G rfl rfl rfl rfl rfl rfl rfl rfl rfl rfl rfl (?_)))))
            refine WL_nil (hK14 _ ?_)
            clear hK14 K14
            refine W_ret (finx ((⟨_, _, _, _, _, _⟩, ⟨_, _, _⟩)) (finm_one rfl (rc_agg rfl rfl) rfl (AftOK.stays rfl rfl rfl AftOK.nil)) (⟨?_, ?_⟩))
            all_goals (try rcases x1 with ⟨_, _⟩)
            all_goals (try rcases x2 with ⟨_, _⟩)
            all_goals (try rcases x3 with ⟨_, _⟩)
            all_goals (try rcases x4 with ⟨_, _⟩)
            all_goals (try rcases x5 with ⟨_, _⟩)
            all_goals (try rcases x6 with ⟨_, _⟩)
            all_goals (try rcases x7 with ⟨_, _⟩)
            all_goals (try rcases x8 with ⟨_, _⟩)
            all_goals (try rcases x9 with ⟨_, _⟩)
            all_goals (try rcases x10 with ⟨_, _⟩)
            all_goals (try rcases x11 with ⟨_, _⟩)
            all_goals (try dsimp only at *)
            all_goals (first | exact hc11.mono (by omega) | exact of_size (by assumption) (by decide))
          · try rw [h5]
            try simp only [decide_eq_true_eq, decide_eq_false_iff_not, beq_iff_eq, bne_iff_ne, ne_eq, Bool.not_eq_true', Bool.not_eq_false', beq_eq_false_iff_ne, bne_eq_false_iff_eq, Bool.not_eq_true, Bool.not_eq_false, Int.not_lt, Int.not_le, gt_iff_lt, ge_iff_le, Bool.and_eq_true, Bool.and_eq_false_iff, Bool.or_eq_true, Bool.or_eq_false_iff] at h5
            refine W_skip (hK3 _ ?_)
            clear hK3 K3
            refine W_seq (fun K15 hK15 => ?_)
            refine W_region (WL_cons rfl (WX_q rfl rfl (q_load_box_struct G rfl rfl rfl rfl rfl rfl) (WL_cons rfl (WX_store G rfl rfl rfl rfl rfl rfl rfl rfl rfl rfl rfl (?_)))))
            refine WL_nil (hK15 _ ?_)
            clear hK15 K15
            refine W_ret (finx ((⟨_, _, _, _, _, _⟩, ⟨_, _, _⟩)) (finm_one rfl (rc_agg rfl rfl) rfl (AftOK.stays rfl rfl rfl AftOK.nil)) (⟨?_, ?_⟩))
            all_goals (try rcases x1 with ⟨_, _⟩)
            all_goals (try rcases x2 with ⟨_, _⟩)
            all_goals (try rcases x3 with ⟨_, _⟩)
            all_goals (try rcases x4 with ⟨_, _⟩)
            all_goals (try rcases x5 with ⟨_, _⟩)
            all_goals (try rcases x6 with ⟨_, _⟩)
            all_goals (try rcases x7 with ⟨_, _⟩)
            all_goals (try rcases x8 with ⟨_, _⟩)
            all_goals (try rcases x9 with ⟨_, _⟩)
            all_goals (try rcases x10 with ⟨_, _⟩)
            all_goals (try rcases x11 with ⟨_, _⟩)
            all_goals (try dsimp only at *)
            all_goals (first | exact hc6.mono (by omega) | exact of_size (by assumption) (by decide))

end Go.Proofs.Ytehijimgenicfaa
