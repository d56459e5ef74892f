/- Walks through functions of the program, one contract each (written by gen.py). -/
import Derived.Test.YthpllgbaeokeiaaDoorW6
set_option maxRecDepth 20000
set_option linter.unusedVariables false
set_option linter.unusedSimpArgs false
namespace Go.Proofs.YthpllgbaeokeiaaDoor
open Go Go.Rf

theorem c_laws_toLog (x : Lg) : Ctr Tryd.prog 22 [.v (encL x)] (.one (.v (encL x))) := by
  refine Ctr.of (n := 14) G Tryd.func22 rfl (by kernel_rfl) rfl rfl rfl (fun w0 => ?_)
  refine W_seq (fun K1 hK1 => ?_)
  refine W_region (WL_cons rfl (WX_box 1 rfl rfl rfl rfl rfl rfl rfl (WL_cons rfl (WX_alloc_s G 2 rfl rfl rfl rfl rfl (?_)))))
  refine WL_nil (hK1 _ ?_)
  clear hK1 K1
  refine W_seq (fun K2 hK2 => ?_)
  refine W_region (WL_cons rfl (WX_alloc_s G 3 rfl rfl rfl rfl rfl (?_)))
  refine WL_nil (hK2 _ ?_)
  clear hK2 K2
  refine W_seq (fun K3 hK3 => ?_)
  refine W_region (WL_cons rfl (WX_q rfl rfl (q_field_ptr G rfl rfl rfl rfl) (WL_cons rfl (WX_q rfl rfl (q_load_box G rfl rfl rfl rfl rfl rfl rfl) (WL_cons rfl (WX_q rfl rfl (q_field_ptr G rfl rfl rfl rfl) (WL_cons rfl (WX_store G rfl rfl rfl rfl rfl rfl rfl rfl rfl rfl rfl (?_)))))))))
  refine WL_nil (hK3 _ ?_)
  clear hK3 K3
  refine W_seq (fun K4 hK4 => ?_)
  refine W_region (WL_cons rfl (WX_q rfl rfl (q_field_ptr G rfl rfl rfl rfl) (WL_cons rfl (WX_q rfl rfl (q_load_box G rfl rfl rfl rfl rfl rfl rfl) (WL_cons rfl (WX_q rfl rfl (q_field_ptr G rfl rfl rfl rfl) (WL_cons rfl (WX_store G rfl rfl rfl rfl rfl rfl rfl rfl rfl rfl rfl (?_)))))))))
  refine WL_nil (hK4 _ ?_)
  clear hK4 K4
  refine W_seq (fun K5 hK5 => ?_)
  refine W_region (WL_cons rfl (WX_q rfl rfl (q_field_ptr G rfl rfl rfl rfl) (WL_cons rfl (WX_q rfl rfl (q_load_box G rfl rfl rfl rfl rfl rfl rfl) (WL_cons rfl (WX_q rfl rfl (q_field_ptr G rfl rfl rfl rfl) (WL_cons rfl (WX_store G rfl rfl rfl rfl rfl rfl rfl rfl rfl rfl rfl (?_)))))))))
  refine WL_nil (hK5 _ ?_)
  clear hK5 K5
  refine W_seq (fun K6 hK6 => ?_)
  refine W_region (WL_cons rfl (WX_q rfl rfl (q_load_box_struct G rfl rfl rfl rfl rfl rfl) (WL_cons rfl (WX_store G rfl rfl rfl rfl rfl rfl rfl rfl rfl rfl rfl (?_)))))
  refine WL_nil (hK6 _ ?_)
  clear hK6 K6
  refine W_ret (fin_one rfl (rc_agg rfl ?_))
  all_goals ((first | rfl | (simp_all; done) | (simp_all; omega)))

theorem c_laws_szLog (x : Lg) (l : Int) (h0 : x.d.size ≤ 9223372036854775807 ∧ x.p.size ≤ 9223372036854775807) (hl : 0 ≤ l ∧ l ≤ 1048576) : Ctr Tryd.prog 20 [.v (encL x), .v (.int .i64 l)] (.one (.v (.int .i64 (szL x l)))) := by
  refine Ctr.of (n := 20) G Tryd.func20 rfl (by kernel_rfl) rfl rfl rfl (fun w0 => ?_)
  refine W_seq (fun K1 hK1 => ?_)
  refine W_region (WL_cons rfl (WX_box 1 rfl rfl rfl rfl rfl rfl rfl (WL_cons rfl (WX_q rfl rfl (q_assign rfl rfl) (?_)))))
  refine WL_nil (hK1 _ ?_)
  clear hK1 K1
  refine W_seq (fun K2 hK2 => ?_)
  refine W_region (WL_cons rfl (WX_q rfl rfl (q_move rfl rfl) (WL_cons rfl (WX_q rfl rfl (q_field_ptr G rfl rfl rfl rfl) (WL_cons rfl (WX_q rfl rfl (q_load_box G rfl rfl rfl rfl rfl rfl rfl) (WL_cons rfl (WX_q rfl rfl (q_len_str G rfl rfl rfl) (WL_cons rfl (?_))))))))))
  first | refine WX_q rfl rfl (q_arith rfl rfl rfl rfl (by omega) (by omega)) ?_ | refine WX_q rfl rfl (q_wrap rfl rfl rfl rfl) ?_
  refine WL_cons rfl (WX_q rfl rfl (q_assign rfl rfl) (?_))
  refine WL_nil (hK2 _ ?_)
  clear hK2 K2
  refine W_seq (fun K3 hK3 => ?_)
  refine W_seq (fun K4 hK4 => ?_)
  refine W_region (WL_cons rfl (WX_q rfl rfl (q_move rfl rfl) (WL_cons rfl (WX_q rfl rfl (q_cmp rfl rfl rfl rfl) (?_)))))
  refine WL_nil (hK4 _ ?_)
  clear hK4 K4
  refine W_cond rfl (fun h1 => ?_) (fun h1 => ?_)
  · try rw [h1]
    try simp only [decide_eq_true_eq, decide_eq_false_iff_not, beq_iff_eq, bne_iff_ne, ne_eq, Bool.not_eq_true', Bool.not_eq_false', beq_eq_false_iff_ne, bne_eq_false_iff_eq, Bool.not_eq_true, Bool.not_eq_false, Int.not_lt, Int.not_le, gt_iff_lt, ge_iff_le, Bool.and_eq_true, Bool.and_eq_false_iff, Bool.or_eq_true, Bool.or_eq_false_iff] at h1
    refine W_seq (fun K5 hK5 => ?_)
    refine W_region (WL_cons rfl (WX_q rfl rfl (q_assign rfl rfl) (?_)))
    refine WL_nil (hK5 _ ?_)
    clear hK5 K5
    refine W_ret (fin_one rfl (rc_v ?_))
    all_goals clear hK3 K3
    all_goals ((first | (simp only [szL]; rw [if_pos (by omega)]; done) | (simp only [szL]; rw [if_neg (by omega), if_pos (by omega)]; done) | (simp only [szL]; rw [if_neg (by omega), if_neg (by omega)]; done)))
  · try rw [h1]
    try simp only [decide_eq_true_eq, decide_eq_false_iff_not, beq_iff_eq, bne_iff_ne, ne_eq, Bool.not_eq_true', Bool.not_eq_false', beq_eq_false_iff_ne, bne_eq_false_iff_eq, Bool.not_eq_true, Bool.not_eq_false, Int.not_lt, Int.not_le, gt_iff_lt, ge_iff_le, Bool.and_eq_true, Bool.and_eq_false_iff, Bool.or_eq_true, Bool.or_eq_false_iff] at h1
    refine W_skip (hK3 _ ?_)
    clear hK3 K3
    refine W_seq (fun K6 hK6 => ?_)
    refine W_region (WL_cons rfl (WX_q rfl rfl (q_move rfl rfl) (WL_cons rfl (WX_q rfl rfl (q_field_ptr G rfl rfl rfl rfl) (WL_cons rfl (WX_q rfl rfl (q_load_box G rfl rfl rfl rfl rfl rfl rfl) (WL_cons rfl (WX_q rfl rfl (q_len_str G rfl rfl rfl) (WL_cons rfl (?_))))))))))
    first | refine WX_q rfl rfl (q_arith rfl rfl rfl rfl (by omega) (by omega)) ?_ | refine WX_q rfl rfl (q_wrap rfl rfl rfl rfl) ?_
    refine WL_cons rfl (WX_q rfl rfl (q_assign rfl rfl) (?_))
    refine WL_nil (hK6 _ ?_)
    clear hK6 K6
    refine W_seq (fun K7 hK7 => ?_)
    refine W_seq (fun K8 hK8 => ?_)
    refine W_region (WL_cons rfl (WX_q rfl rfl (q_move rfl rfl) (WL_cons rfl (WX_q rfl rfl (q_cmp rfl rfl rfl rfl) (?_)))))
    refine WL_nil (hK8 _ ?_)
    clear hK8 K8
    refine W_cond rfl (fun h2 => ?_) (fun h2 => ?_)
    · try rw [h2]
      try simp only [decide_eq_true_eq, decide_eq_false_iff_not, beq_iff_eq, bne_iff_ne, ne_eq, Bool.not_eq_true', Bool.not_eq_false', beq_eq_false_iff_ne, bne_eq_false_iff_eq, Bool.not_eq_true, Bool.not_eq_false, Int.not_lt, Int.not_le, gt_iff_lt, ge_iff_le, Bool.and_eq_true, Bool.and_eq_false_iff, Bool.or_eq_true, Bool.or_eq_false_iff] at h2
      refine W_seq (fun K9 hK9 => ?_)
      refine W_region (WL_cons rfl (WX_q rfl rfl (q_assign rfl rfl) (?_)))
      refine WL_nil (hK9 _ ?_)
      clear hK9 K9
      refine W_ret (fin_one rfl (rc_v ?_))
      all_goals clear hK7 K7
      all_goals ((first | (simp only [szL]; rw [if_pos (by omega)]; done) | (simp only [szL]; rw [if_neg (by omega), if_pos (by omega)]; done) | (simp only [szL]; rw [if_neg (by omega), if_neg (by omega)]; done)))
    · try rw [h2]
      try simp only [decide_eq_true_eq, decide_eq_false_iff_not, beq_iff_eq, bne_iff_ne, ne_eq, Bool.not_eq_true', Bool.not_eq_false', beq_eq_false_iff_ne, bne_eq_false_iff_eq, Bool.not_eq_true, Bool.not_eq_false, Int.not_lt, Int.not_le, gt_iff_lt, ge_iff_le, Bool.and_eq_true, Bool.and_eq_false_iff, Bool.or_eq_true, Bool.or_eq_false_iff] at h2
      refine W_skip (hK7 _ ?_)
      clear hK7 K7
      refine W_seq (fun K10 hK10 => ?_)
      refine W_region (WL_cons rfl (WX_q rfl rfl (q_move rfl rfl) (WL_cons rfl (WX_q rfl rfl (q_assign rfl rfl) (?_)))))
      refine WL_nil (hK10 _ ?_)
      clear hK10 K10
      refine W_ret (fin_one rfl (rc_v ?_))
      all_goals ((first | (simp only [szL]; rw [if_pos (by omega)]; done) | (simp only [szL]; rw [if_neg (by omega), if_pos (by omega)]; done) | (simp only [szL]; rw [if_neg (by omega), if_neg (by omega)]; done)))

theorem c_spec_l27Log (x : Lg) (hx : x.d.size + x.p.size ≤ 1048576) : Ctr Tryd.prog 49 [.v (encL x)] (.one (.v (.bool (okLg x)))) := by
  have hl1 := logN_le (s := x.d ++ x.p)
  have hl2 := logN_le (s := x.d)
  have hp1 : posI (x.d ++ x.p) (logN (x.d ++ x.p)) = (posN (x.d ++ x.p) (logN (x.d ++ x.p)) : Int) := rfl
  have hp2 : posI x.d (logN x.d) = (posN x.d (logN x.d) : Int) := rfl
  have hrl := recs_len (s := x.d ++ x.p)
  have hap : (x.d ++ x.p).size = x.d.size + x.p.size := ByteArray.size_append
  have hge := ends_at (s := x.d ++ x.p)
  have hel : (pre (posI (x.d ++ x.p)) (logN (x.d ++ x.p) + 1)).length = logN (x.d ++ x.p) + 1 := pre_len
  have hem : ((pre (posI (x.d ++ x.p)) (logN (x.d ++ x.p) + 1)).map encI).length = logN (x.d ++ x.p) + 1 := (by rw [List.length_map, pre_len])
  refine Ctr.of (n := 53) G Tryd.func49 rfl (by kernel_rfl) rfl rfl rfl (fun w0 => ?_)
  refine W_seq (fun K1 hK1 => ?_)
  refine W_region (WL_cons rfl (WX_box 1 rfl rfl rfl rfl rfl rfl rfl (WL_cons rfl (WX_q rfl rfl (q_assign rfl rfl) (?_)))))
  refine WL_nil (hK1 _ ?_)
  clear hK1 K1
  refine W_seq (fun K2 hK2 => ?_)
  refine W_seq (fun K3 hK3 => ?_)
  refine W_region (WL_cons rfl (WX_q rfl rfl (q_field_ptr G rfl rfl rfl rfl) (WL_cons rfl (WX_q rfl rfl (q_load_box G rfl rfl rfl rfl rfl rfl rfl) (WL_cons rfl (WX_q rfl rfl (q_len_str G rfl rfl rfl) (WL_cons rfl (WX_q rfl rfl (q_field_ptr G rfl rfl rfl rfl) (WL_cons rfl (WX_q rfl rfl (q_load_box G rfl rfl rfl rfl rfl rfl rfl) (WL_cons rfl (WX_q rfl rfl (q_len_str G rfl rfl rfl) (WL_cons rfl (?_))))))))))))))
  first | refine WX_q rfl rfl (q_arith rfl rfl rfl rfl (by omega) (by omega)) ?_ | refine WX_q rfl rfl (q_wrap rfl rfl rfl rfl) ?_
  refine WL_cons rfl (WX_q rfl rfl (q_cmp rfl rfl rfl rfl) (?_))
  refine WL_nil (hK3 _ ?_)
  clear hK3 K3
  refine W_cond rfl (fun h1 => ?_) (fun h1 => ?_)
  · try rw [h1]
    try simp only [decide_eq_true_eq, decide_eq_false_iff_not, beq_iff_eq, bne_iff_ne, ne_eq, Bool.not_eq_true', Bool.not_eq_false', beq_eq_false_iff_ne, bne_eq_false_iff_eq, Bool.not_eq_true, Bool.not_eq_false, Int.not_lt, Int.not_le, gt_iff_lt, ge_iff_le, Bool.and_eq_true, Bool.and_eq_false_iff, Bool.or_eq_true, Bool.or_eq_false_iff] at h1
    have hO := okLg_f1 (x := x) (by omega)
    refine W_seq (fun K4 hK4 => ?_)
    refine W_region (WL_cons rfl (WX_q rfl rfl (q_assign rfl rfl) (?_)))
    refine WL_nil (hK4 _ ?_)
    clear hK4 K4
    refine W_ret (fin_one rfl (rc_v ?_))
    all_goals clear hK2 K2
    all_goals ((rw [hO]; try rw [← hrl]; try rfl))
  · try rw [h1]
    try simp only [decide_eq_true_eq, decide_eq_false_iff_not, beq_iff_eq, bne_iff_ne, ne_eq, Bool.not_eq_true', Bool.not_eq_false', beq_eq_false_iff_ne, bne_eq_false_iff_eq, Bool.not_eq_true, Bool.not_eq_false, Int.not_lt, Int.not_le, gt_iff_lt, ge_iff_le, Bool.and_eq_true, Bool.and_eq_false_iff, Bool.or_eq_true, Bool.or_eq_false_iff] at h1
    refine W_skip (hK2 _ ?_)
    clear hK2 K2
    refine W_seq (fun K5 hK5 => ?_)
    refine W_region (WL_cons rfl (WX_q rfl rfl (q_field_ptr G rfl rfl rfl rfl) (WL_cons rfl (WX_q rfl rfl (q_load_box G rfl rfl rfl rfl rfl rfl rfl) (WL_cons rfl (WX_q rfl rfl (q_field_ptr G rfl rfl rfl rfl) (WL_cons rfl (WX_q rfl rfl (q_load_box G rfl rfl rfl rfl rfl rfl rfl) (WL_cons rfl (?_))))))))))
    refine WX_q rfl rfl (q_cat rfl rfl rfl (by (try simp only [ByteArray.size_append, size_lit, List.size_toArray, List.length_cons, List.length_nil]); omega)) ?_
    refine WL_cons rfl (?_)
    refine WX_call 2 rfl rfl rfl (ArgsOK.of rfl) (c_spec_l27Open _ (by first | assumption | omega)) rfl rfl ?_
    refine WL_cons rfl (WX_q rfl rfl (q_move rfl rfl) (WL_cons rfl (WX_q rfl rfl (q_extract rfl rfl rfl) (WL_cons rfl (WX_q rfl rfl (q_extract rfl rfl rfl) (WL_cons rfl (WX_q rfl rfl (q_assign rfl rfl) (WL_cons rfl (WX_q rfl rfl (q_assign rfl rfl) (?_))))))))))
    refine WL_nil (hK5 _ ?_)
    clear hK5 K5
    refine W_seq (fun K6 hK6 => ?_)
    refine W_region (WL_cons rfl (WX_q rfl rfl (q_field_ptr G rfl rfl rfl rfl) (WL_cons rfl (WX_q rfl rfl (q_load_box G rfl rfl rfl rfl rfl rfl rfl) (WL_cons rfl (?_))))))
    refine WX_call 3 rfl rfl rfl (ArgsOK.of rfl) (c_spec_l27Open _ (by first | assumption | omega)) rfl rfl ?_
    refine WL_cons rfl (WX_q rfl rfl (q_move rfl rfl) (WL_cons rfl (WX_q rfl rfl (q_extract rfl rfl rfl) (WL_cons rfl (WX_q rfl rfl (q_extract rfl rfl rfl) (WL_cons rfl (WX_q rfl rfl (q_assign rfl rfl) (WL_cons rfl (WX_q rfl rfl (q_assign rfl rfl) (?_))))))))))
    refine WL_nil (hK6 _ ?_)
    clear hK6 K6
    refine W_seq (fun K7 hK7 => ?_)
    refine W_region (WL_cons rfl (WX_q rfl rfl (q_move rfl rfl) (WL_cons rfl (WX_q rfl rfl (q_field_ptr G rfl rfl rfl rfl) (WL_cons rfl (WX_q rfl rfl (q_load_box G rfl rfl rfl rfl rfl rfl rfl) (WL_cons rfl (WX_q rfl rfl (q_len_str G rfl rfl rfl) (WL_cons rfl (WX_q rfl rfl (q_field_ptr G rfl rfl rfl rfl) (WL_cons rfl (WX_q rfl rfl (q_load_box G rfl rfl rfl rfl rfl rfl rfl) (WL_cons rfl (WX_q rfl rfl (q_len_str G rfl rfl rfl) (WL_cons rfl (?_))))))))))))))))
    first | refine WX_q rfl rfl (q_arith rfl rfl rfl rfl (by omega) (by omega)) ?_ | refine WX_q rfl rfl (q_wrap rfl rfl rfl rfl) ?_
    refine WL_cons rfl (WX_q rfl rfl (q_cmp rfl rfl rfl rfl) (WL_cons rfl (WX_q rfl rfl (q_move rfl rfl) (WL_part rfl rfl rfl (fun h2 => ?_) (fun h2 => ?_)))))
    · try rw [h2]
      try simp only [decide_eq_true_eq, decide_eq_false_iff_not, beq_iff_eq, bne_iff_ne, ne_eq, Bool.not_eq_true', Bool.not_eq_false', beq_eq_false_iff_ne, bne_eq_false_iff_eq, Bool.not_eq_true, Bool.not_eq_false, Int.not_lt, Int.not_le, gt_iff_lt, ge_iff_le, Bool.and_eq_true, Bool.and_eq_false_iff, Bool.or_eq_true, Bool.or_eq_false_iff] at h2
      refine WL_run rfl rfl rfl (WX_q rfl rfl (q_move rfl rfl) (WL_run rfl rfl rfl (WX_q rfl rfl (q_field_ptr G rfl rfl rfl rfl) (WL_run rfl rfl rfl (WX_q rfl rfl (q_load_box G rfl rfl rfl rfl rfl rfl rfl) (WL_run rfl rfl rfl (WX_q rfl rfl (q_len_str G rfl rfl rfl) (WL_run rfl rfl rfl (WX_q rfl rfl (q_cmp rfl rfl rfl rfl) (WL_cons rfl (WX_q rfl rfl (q_pick_t rfl rfl rfl) (WL_cons rfl (WX_q rfl rfl (q_move rfl rfl) (WL_part rfl rfl rfl (fun h3 => ?_) (fun h3 => ?_)))))))))))))))
      · try rw [h3]
        try simp only [decide_eq_true_eq, decide_eq_false_iff_not, beq_iff_eq, bne_iff_ne, ne_eq, Bool.not_eq_true', Bool.not_eq_false', beq_eq_false_iff_ne, bne_eq_false_iff_eq, Bool.not_eq_true, Bool.not_eq_false, Int.not_lt, Int.not_le, gt_iff_lt, ge_iff_le, Bool.and_eq_true, Bool.and_eq_false_iff, Bool.or_eq_true, Bool.or_eq_false_iff] at h3
        have hO := okLg_v (x := x) (by omega) (by omega) (by omega)
        refine WL_run rfl rfl rfl (WX_q rfl rfl (q_move rfl rfl) (WL_run rfl rfl rfl (?_)))
        first | refine WX_q rfl rfl (q_len' G rfl rfl rfl rfl (List.length_map _)) ?_ | refine WX_q rfl rfl (q_len G rfl rfl rfl rfl) ?_
        refine WL_run rfl rfl rfl (WX_q rfl rfl (q_field_ptr G rfl rfl rfl rfl) (WL_run rfl rfl rfl (WX_q rfl rfl (q_load_box G rfl rfl rfl rfl rfl rfl rfl) (WL_run rfl rfl rfl (WX_q rfl rfl (q_cmp rfl rfl rfl rfl) (WL_cons rfl (WX_q rfl rfl (q_pick_t rfl rfl rfl) (WL_cons rfl (WX_q rfl rfl (q_assign rfl rfl) (?_))))))))))
        refine WL_nil (hK7 _ ?_)
        clear hK7 K7
        refine W_ret (fin_one rfl (rc_v ?_))
        all_goals ((rw [hO]; try rw [← hrl]; try rfl))
      · try rw [h3]
        try simp only [decide_eq_true_eq, decide_eq_false_iff_not, beq_iff_eq, bne_iff_ne, ne_eq, Bool.not_eq_true', Bool.not_eq_false', beq_eq_false_iff_ne, bne_eq_false_iff_eq, Bool.not_eq_true, Bool.not_eq_false, Int.not_lt, Int.not_le, gt_iff_lt, ge_iff_le, Bool.and_eq_true, Bool.and_eq_false_iff, Bool.or_eq_true, Bool.or_eq_false_iff] at h3
        have hO := okLg_f3 (x := x) (by omega)
        refine WL_skip rfl rfl rfl rfl rfl rfl (WL_skip rfl rfl rfl rfl rfl rfl (WL_skip rfl rfl rfl rfl rfl rfl (WL_skip rfl rfl rfl rfl rfl rfl (WL_skip rfl rfl rfl rfl rfl rfl (WL_cons rfl (WX_q rfl rfl (q_pick_f rfl rfl rfl) (WL_cons rfl (WX_q rfl rfl (q_assign rfl rfl) (?_)))))))))
        refine WL_nil (hK7 _ ?_)
        clear hK7 K7
        refine W_ret (fin_one rfl (rc_v ?_))
        all_goals ((rw [hO]; try rw [← hrl]; try rfl))
    · try rw [h2]
      try simp only [decide_eq_true_eq, decide_eq_false_iff_not, beq_iff_eq, bne_iff_ne, ne_eq, Bool.not_eq_true', Bool.not_eq_false', beq_eq_false_iff_ne, bne_eq_false_iff_eq, Bool.not_eq_true, Bool.not_eq_false, Int.not_lt, Int.not_le, gt_iff_lt, ge_iff_le, Bool.and_eq_true, Bool.and_eq_false_iff, Bool.or_eq_true, Bool.or_eq_false_iff] at h2
      have hO := okLg_f2 (x := x) (by omega)
      refine WL_skip rfl rfl rfl rfl rfl rfl (WL_skip rfl rfl rfl rfl rfl rfl (WL_skip rfl rfl rfl rfl rfl rfl (WL_skip rfl rfl rfl rfl rfl rfl (WL_skip rfl rfl rfl rfl rfl rfl (WL_cons rfl (WX_q rfl rfl (q_pick_f rfl rfl rfl) (WL_cons rfl (WX_q rfl rfl (q_move rfl rfl) (WL_skip rfl rfl rfl rfl rfl rfl (WL_skip rfl rfl rfl rfl rfl rfl (WL_skip rfl rfl rfl rfl rfl rfl (WL_skip rfl rfl rfl rfl rfl rfl (WL_skip rfl rfl rfl rfl rfl rfl (WL_cons rfl (WX_q rfl rfl (q_pick_f rfl rfl rfl) (WL_cons rfl (WX_q rfl rfl (q_assign rfl rfl) (?_))))))))))))))))))
      refine WL_nil (hK7 _ ?_)
      clear hK7 K7
      refine W_ret (fin_one rfl (rc_v ?_))
      all_goals ((rw [hO]; try rw [← hrl]; try rfl))

theorem c_spec_IsValidLog (x : Lg) (hx : x.d.size + x.p.size ≤ 1048576) : Ctr Tryd.prog 21 [.v (encL x)] (.one (.v (.bool (okLg x)))) := by
  refine Ctr.of (n := 5) G Tryd.func21 rfl (by kernel_rfl) rfl rfl rfl (fun w0 => ?_)
  refine W_seq (fun K1 hK1 => ?_)
  refine W_region (WL_cons rfl (WX_box 1 rfl rfl rfl rfl rfl rfl rfl (WL_cons rfl (WX_q rfl rfl (q_assign rfl rfl) (?_)))))
  refine WL_nil (hK1 _ ?_)
  clear hK1 K1
  refine W_seq (fun K2 hK2 => ?_)
  refine W_region (WL_cons rfl (WX_q rfl rfl (q_load_box_struct G rfl rfl rfl rfl rfl rfl) (WL_cons rfl (?_))))
  refine WX_q rfl rfl (q_call rfl (ArgsOK.of rfl) (c_spec_l27Log _ (by first | assumption | omega)) rfl) ?_
  refine WL_cons rfl (WX_q rfl rfl (q_assign rfl rfl) (?_))
  refine WL_nil (hK2 _ ?_)
  clear hK2 K2
  refine W_ret (fin_one rfl (rc_v ?_))
  all_goals ((first | rfl | (simp_all; done) | (simp_all; omega)))

theorem c_impl_IsValidLog (x : Lg) (hx : x.d.size + x.p.size ≤ 1048576) : Ctr Tryd.prog 23 [.v (encL x)] (.one (.v (.bool (okLg x)))) := by
  have hl1 := logN_le (s := x.d ++ x.p)
  have hl2 := logN_le (s := x.d)
  have hp1 : posI (x.d ++ x.p) (logN (x.d ++ x.p)) = (posN (x.d ++ x.p) (logN (x.d ++ x.p)) : Int) := rfl
  have hp2 : posI x.d (logN x.d) = (posN x.d (logN x.d) : Int) := rfl
  have hrl := recs_len (s := x.d ++ x.p)
  have hap : (x.d ++ x.p).size = x.d.size + x.p.size := ByteArray.size_append
  have hge := ends_at (s := x.d ++ x.p)
  have hel : (pre (posI (x.d ++ x.p)) (logN (x.d ++ x.p) + 1)).length = logN (x.d ++ x.p) + 1 := pre_len
  have hem : ((pre (posI (x.d ++ x.p)) (logN (x.d ++ x.p) + 1)).map encI).length = logN (x.d ++ x.p) + 1 := (by rw [List.length_map, pre_len])
  refine Ctr.of (n := 45) G Tryd.func23 rfl (by kernel_rfl) rfl rfl rfl (fun w0 => ?_)
  refine W_seq (fun K1 hK1 => ?_)
  refine W_region (WL_cons rfl (WX_box 1 rfl rfl rfl rfl rfl rfl rfl (WL_cons rfl (WX_q rfl rfl (q_assign rfl rfl) (?_)))))
  refine WL_nil (hK1 _ ?_)
  clear hK1 K1
  refine W_seq (fun K2 hK2 => ?_)
  refine W_region (WL_cons rfl (WX_q rfl rfl (q_field_ptr G rfl rfl rfl rfl) (WL_cons rfl (WX_q rfl rfl (q_load_box G rfl rfl rfl rfl rfl rfl rfl) (WL_cons rfl (WX_q rfl rfl (q_field_ptr G rfl rfl rfl rfl) (WL_cons rfl (WX_q rfl rfl (q_load_box G rfl rfl rfl rfl rfl rfl rfl) (WL_cons rfl (?_))))))))))
  refine WX_q rfl rfl (q_cat rfl rfl rfl (by (try simp only [ByteArray.size_append, size_lit, List.size_toArray, List.length_cons, List.length_nil]); omega)) ?_
  refine WL_cons rfl (WX_q rfl rfl (q_assign rfl rfl) (?_))
  refine WL_nil (hK2 _ ?_)
  clear hK2 K2
  refine W_seq (fun K3 hK3 => ?_)
  refine W_region (WL_cons rfl (WX_q rfl rfl (q_move rfl rfl) (WL_cons rfl (?_))))
  refine WX_call 3 rfl rfl rfl (ArgsOK.of rfl) (c_impl_readRecords _ (by first | assumption | omega)) rfl rfl ?_
  refine WL_cons rfl (WX_q rfl rfl (q_move rfl rfl) (WL_cons rfl (WX_q rfl rfl (q_extract rfl rfl rfl) (WL_cons rfl (WX_q rfl rfl (q_extract rfl rfl rfl) (WL_cons rfl (WX_q rfl rfl (q_assign rfl rfl) (WL_cons rfl (WX_q rfl rfl (q_assign rfl rfl) (?_))))))))))
  refine WL_nil (hK3 _ ?_)
  clear hK3 K3
  refine W_seq (fun K4 hK4 => ?_)
  refine W_seq (fun K5 hK5 => ?_)
  refine W_region (WL_cons rfl (WX_q rfl rfl (q_move rfl rfl) (WL_cons rfl (WX_q rfl rfl (q_move rfl rfl) (WL_cons rfl (?_))))))
  first | refine WX_q rfl rfl (q_len' G rfl rfl rfl rfl (List.length_map _)) ?_ | refine WX_q rfl rfl (q_len G rfl rfl rfl rfl) ?_
  refine WL_cons rfl (?_)
  first | refine WX_q rfl rfl (q_index_own G rfl rfl rfl rfl rfl (by omega) (by simp; omega)) ?_ | refine WX_q rfl rfl (q_index_own G rfl rfl rfl rfl rfl (by omega) (by omega)) ?_
  refine WL_cons rfl (?_)
  refine WX_q rfl rfl (q_load_rpt G rfl rfl rfl rfl rfl (getM (by omega) (by simp; omega)) rfl) ?_
  refine WL_cons rfl (WX_q rfl rfl (q_move rfl rfl) (WL_cons rfl (WX_q rfl rfl (q_len_str G rfl rfl rfl) (WL_cons rfl (WX_q rfl rfl (q_cmp rfl rfl rfl rfl) (WL_cons rfl (WX_q rfl rfl (q_move rfl rfl) (WL_part rfl rfl rfl (fun h1 => ?_) (fun h1 => ?_)))))))))
  · try rw [h1]
    try simp only [decide_eq_true_eq, decide_eq_false_iff_not, beq_iff_eq, bne_iff_ne, ne_eq, Bool.not_eq_true', Bool.not_eq_false', beq_eq_false_iff_ne, bne_eq_false_iff_eq, Bool.not_eq_true, Bool.not_eq_false, Int.not_lt, Int.not_le, gt_iff_lt, ge_iff_le, Bool.and_eq_true, Bool.and_eq_false_iff, Bool.or_eq_true, Bool.or_eq_false_iff] at h1
    have hO := okLg_f2 (x := x) (by omega)
    refine WL_skip rfl rfl rfl rfl rfl rfl (WL_skip rfl rfl rfl rfl rfl rfl (WL_skip rfl rfl rfl rfl rfl rfl (WL_skip rfl rfl rfl rfl rfl rfl (WL_skip rfl rfl rfl rfl rfl rfl (WL_cons rfl (WX_q rfl rfl (q_pick_t rfl rfl rfl) (?_)))))))
    refine WL_nil (hK5 _ ?_)
    clear hK5 K5
    refine W_true rfl ?_
    refine W_seq (fun K6 hK6 => ?_)
    refine W_region (WL_cons rfl (WX_q rfl rfl (q_assign rfl rfl) (?_)))
    refine WL_nil (hK6 _ ?_)
    clear hK6 K6
    refine W_ret (fin_one rfl (rc_v ?_))
    all_goals clear hK4 K4
    all_goals ((rw [hO]))
  · try rw [h1]
    try simp only [decide_eq_true_eq, decide_eq_false_iff_not, beq_iff_eq, bne_iff_ne, ne_eq, Bool.not_eq_true', Bool.not_eq_false', beq_eq_false_iff_ne, bne_eq_false_iff_eq, Bool.not_eq_true, Bool.not_eq_false, Int.not_lt, Int.not_le, gt_iff_lt, ge_iff_le, Bool.and_eq_true, Bool.and_eq_false_iff, Bool.or_eq_true, Bool.or_eq_false_iff] at h1
    refine WL_run rfl rfl rfl (WX_q rfl rfl (q_move rfl rfl) (WL_run rfl rfl rfl (?_)))
    first | refine WX_q rfl rfl (q_len' G rfl rfl rfl rfl (List.length_map _)) ?_ | refine WX_q rfl rfl (q_len G rfl rfl rfl rfl) ?_
    refine WL_run rfl rfl rfl (WX_q rfl rfl (q_field_ptr G rfl rfl rfl rfl) (WL_run rfl rfl rfl (WX_q rfl rfl (q_load_box G rfl rfl rfl rfl rfl rfl rfl) (WL_run rfl rfl rfl (WX_q rfl rfl (q_cmp rfl rfl rfl rfl) (WL_cons rfl (WX_q rfl rfl (q_pick_f rfl rfl rfl) (?_))))))))
    refine WL_nil (hK5 _ ?_)
    clear hK5 K5
    refine W_cond rfl (fun h2 => ?_) (fun h2 => ?_)
    · try rw [h2]
      try simp only [decide_eq_true_eq, decide_eq_false_iff_not, beq_iff_eq, bne_iff_ne, ne_eq, Bool.not_eq_true', Bool.not_eq_false', beq_eq_false_iff_ne, bne_eq_false_iff_eq, Bool.not_eq_true, Bool.not_eq_false, Int.not_lt, Int.not_le, gt_iff_lt, ge_iff_le, Bool.and_eq_true, Bool.and_eq_false_iff, Bool.or_eq_true, Bool.or_eq_false_iff] at h2
      have hO := okLg_f4 (x := x) (by omega)
      refine W_seq (fun K7 hK7 => ?_)
      refine W_region (WL_cons rfl (WX_q rfl rfl (q_assign rfl rfl) (?_)))
      refine WL_nil (hK7 _ ?_)
      clear hK7 K7
      refine W_ret (fin_one rfl (rc_v ?_))
      all_goals clear hK4 K4
      all_goals ((rw [hO]))
    · try rw [h2]
      try simp only [decide_eq_true_eq, decide_eq_false_iff_not, beq_iff_eq, bne_iff_ne, ne_eq, Bool.not_eq_true', Bool.not_eq_false', beq_eq_false_iff_ne, bne_eq_false_iff_eq, Bool.not_eq_true, Bool.not_eq_false, Int.not_lt, Int.not_le, gt_iff_lt, ge_iff_le, Bool.and_eq_true, Bool.and_eq_false_iff, Bool.or_eq_true, Bool.or_eq_false_iff] at h2
      refine W_skip (hK4 _ ?_)
      clear hK4 K4
      refine W_seq (fun K8 hK8 => ?_)
      refine W_seq (fun K9 hK9 => ?_)
      refine W_region (WL_cons rfl (WX_q rfl rfl (q_move rfl rfl) (WL_cons rfl (?_))))
      first | refine WX_q rfl rfl (q_len' G rfl rfl rfl rfl (List.length_map _)) ?_ | refine WX_q rfl rfl (q_len G rfl rfl rfl rfl) ?_
      refine WL_cons rfl (WX_q rfl rfl (q_move rfl rfl) (?_))
      refine WL_nil (hK9 _ ?_)
      clear hK9 K9
      refine W_block ?_
      refine W_loopK [1, 33, 34] [0, 1, 2] (fun (i : Nat) => [(35, .v (.int .i64 (i : Int)))]) (fun (i : Nat) => []) (fun (i : Nat) => i ≤ logN (x.d ++ x.p) + 1 ∧ ∀ j, j < i → ¬ posN (x.d ++ x.p) j = x.d.size) (fun (i : Nat) => logN (x.d ++ x.p) + 1 - i) 0 rfl rfl ?_ ?_ ?_ ?_
      · exact ⟨Nat.zero_le _, fun j hj => by omega⟩
      · exact ⟨⟨_, rfl, by rfl⟩, rfl, trivial⟩
      · exact trivial
      · intro i hinv
        have hi := hinv.1
        have hpi : posI (x.d ++ x.p) i = (posN (x.d ++ x.p) i : Int) := rfl
        have hgi : i < logN (x.d ++ x.p) + 1 → (pre (posI (x.d ++ x.p)) (logN (x.d ++ x.p) + 1)).getD ((i : Int)).toNat default = posI (x.d ++ x.p) i := fun h => pre_getD h
        simp only [List.cons_append, List.nil_append]
        refine W_seq (fun K10 hK10 => ?_)
        refine W_region (WL_cons rfl (WX_q rfl rfl (q_cmp rfl rfl rfl rfl) (?_)))
        refine WL_nil (hK10 _ ?_)
        clear hK10 K10
        refine W_seq (fun K11 hK11 => ?_)
        refine W_cond rfl (fun h3 => ?_) (fun h3 => ?_)
        · try rw [h3]
          try simp only [decide_eq_true_eq, decide_eq_false_iff_not, beq_iff_eq, bne_iff_ne, ne_eq, Bool.not_eq_true', Bool.not_eq_false', beq_eq_false_iff_ne, bne_eq_false_iff_eq, Bool.not_eq_true, Bool.not_eq_false, Int.not_lt, Int.not_le, gt_iff_lt, ge_iff_le, Bool.and_eq_true, Bool.and_eq_false_iff, Bool.or_eq_true, Bool.or_eq_false_iff] at h3
          refine W_skip (hK11 _ ?_)
          clear hK11 K11
          refine W_seq (fun K12 hK12 => ?_)
          refine W_block ?_
          refine W_seq (fun K13 hK13 => ?_)
          refine W_region (WL_cons rfl (?_))
          first | refine WX_q rfl rfl (q_index_own G rfl rfl rfl rfl rfl (by omega) (by simp; omega)) ?_ | refine WX_q rfl rfl (q_index_own G rfl rfl rfl rfl rfl (by omega) (by omega)) ?_
          refine WL_cons rfl (?_)
          refine WX_q rfl rfl (q_load_rpt G rfl rfl rfl rfl rfl (getM (by omega) (by simp; omega)) rfl) ?_
          refine WL_cons rfl (WX_q rfl rfl (q_assign rfl rfl) (?_))
          refine WL_nil (hK13 _ ?_)
          clear hK13 K13
          refine W_seq (fun K14 hK14 => ?_)
          refine W_region (WL_cons rfl (WX_q rfl rfl (q_move rfl rfl) (WL_cons rfl (WX_q rfl rfl (q_field_ptr G rfl rfl rfl rfl) (WL_cons rfl (WX_q rfl rfl (q_load_box G rfl rfl rfl rfl rfl rfl rfl) (WL_cons rfl (WX_q rfl rfl (q_len_str G rfl rfl rfl) (WL_cons rfl (WX_q rfl rfl (q_cmp rfl rfl rfl rfl) (?_)))))))))))
          refine WL_nil (hK14 _ ?_)
          clear hK14 K14
          refine W_cond rfl (fun h4 => ?_) (fun h4 => ?_)
          · try rw [h4]
            try simp only [decide_eq_true_eq, decide_eq_false_iff_not, beq_iff_eq, bne_iff_ne, ne_eq, Bool.not_eq_true', Bool.not_eq_false', beq_eq_false_iff_ne, bne_eq_false_iff_eq, Bool.not_eq_true, Bool.not_eq_false, Int.not_lt, Int.not_le, gt_iff_lt, ge_iff_le, Bool.and_eq_true, Bool.and_eq_false_iff, Bool.or_eq_true, Bool.or_eq_false_iff] at h4
            have hO := okLg_some (x := x) (j := i) (by omega) (by omega) (by omega) (by omega)
            refine W_seq (fun K15 hK15 => ?_)
            refine W_region (WL_cons rfl (WX_q rfl rfl (q_assign rfl rfl) (?_)))
            refine WL_nil (hK15 _ ?_)
            clear hK15 K15
            refine W_ret (fin_one rfl (rc_v ?_))
            all_goals clear hK12 K12 hK8 K8
            all_goals ((rw [hO]))
          · try rw [h4]
            try simp only [decide_eq_true_eq, decide_eq_false_iff_not, beq_iff_eq, bne_iff_ne, ne_eq, Bool.not_eq_true', Bool.not_eq_false', beq_eq_false_iff_ne, bne_eq_false_iff_eq, Bool.not_eq_true, Bool.not_eq_false, Int.not_lt, Int.not_le, gt_iff_lt, ge_iff_le, Bool.and_eq_true, Bool.and_eq_false_iff, Bool.or_eq_true, Bool.or_eq_false_iff] at h4
            refine W_skip (hK12 _ ?_)
            clear hK12 K12
            refine W_region (WL_cons rfl (?_))
            first | refine WX_q rfl rfl (q_arith rfl rfl rfl rfl (by omega) (by omega)) ?_ | refine WX_q rfl rfl (q_wrap rfl rfl rfl rfl) ?_
            refine WL_cons rfl (WX_q rfl rfl (q_move rfl rfl) (?_))
            refine WL_nil ⟨(i + 1), ?_, ?_, ⟨⟨_, rfl, by rfl⟩, rfl, trivial⟩, trivial, rfl, rfl, rfl⟩
            · exact ⟨by omega, upto_succ hinv.2 (by omega)⟩
            · omega
        · try rw [h3]
          try simp only [decide_eq_true_eq, decide_eq_false_iff_not, beq_iff_eq, bne_iff_ne, ne_eq, Bool.not_eq_true', Bool.not_eq_false', beq_eq_false_iff_ne, bne_eq_false_iff_eq, Bool.not_eq_true, Bool.not_eq_false, Int.not_lt, Int.not_le, gt_iff_lt, ge_iff_le, Bool.and_eq_true, Bool.and_eq_false_iff, Bool.or_eq_true, Bool.or_eq_false_iff] at h3
          have hO := okLg_none (x := x) (fun j hj => hinv.2 j (by omega))
          refine W_exit (hK8 _ ?_)
          clear hK11 K11 hK8 K8
          refine W_seq (fun K16 hK16 => ?_)
          refine W_region (WL_cons rfl (WX_q rfl rfl (q_assign rfl rfl) (?_)))
          refine WL_nil (hK16 _ ?_)
          clear hK16 K16
          refine W_ret (fin_one rfl (rc_v ?_))
          all_goals ((rw [hO]))

theorem c_laws_FnExactIsValidLog (x : Lg) (h0 : x.d.size ≤ 9223372036854775807 ∧ x.p.size ≤ 9223372036854775807) : Ctr Tryd.prog 5 [.v (encL x)] (.one (.v (.bool true))) := by
  refine Ctr.of (n := 20) G Tryd.func5 rfl (by kernel_rfl) rfl rfl rfl (fun w0 => ?_)
  refine W_seq (fun K1 hK1 => ?_)
  refine W_region (WL_cons rfl (WX_box 1 rfl rfl rfl rfl rfl rfl rfl (WL_cons rfl (WX_q rfl rfl (q_assign rfl rfl) (?_)))))
  refine WL_nil (hK1 _ ?_)
  clear hK1 K1
  refine W_seq (fun K2 hK2 => ?_)
  refine W_region (WL_cons rfl (WX_q rfl rfl (q_assign rfl rfl) (?_)))
  refine WL_nil (hK2 _ ?_)
  clear hK2 K2
  refine W_seq (fun K3 hK3 => ?_)
  refine W_region (WL_cons rfl (WX_q rfl rfl (q_load_box_struct G rfl rfl rfl rfl rfl rfl) (WL_cons rfl (WX_q rfl rfl (q_move rfl rfl) (WL_cons rfl (?_))))))
  refine WX_q rfl rfl (q_call rfl (ArgsOK.of rfl) (c_laws_szLog _ _ (by assumption) (by first | assumption | omega)) rfl) ?_
  refine WL_cons rfl (WX_q rfl rfl (q_assign rfl rfl) (?_))
  refine WL_nil (hK3 _ ?_)
  clear hK3 K3
  refine W_seq (fun K4 hK4 => ?_)
  refine W_seq (fun K5 hK5 => ?_)
  refine W_region (WL_cons rfl (WX_q rfl rfl (q_move rfl rfl) (WL_cons rfl (WX_q rfl rfl (q_cmp rfl rfl rfl rfl) (?_)))))
  refine WL_nil (hK5 _ ?_)
  clear hK5 K5
  refine W_cond rfl (fun h1 => ?_) (fun h1 => ?_)
  · try rw [h1]
    try simp only [decide_eq_true_eq, decide_eq_false_iff_not, beq_iff_eq, bne_iff_ne, ne_eq, Bool.not_eq_true', Bool.not_eq_false', beq_eq_false_iff_ne, bne_eq_false_iff_eq, Bool.not_eq_true, Bool.not_eq_false, Int.not_lt, Int.not_le, gt_iff_lt, ge_iff_le, Bool.and_eq_true, Bool.and_eq_false_iff, Bool.or_eq_true, Bool.or_eq_false_iff] at h1
    refine W_seq (fun K6 hK6 => ?_)
    refine W_region (WL_cons rfl (WX_q rfl rfl (q_assign rfl rfl) (?_)))
    refine WL_nil (hK6 _ ?_)
    clear hK6 K6
    refine W_ret (fin_one rfl (rc_v ?_))
    all_goals clear hK4 K4
    all_goals (first | rfl | (simp_all; done))
  · try rw [h1]
    try simp only [decide_eq_true_eq, decide_eq_false_iff_not, beq_iff_eq, bne_iff_ne, ne_eq, Bool.not_eq_true', Bool.not_eq_false', beq_eq_false_iff_ne, bne_eq_false_iff_eq, Bool.not_eq_true, Bool.not_eq_false, Int.not_lt, Int.not_le, gt_iff_lt, ge_iff_le, Bool.and_eq_true, Bool.and_eq_false_iff, Bool.or_eq_true, Bool.or_eq_false_iff] at h1
    have hx : x.d.size + x.p.size ≤ 1048576 := by simp only [szL] at h1; split at h1 <;> (try split at h1) <;> omega
    refine W_skip (hK4 _ ?_)
    clear hK4 K4
    refine W_seq (fun K7 hK7 => ?_)
    refine W_region (WL_cons rfl (WX_q rfl rfl (q_load_box_struct G rfl rfl rfl rfl rfl rfl) (WL_cons rfl (?_))))
    refine WX_q rfl rfl (q_call rfl (ArgsOK.of rfl) (c_laws_toLog _) rfl) ?_
    refine WL_cons rfl (?_)
    refine WX_q rfl rfl (q_call rfl (ArgsOK.of rfl) (c_spec_IsValidLog _ (by first | assumption | omega)) rfl) ?_
    refine WL_cons rfl (WX_q rfl rfl (q_assign rfl rfl) (?_))
    refine WL_nil (hK7 _ ?_)
    clear hK7 K7
    refine W_seq (fun K8 hK8 => ?_)
    refine W_region (WL_cons rfl (WX_q rfl rfl (q_load_box_struct G rfl rfl rfl rfl rfl rfl) (WL_cons rfl (?_))))
    refine WX_q rfl rfl (q_call rfl (ArgsOK.of rfl) (c_laws_toLog _) rfl) ?_
    refine WL_cons rfl (?_)
    refine WX_q rfl rfl (q_call rfl (ArgsOK.of rfl) (c_impl_IsValidLog _ (by first | assumption | omega)) rfl) ?_
    refine WL_cons rfl (WX_q rfl rfl (q_assign rfl rfl) (?_))
    refine WL_nil (hK8 _ ?_)
    clear hK8 K8
    refine W_seq (fun K9 hK9 => ?_)
    refine W_seq (fun K10 hK10 => ?_)
    refine W_region (WL_cons rfl (WX_q rfl rfl (q_move rfl rfl) (WL_cons rfl (WX_q rfl rfl (q_move rfl rfl) (WL_cons rfl (WX_q rfl rfl (q_bne (G 4 _ rfl).1 rfl rfl rfl) (?_)))))))
    refine WL_nil (hK10 _ ?_)
    clear hK10 K10
    refine W_cond rfl (fun h2 => ?_) (fun h2 => ?_)
    · try rw [h2]
      try simp only [decide_eq_true_eq, decide_eq_false_iff_not, beq_iff_eq, bne_iff_ne, ne_eq, Bool.not_eq_true', Bool.not_eq_false', beq_eq_false_iff_ne, bne_eq_false_iff_eq, Bool.not_eq_true, Bool.not_eq_false, Int.not_lt, Int.not_le, gt_iff_lt, ge_iff_le, Bool.and_eq_true, Bool.and_eq_false_iff, Bool.or_eq_true, Bool.or_eq_false_iff] at h2
      refine W_seq (fun K11 hK11 => ?_)
      refine W_region (WL_cons rfl (WX_q rfl rfl (q_assign rfl rfl) (?_)))
      refine WL_nil (hK11 _ ?_)
      clear hK11 K11
      refine W_ret (fin_one rfl (rc_v ?_))
      all_goals clear hK9 K9
      all_goals (first | rfl | (simp_all; done))
    · try rw [h2]
      try simp only [decide_eq_true_eq, decide_eq_false_iff_not, beq_iff_eq, bne_iff_ne, ne_eq, Bool.not_eq_true', Bool.not_eq_false', beq_eq_false_iff_ne, bne_eq_false_iff_eq, Bool.not_eq_true, Bool.not_eq_false, Int.not_lt, Int.not_le, gt_iff_lt, ge_iff_le, Bool.and_eq_true, Bool.and_eq_false_iff, Bool.or_eq_true, Bool.or_eq_false_iff] at h2
      refine W_skip (hK9 _ ?_)
      clear hK9 K9
      refine W_seq (fun K12 hK12 => ?_)
      refine W_region (WL_cons rfl (WX_q rfl rfl (q_assign rfl rfl) (?_)))
      refine WL_nil (hK12 _ ?_)
      clear hK12 K12
      refine W_ret (fin_one rfl (rc_v ?_))
      all_goals (first | rfl | (simp_all; done))

end Go.Proofs.YthpllgbaeokeiaaDoor
