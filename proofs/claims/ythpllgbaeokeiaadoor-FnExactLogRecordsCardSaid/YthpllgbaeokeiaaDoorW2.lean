/- Walks through functions of the program, one contract each (written by gen.py). -/
import Derived.Test.YthpllgbaeokeiaaDoorN
set_option maxRecDepth 20000
set_option linter.unusedVariables false
set_option linter.unusedSimpArgs false
namespace Go.Proofs.YthpllgbaeokeiaaDoor
open Go Go.Rf

theorem c_spec_l1Seal (s : ByteArray) (hs : s.size ≤ 3900) : Ctr Tryd.prog 63 [.v (.string s)] (.one (.v (.string (sealT s)))) := by
  have hsm := sumS_le s s.size
  have hz := numT_size (n := sumS s s.size) (by omega) (by omega)
  refine Ctr.of (n := 9) G Tryd.func63 rfl (by kernel_rfl) rfl rfl rfl (fun w0 => ?_)
  refine W_seq (fun K1 hK1 => ?_)
  refine W_region (WL_cons rfl (WX_q rfl rfl (q_assign rfl rfl) (?_)))
  refine WL_nil (hK1 _ ?_)
  clear hK1 K1
  refine W_seq (fun K2 hK2 => ?_)
  refine W_region (WL_cons rfl (WX_q rfl rfl (q_move rfl rfl) (WL_cons rfl (?_))))
  refine WX_q rfl rfl (q_cat rfl rfl rfl (by (try simp only [ByteArray.size_append, size_lit, List.size_toArray, List.length_cons, List.length_nil]); omega)) ?_
  refine WL_cons rfl (WX_q rfl rfl (q_move rfl rfl) (WL_cons rfl (?_)))
  refine WX_q rfl rfl (q_call rfl (ArgsOK.of rfl) (c_spec_l1Sum _ (by first | assumption | omega)) rfl) ?_
  refine WL_cons rfl (?_)
  refine WX_q rfl rfl (q_call rfl (ArgsOK.of rfl) (c_spec_l1Num _ (by omega) (by omega)) rfl) ?_
  refine WL_cons rfl (?_)
  refine WX_q rfl rfl (q_cat rfl rfl rfl (by (try simp only [ByteArray.size_append, size_lit, List.size_toArray, List.length_cons, List.length_nil]); omega)) ?_
  refine WL_cons rfl (WX_q rfl rfl (q_assign rfl rfl) (?_))
  refine WL_nil (hK2 _ ?_)
  clear hK2 K2
  refine W_ret (fin_one rfl (rc_v ?_))
  all_goals (rfl)

theorem c_impl_AppendChecksum (s : ByteArray) (hs : s.size ≤ 3900) (hst : standsB s 35 = false) : Ctr Tryd.prog 65 [.v (.string s)] (.many [.v (.string (sealT s)), .v (.bool true)]) := by
  have hsm := sumS_le s s.size
  have hz := numT_size (n := sumS s s.size) (by omega) (by omega)
  have e35 : ((UInt8.toNat 35 : Nat) : Int) = 35 := rfl
  have hss := seal_size (s := s)
  have hse : (sealT s).size = (s ++ (⟨#[35]⟩ : ByteArray) ++ numT (sumS s s.size)).size := rfl
  refine Ctr.of (n := 22) G Tryd.func65 rfl (by kernel_rfl) rfl rfl rfl (fun w0 => ?_)
  refine W_seq (fun K1 hK1 => ?_)
  refine W_region (WL_cons rfl (WX_q rfl rfl (q_assign rfl rfl) (WL_cons rfl (WX_q rfl rfl (q_assign rfl rfl) (?_)))))
  refine WL_nil (hK1 _ ?_)
  clear hK1 K1
  refine W_seq (fun K2 hK2 => ?_)
  refine W_seq (fun K3 hK3 => ?_)
  refine W_region (WL_cons rfl (WX_q rfl rfl (q_move rfl rfl) (WL_cons rfl (WX_q rfl rfl (q_len_str G rfl rfl rfl) (WL_cons rfl (WX_q rfl rfl (q_cmp rfl rfl rfl rfl) (WL_cons rfl (WX_q rfl rfl (q_move rfl rfl) (WL_part rfl rfl rfl (fun h1 => ?_) (fun h1 => ?_))))))))))
  · try rw [h1]
    try simp only [decide_eq_true_eq, decide_eq_false_iff_not, beq_iff_eq, bne_iff_ne, ne_eq, Bool.not_eq_true', Bool.not_eq_false', beq_eq_false_iff_ne, bne_eq_false_iff_eq, Bool.not_eq_true, Bool.not_eq_false, Int.not_lt, Int.not_le, gt_iff_lt, ge_iff_le, Bool.and_eq_true, Bool.and_eq_false_iff, Bool.or_eq_true, Bool.or_eq_false_iff] at h1
    exfalso; omega
  · try rw [h1]
    try simp only [decide_eq_true_eq, decide_eq_false_iff_not, beq_iff_eq, bne_iff_ne, ne_eq, Bool.not_eq_true', Bool.not_eq_false', beq_eq_false_iff_ne, bne_eq_false_iff_eq, Bool.not_eq_true, Bool.not_eq_false, Int.not_lt, Int.not_le, gt_iff_lt, ge_iff_le, Bool.and_eq_true, Bool.and_eq_false_iff, Bool.or_eq_true, Bool.or_eq_false_iff] at h1
    refine WL_run rfl rfl rfl (WX_q rfl rfl (q_move rfl rfl) (WL_run rfl rfl rfl (?_)))
    refine WX_q rfl rfl (q_call rfl (ArgsOK.of rfl) (c_strings_Contains s 35) rfl) ?_
    refine WL_cons rfl (WX_q rfl rfl (q_pick_f rfl rfl rfl) (?_))
    refine WL_nil (hK3 _ ?_)
    clear hK3 K3
    refine W_cond rfl (fun h2 => ?_) (fun h2 => ?_)
    · try rw [h2]
      try simp only [decide_eq_true_eq, decide_eq_false_iff_not, beq_iff_eq, bne_iff_ne, ne_eq, Bool.not_eq_true', Bool.not_eq_false', beq_eq_false_iff_ne, bne_eq_false_iff_eq, Bool.not_eq_true, Bool.not_eq_false, Int.not_lt, Int.not_le, gt_iff_lt, ge_iff_le, Bool.and_eq_true, Bool.and_eq_false_iff, Bool.or_eq_true, Bool.or_eq_false_iff] at h2
      exact absurd (show standsB s 35 = true from h2) (by rw [hst]; simp)
    · try rw [h2]
      try simp only [decide_eq_true_eq, decide_eq_false_iff_not, beq_iff_eq, bne_iff_ne, ne_eq, Bool.not_eq_true', Bool.not_eq_false', beq_eq_false_iff_ne, bne_eq_false_iff_eq, Bool.not_eq_true, Bool.not_eq_false, Int.not_lt, Int.not_le, gt_iff_lt, ge_iff_le, Bool.and_eq_true, Bool.and_eq_false_iff, Bool.or_eq_true, Bool.or_eq_false_iff] at h2
      refine W_skip (hK2 _ ?_)
      clear hK2 K2
      refine W_seq (fun K4 hK4 => ?_)
      refine W_region (WL_cons rfl (WX_q rfl rfl (q_move rfl rfl) (WL_cons rfl (?_))))
      refine WX_q rfl rfl (q_cat rfl rfl rfl (by (try simp only [ByteArray.size_append, size_lit, List.size_toArray, List.length_cons, List.length_nil]); omega)) ?_
      refine WL_cons rfl (WX_q rfl rfl (q_move rfl rfl) (WL_cons rfl (?_)))
      refine WX_q rfl rfl (q_call rfl (ArgsOK.of rfl) (c_impl_checksum _ (by first | assumption | omega)) rfl) ?_
      refine WL_cons rfl (?_)
      refine WX_q rfl rfl (q_call rfl (ArgsOK.of rfl) (c_strconv_Itoa _ (by omega) (by omega)) rfl) ?_
      refine WL_cons rfl (?_)
      refine WX_q rfl rfl (q_cat rfl rfl rfl (by (try simp only [ByteArray.size_append, size_lit, List.size_toArray, List.length_cons, List.length_nil]); omega)) ?_
      refine WL_cons rfl (WX_q rfl rfl (q_assign rfl rfl) (?_))
      refine WL_nil (hK4 _ ?_)
      clear hK4 K4
      refine W_seq (fun K5 hK5 => ?_)
      refine W_seq (fun K6 hK6 => ?_)
      refine W_region (WL_cons rfl (WX_q rfl rfl (q_move rfl rfl) (WL_cons rfl (WX_q rfl rfl (q_len_str G rfl rfl rfl) (WL_cons rfl (WX_q rfl rfl (q_cmp rfl rfl rfl rfl) (?_)))))))
      refine WL_nil (hK6 _ ?_)
      clear hK6 K6
      refine W_cond rfl (fun h3 => ?_) (fun h3 => ?_)
      · try rw [h3]
        try simp only [decide_eq_true_eq, decide_eq_false_iff_not, beq_iff_eq, bne_iff_ne, ne_eq, Bool.not_eq_true', Bool.not_eq_false', beq_eq_false_iff_ne, bne_eq_false_iff_eq, Bool.not_eq_true, Bool.not_eq_false, Int.not_lt, Int.not_le, gt_iff_lt, ge_iff_le, Bool.and_eq_true, Bool.and_eq_false_iff, Bool.or_eq_true, Bool.or_eq_false_iff] at h3
        exfalso; have h3q : (4000 : Int) < ((sealT s).size : Int) := h3; omega
      · try rw [h3]
        try simp only [decide_eq_true_eq, decide_eq_false_iff_not, beq_iff_eq, bne_iff_ne, ne_eq, Bool.not_eq_true', Bool.not_eq_false', beq_eq_false_iff_ne, bne_eq_false_iff_eq, Bool.not_eq_true, Bool.not_eq_false, Int.not_lt, Int.not_le, gt_iff_lt, ge_iff_le, Bool.and_eq_true, Bool.and_eq_false_iff, Bool.or_eq_true, Bool.or_eq_false_iff] at h3
        refine W_skip (hK5 _ ?_)
        clear hK5 K5
        refine W_seq (fun K7 hK7 => ?_)
        refine W_region (WL_cons rfl (WX_q rfl rfl (q_move rfl rfl) (WL_cons rfl (WX_q rfl rfl (q_assign rfl rfl) (WL_cons rfl (WX_q rfl rfl (q_assign rfl rfl) (?_)))))))
        refine WL_nil (hK7 _ ?_)
        clear hK7 K7
        refine W_ret (fin_many rfl rfl rfl rfl (rcs_cons (rc_v ?_) (rcs_cons (rc_v ?_) rcs_nil)))
        all_goals (first | rfl | (simp_all; done))

theorem c_spec_l27Line (k : Int) (x : Rec) (hk : 0 ≤ k) (hk2 : k ≤ 1000000) (hx : recOK x = true) : Ctr Tryd.prog 44 [.v (.int .i64 k), .v (encR x)] (.one (.v (.string (lineT k x)))) := by
  have hbs := body_size hk (by omega) hx
  have hst := body_stands hk hx
  obtain ⟨hx1, hx2, hx3, hx4, hx5⟩ := recOK_ok hx
  have hz := numT_size (n := k) (by omega) (by omega)
  have hss := seal_size (s := bodyT k x)
  refine Ctr.of (n := 17) G Tryd.func44 rfl (by kernel_rfl) rfl rfl rfl (fun w0 => ?_)
  refine W_seq (fun K1 hK1 => ?_)
  refine W_region (WL_cons rfl (WX_box 1 rfl rfl rfl rfl rfl rfl rfl (WL_cons rfl (WX_q rfl rfl (q_assign rfl rfl) (?_)))))
  refine WL_nil (hK1 _ ?_)
  clear hK1 K1
  refine W_seq (fun K2 hK2 => ?_)
  refine W_draws mixed (by kernel_rfl) (QL_cons rfl (QX_q rfl rfl (q_move rfl rfl) (QL_cons rfl (?_))))
  refine QX_q rfl rfl (q_call rfl (ArgsOK.of rfl) (c_spec_l1Num _ (by omega) (by omega)) rfl) ?_
  refine QL_cons rfl (?_)
  refine QX_q rfl rfl (q_cat rfl rfl rfl (by (try simp only [ByteArray.size_append, size_lit, List.size_toArray, List.length_cons, List.length_nil]); omega)) ?_
  refine QL_cons rfl (QX_q rfl rfl (q_field_ptr G rfl rfl rfl rfl) (QL_cons rfl (QX_q rfl rfl (q_load_box G rfl rfl rfl rfl rfl rfl rfl) (QL_cons rfl (?_)))))
  refine QX_q rfl rfl (q_cat rfl rfl rfl (by (try simp only [ByteArray.size_append, size_lit, List.size_toArray, List.length_cons, List.length_nil]); omega)) ?_
  refine QL_cons rfl (?_)
  refine QX_q rfl rfl (q_cat rfl rfl rfl (by (try simp only [ByteArray.size_append, size_lit, List.size_toArray, List.length_cons, List.length_nil]); omega)) ?_
  refine QL_cons rfl (QX_q rfl rfl (q_field_ptr G rfl rfl rfl rfl) (QL_cons rfl (QX_q rfl rfl (q_load_box G rfl rfl rfl rfl rfl rfl rfl) (QL_cons rfl (?_)))))
  refine QX_q rfl rfl (q_cat rfl rfl rfl (by (try simp only [ByteArray.size_append, size_lit, List.size_toArray, List.length_cons, List.length_nil]); omega)) ?_
  refine QL_cons rfl (?_)
  refine QX_q rfl rfl (q_call rfl (ArgsOK.of rfl) (c_spec_l1Seal (bodyT k x) (by omega)) rfl) ?_
  refine QL_cons rfl (?_)
  refine QX_q rfl rfl (q_cat rfl rfl rfl (by (try simp only [ByteArray.size_append, size_lit, List.size_toArray, List.length_cons, List.length_nil]); omega)) ?_
  refine QL_cons rfl (QX_q rfl rfl (q_assign rfl rfl) (?_))
  refine QL_nil (hK2 _ ?_)
  clear hK2 K2
  refine W_ret (fin_one rfl (rc_v ?_))
  all_goals (rfl)

theorem c_impl_encodeRecord (k : Int) (x : Rec) (hk : 0 ≤ k) (hk2 : k ≤ 1000000) (hx : recOK x = true) : Ctr Tryd.prog 46 [.v (.int .i64 k), .v (encR x)] (.one (.v (.string (lineT k x)))) := by
  have hbs := body_size hk (by omega) hx
  have hst := body_stands hk hx
  obtain ⟨hx1, hx2, hx3, hx4, hx5⟩ := recOK_ok hx
  have hz := numT_size (n := k) (by omega) (by omega)
  have hss := seal_size (s := bodyT k x)
  refine Ctr.of (n := 23) G Tryd.func46 rfl (by kernel_rfl) rfl rfl rfl (fun w0 => ?_)
  refine W_seq (fun K1 hK1 => ?_)
  refine W_region (WL_cons rfl (WX_box 1 rfl rfl rfl rfl rfl rfl rfl (WL_cons rfl (WX_q rfl rfl (q_assign rfl rfl) (?_)))))
  refine WL_nil (hK1 _ ?_)
  clear hK1 K1
  refine W_seq (fun K2 hK2 => ?_)
  refine W_draws mixed (by kernel_rfl) (QL_cons rfl (QX_q rfl rfl (q_move rfl rfl) (QL_cons rfl (?_))))
  refine QX_q rfl rfl (q_call rfl (ArgsOK.of rfl) (c_strconv_Itoa _ (by omega) (by omega)) rfl) ?_
  refine QL_cons rfl (?_)
  refine QX_q rfl rfl (q_cat rfl rfl rfl (by (try simp only [ByteArray.size_append, size_lit, List.size_toArray, List.length_cons, List.length_nil]); omega)) ?_
  refine QL_cons rfl (QX_q rfl rfl (q_field_ptr G rfl rfl rfl rfl) (QL_cons rfl (QX_q rfl rfl (q_load_box G rfl rfl rfl rfl rfl rfl rfl) (QL_cons rfl (?_)))))
  refine QX_q rfl rfl (q_cat rfl rfl rfl (by (try simp only [ByteArray.size_append, size_lit, List.size_toArray, List.length_cons, List.length_nil]); omega)) ?_
  refine QL_cons rfl (?_)
  refine QX_q rfl rfl (q_cat rfl rfl rfl (by (try simp only [ByteArray.size_append, size_lit, List.size_toArray, List.length_cons, List.length_nil]); omega)) ?_
  refine QL_cons rfl (QX_q rfl rfl (q_field_ptr G rfl rfl rfl rfl) (QL_cons rfl (QX_q rfl rfl (q_load_box G rfl rfl rfl rfl rfl rfl rfl) (QL_cons rfl (?_)))))
  refine QX_q rfl rfl (q_cat rfl rfl rfl (by (try simp only [ByteArray.size_append, size_lit, List.size_toArray, List.length_cons, List.length_nil]); omega)) ?_
  refine QL_cons rfl (?_)
  refine QX_q rfl rfl (q_call rfl (ArgsOK.of rfl) (c_impl_AppendChecksum (bodyT k x) (by omega) hst) rfl) ?_
  refine QL_cons rfl (QX_q rfl rfl (q_move rfl rfl) (QL_cons rfl (QX_q rfl rfl (q_extract rfl rfl rfl) (QL_cons rfl (QX_q rfl rfl (q_extract rfl rfl rfl) (QL_cons rfl (QX_q rfl rfl (q_assign rfl rfl) (QL_cons rfl (QX_q rfl rfl (q_assign rfl rfl) (?_))))))))))
  refine QL_nil (hK2 _ ?_)
  clear hK2 K2
  refine W_seq (fun K3 hK3 => ?_)
  refine W_region (WL_cons rfl (WX_q rfl rfl (q_move rfl rfl) (WL_cons rfl (?_))))
  refine WX_q rfl rfl (q_cat rfl rfl rfl (by (try simp only [ByteArray.size_append, size_lit, List.size_toArray, List.length_cons, List.length_nil]); omega)) ?_
  refine WL_cons rfl (WX_q rfl rfl (q_assign rfl rfl) (?_))
  refine WL_nil (hK3 _ ?_)
  clear hK3 K3
  refine W_ret (fin_one rfl (rc_v ?_))
  all_goals (rfl)

theorem c_spec_EncodeRecord (k : Int) (x : Rec) (h0 : x.c.size ≤ 9223372036854775807 ∧ x.r.size ≤ 9223372036854775807) : Ctr Tryd.prog 14 [.v (.int .i64 k), .v (encR x)] (.many [.v (.string (if inside k 0 59 && recOK x then lineT k x else ⟨#[]⟩)), .v (.bool (inside k 0 59 && recOK x))]) := by
  refine Ctr.of (n := 17) G Tryd.func14 rfl (by kernel_rfl) rfl rfl rfl (fun w0 => ?_)
  refine W_seq (fun K1 hK1 => ?_)
  refine W_region (WL_cons rfl (WX_box 1 rfl rfl rfl rfl rfl rfl rfl (WL_cons rfl (WX_q rfl rfl (q_assign rfl rfl) (WL_cons rfl (WX_q rfl rfl (q_assign rfl rfl) (?_)))))))
  refine WL_nil (hK1 _ ?_)
  clear hK1 K1
  refine W_seq (fun K2 hK2 => ?_)
  refine W_seq (fun K3 hK3 => ?_)
  refine W_region (WL_cons rfl (WX_q rfl rfl (q_move rfl rfl) (WL_cons rfl (?_))))
  refine WX_q rfl rfl (q_call rfl (ArgsOK.of rfl) (c_spec_l1In _ _ _) rfl) ?_
  refine WL_cons rfl (WX_q rfl rfl (q_not rfl rfl) (WL_cons rfl (WX_q rfl rfl (q_move rfl rfl) (WL_part rfl rfl rfl (fun h1 => ?_) (fun h1 => ?_)))))
  · try rw [h1]
    try simp only [decide_eq_true_eq, decide_eq_false_iff_not, beq_iff_eq, bne_iff_ne, ne_eq, Bool.not_eq_true', Bool.not_eq_false', beq_eq_false_iff_ne, bne_eq_false_iff_eq, Bool.not_eq_true, Bool.not_eq_false, Int.not_lt, Int.not_le, gt_iff_lt, ge_iff_le, Bool.and_eq_true, Bool.and_eq_false_iff, Bool.or_eq_true, Bool.or_eq_false_iff] at h1
    refine WL_skip rfl rfl rfl rfl rfl rfl (WL_skip rfl rfl rfl rfl rfl rfl (WL_skip rfl rfl rfl rfl rfl rfl (WL_cons rfl (WX_q rfl rfl (q_pick_t rfl rfl rfl) (?_)))))
    refine WL_nil (hK3 _ ?_)
    clear hK3 K3
    refine W_true rfl ?_
    refine W_seq (fun K4 hK4 => ?_)
    refine W_region (WL_cons rfl (WX_q rfl rfl (q_assign rfl rfl) (WL_cons rfl (WX_q rfl rfl (q_assign rfl rfl) (?_)))))
    refine WL_nil (hK4 _ ?_)
    clear hK4 K4
    refine W_ret (fin_many rfl rfl rfl rfl (rcs_cons (rc_v ?_) (rcs_cons (rc_v ?_) rcs_nil)))
    all_goals clear hK2 K2
    all_goals (first | rfl | (simp_all; done))
  · try rw [h1]
    try simp only [decide_eq_true_eq, decide_eq_false_iff_not, beq_iff_eq, bne_iff_ne, ne_eq, Bool.not_eq_true', Bool.not_eq_false', beq_eq_false_iff_ne, bne_eq_false_iff_eq, Bool.not_eq_true, Bool.not_eq_false, Int.not_lt, Int.not_le, gt_iff_lt, ge_iff_le, Bool.and_eq_true, Bool.and_eq_false_iff, Bool.or_eq_true, Bool.or_eq_false_iff] at h1
    try have hk := inside_t.mp h1
    refine WL_run rfl rfl rfl (WX_q rfl rfl (q_load_box_struct G rfl rfl rfl rfl rfl rfl) (WL_run rfl rfl rfl (?_)))
    refine WX_q rfl rfl (q_call rfl (ArgsOK.of rfl) (c_spec_l27Good _ (by assumption)) rfl) ?_
    refine WL_run rfl rfl rfl (WX_q rfl rfl (q_not rfl rfl) (WL_cons rfl (WX_q rfl rfl (q_pick_f rfl rfl rfl) (?_))))
    refine WL_nil (hK3 _ ?_)
    clear hK3 K3
    refine W_cond rfl (fun h2 => ?_) (fun h2 => ?_)
    · try rw [h2]
      try simp only [decide_eq_true_eq, decide_eq_false_iff_not, beq_iff_eq, bne_iff_ne, ne_eq, Bool.not_eq_true', Bool.not_eq_false', beq_eq_false_iff_ne, bne_eq_false_iff_eq, Bool.not_eq_true, Bool.not_eq_false, Int.not_lt, Int.not_le, gt_iff_lt, ge_iff_le, Bool.and_eq_true, Bool.and_eq_false_iff, Bool.or_eq_true, Bool.or_eq_false_iff] at h2
      refine W_seq (fun K5 hK5 => ?_)
      refine W_region (WL_cons rfl (WX_q rfl rfl (q_assign rfl rfl) (WL_cons rfl (WX_q rfl rfl (q_assign rfl rfl) (?_)))))
      refine WL_nil (hK5 _ ?_)
      clear hK5 K5
      refine W_ret (fin_many rfl rfl rfl rfl (rcs_cons (rc_v ?_) (rcs_cons (rc_v ?_) rcs_nil)))
      all_goals clear hK2 K2
      all_goals (first | rfl | (simp_all; done))
    · try rw [h2]
      try simp only [decide_eq_true_eq, decide_eq_false_iff_not, beq_iff_eq, bne_iff_ne, ne_eq, Bool.not_eq_true', Bool.not_eq_false', beq_eq_false_iff_ne, bne_eq_false_iff_eq, Bool.not_eq_true, Bool.not_eq_false, Int.not_lt, Int.not_le, gt_iff_lt, ge_iff_le, Bool.and_eq_true, Bool.and_eq_false_iff, Bool.or_eq_true, Bool.or_eq_false_iff] at h2
      try have hk := inside_t.mp h1
      refine W_skip (hK2 _ ?_)
      clear hK2 K2
      refine W_seq (fun K6 hK6 => ?_)
      refine W_region (WL_cons rfl (WX_q rfl rfl (q_move rfl rfl) (WL_cons rfl (WX_q rfl rfl (q_load_box_struct G rfl rfl rfl rfl rfl rfl) (WL_cons rfl (?_))))))
      refine WX_q rfl rfl (q_call rfl (ArgsOK.of rfl) (c_spec_l27Line _ _ (by first | assumption | omega) (by first | assumption | omega) (by assumption)) rfl) ?_
      refine WL_cons rfl (WX_q rfl rfl (q_assign rfl rfl) (WL_cons rfl (WX_q rfl rfl (q_assign rfl rfl) (?_))))
      refine WL_nil (hK6 _ ?_)
      clear hK6 K6
      refine W_ret (fin_many rfl rfl rfl rfl (rcs_cons (rc_v ?_) (rcs_cons (rc_v ?_) rcs_nil)))
      all_goals (first | rfl | (simp_all; done))

theorem c_impl_EncodeRecord (k : Int) (x : Rec) (h0 : x.c.size ≤ 9223372036854775807 ∧ x.r.size ≤ 9223372036854775807) : Ctr Tryd.prog 16 [.v (.int .i64 k), .v (encR x)] (.many [.v (.string (if inside k 0 59 && recOK x then lineT k x else ⟨#[]⟩)), .v (.bool (inside k 0 59 && recOK x))]) := by
  refine Ctr.of (n := 17) G Tryd.func16 rfl (by kernel_rfl) rfl rfl rfl (fun w0 => ?_)
  refine W_seq (fun K1 hK1 => ?_)
  refine W_region (WL_cons rfl (WX_box 1 rfl rfl rfl rfl rfl rfl rfl (WL_cons rfl (WX_q rfl rfl (q_assign rfl rfl) (WL_cons rfl (WX_q rfl rfl (q_assign rfl rfl) (?_)))))))
  refine WL_nil (hK1 _ ?_)
  clear hK1 K1
  refine W_seq (fun K2 hK2 => ?_)
  refine W_seq (fun K3 hK3 => ?_)
  refine W_region (WL_cons rfl (WX_q rfl rfl (q_move rfl rfl) (WL_cons rfl (?_))))
  refine WX_q rfl rfl (q_call rfl (ArgsOK.of rfl) (c_impl_inside _ _ _) rfl) ?_
  refine WL_cons rfl (WX_q rfl rfl (q_not rfl rfl) (WL_cons rfl (WX_q rfl rfl (q_move rfl rfl) (WL_part rfl rfl rfl (fun h1 => ?_) (fun h1 => ?_)))))
  · try rw [h1]
    try simp only [decide_eq_true_eq, decide_eq_false_iff_not, beq_iff_eq, bne_iff_ne, ne_eq, Bool.not_eq_true', Bool.not_eq_false', beq_eq_false_iff_ne, bne_eq_false_iff_eq, Bool.not_eq_true, Bool.not_eq_false, Int.not_lt, Int.not_le, gt_iff_lt, ge_iff_le, Bool.and_eq_true, Bool.and_eq_false_iff, Bool.or_eq_true, Bool.or_eq_false_iff] at h1
    refine WL_skip rfl rfl rfl rfl rfl rfl (WL_skip rfl rfl rfl rfl rfl rfl (WL_skip rfl rfl rfl rfl rfl rfl (WL_cons rfl (WX_q rfl rfl (q_pick_t rfl rfl rfl) (?_)))))
    refine WL_nil (hK3 _ ?_)
    clear hK3 K3
    refine W_true rfl ?_
    refine W_seq (fun K4 hK4 => ?_)
    refine W_region (WL_cons rfl (WX_q rfl rfl (q_assign rfl rfl) (WL_cons rfl (WX_q rfl rfl (q_assign rfl rfl) (?_)))))
    refine WL_nil (hK4 _ ?_)
    clear hK4 K4
    refine W_ret (fin_many rfl rfl rfl rfl (rcs_cons (rc_v ?_) (rcs_cons (rc_v ?_) rcs_nil)))
    all_goals clear hK2 K2
    all_goals (first | rfl | (simp_all; done))
  · try rw [h1]
    try simp only [decide_eq_true_eq, decide_eq_false_iff_not, beq_iff_eq, bne_iff_ne, ne_eq, Bool.not_eq_true', Bool.not_eq_false', beq_eq_false_iff_ne, bne_eq_false_iff_eq, Bool.not_eq_true, Bool.not_eq_false, Int.not_lt, Int.not_le, gt_iff_lt, ge_iff_le, Bool.and_eq_true, Bool.and_eq_false_iff, Bool.or_eq_true, Bool.or_eq_false_iff] at h1
    try have hk := inside_t.mp h1
    refine WL_run rfl rfl rfl (WX_q rfl rfl (q_load_box_struct G rfl rfl rfl rfl rfl rfl) (WL_run rfl rfl rfl (?_)))
    refine WX_q rfl rfl (q_call rfl (ArgsOK.of rfl) (c_impl_IsValidRecord _ (by assumption)) rfl) ?_
    refine WL_run rfl rfl rfl (WX_q rfl rfl (q_not rfl rfl) (WL_cons rfl (WX_q rfl rfl (q_pick_f rfl rfl rfl) (?_))))
    refine WL_nil (hK3 _ ?_)
    clear hK3 K3
    refine W_cond rfl (fun h2 => ?_) (fun h2 => ?_)
    · try rw [h2]
      try simp only [decide_eq_true_eq, decide_eq_false_iff_not, beq_iff_eq, bne_iff_ne, ne_eq, Bool.not_eq_true', Bool.not_eq_false', beq_eq_false_iff_ne, bne_eq_false_iff_eq, Bool.not_eq_true, Bool.not_eq_false, Int.not_lt, Int.not_le, gt_iff_lt, ge_iff_le, Bool.and_eq_true, Bool.and_eq_false_iff, Bool.or_eq_true, Bool.or_eq_false_iff] at h2
      refine W_seq (fun K5 hK5 => ?_)
      refine W_region (WL_cons rfl (WX_q rfl rfl (q_assign rfl rfl) (WL_cons rfl (WX_q rfl rfl (q_assign rfl rfl) (?_)))))
      refine WL_nil (hK5 _ ?_)
      clear hK5 K5
      refine W_ret (fin_many rfl rfl rfl rfl (rcs_cons (rc_v ?_) (rcs_cons (rc_v ?_) rcs_nil)))
      all_goals clear hK2 K2
      all_goals (first | rfl | (simp_all; done))
    · try rw [h2]
      try simp only [decide_eq_true_eq, decide_eq_false_iff_not, beq_iff_eq, bne_iff_ne, ne_eq, Bool.not_eq_true', Bool.not_eq_false', beq_eq_false_iff_ne, bne_eq_false_iff_eq, Bool.not_eq_true, Bool.not_eq_false, Int.not_lt, Int.not_le, gt_iff_lt, ge_iff_le, Bool.and_eq_true, Bool.and_eq_false_iff, Bool.or_eq_true, Bool.or_eq_false_iff] at h2
      try have hk := inside_t.mp h1
      refine W_skip (hK2 _ ?_)
      clear hK2 K2
      refine W_seq (fun K6 hK6 => ?_)
      refine W_region (WL_cons rfl (WX_q rfl rfl (q_move rfl rfl) (WL_cons rfl (WX_q rfl rfl (q_load_box_struct G rfl rfl rfl rfl rfl rfl) (WL_cons rfl (?_))))))
      refine WX_q rfl rfl (q_call rfl (ArgsOK.of rfl) (c_impl_encodeRecord _ _ (by first | assumption | omega) (by first | assumption | omega) (by assumption)) rfl) ?_
      refine WL_cons rfl (WX_q rfl rfl (q_assign rfl rfl) (WL_cons rfl (WX_q rfl rfl (q_assign rfl rfl) (?_))))
      refine WL_nil (hK6 _ ?_)
      clear hK6 K6
      refine W_ret (fin_many rfl rfl rfl rfl (rcs_cons (rc_v ?_) (rcs_cons (rc_v ?_) rcs_nil)))
      all_goals (first | rfl | (simp_all; done))

theorem c_laws_FnExactEncodeRecord (k : Int) (x : Rec) (h0 : x.c.size ≤ 9223372036854775807 ∧ x.r.size ≤ 9223372036854775807) : Ctr Tryd.prog 3 [.v (.int .i64 k), .v (encR x)] (.one (.v (.bool true))) := by
  refine Ctr.of (n := 37) G Tryd.func3 rfl (by kernel_rfl) rfl rfl rfl (fun w0 => ?_)
  refine W_seq (fun K1 hK1 => ?_)
  refine W_region (WL_cons rfl (WX_box 1 rfl rfl rfl rfl rfl rfl rfl (WL_cons rfl (WX_q rfl rfl (q_assign rfl rfl) (?_)))))
  refine WL_nil (hK1 _ ?_)
  clear hK1 K1
  refine W_seq (fun K2 hK2 => ?_)
  refine W_region (WL_cons rfl (WX_q rfl rfl (q_assign rfl rfl) (?_)))
  refine WL_nil (hK2 _ ?_)
  clear hK2 K2
  refine W_seq (fun K3 hK3 => ?_)
  refine W_region (WL_cons rfl (WX_q rfl rfl (q_load_box_struct G rfl rfl rfl rfl rfl rfl) (WL_cons rfl (WX_q rfl rfl (q_move rfl rfl) (WL_cons rfl (?_))))))
  refine WX_q rfl rfl (q_call rfl (ArgsOK.of rfl) (c_laws_szLogRecord _ _ (by assumption) (by first | assumption | omega)) rfl) ?_
  refine WL_cons rfl (WX_q rfl rfl (q_assign rfl rfl) (?_))
  refine WL_nil (hK3 _ ?_)
  clear hK3 K3
  refine W_seq (fun K4 hK4 => ?_)
  refine W_seq (fun K5 hK5 => ?_)
  refine W_region (WL_cons rfl (WX_q rfl rfl (q_move rfl rfl) (WL_cons rfl (WX_q rfl rfl (q_cmp rfl rfl rfl rfl) (?_)))))
  refine WL_nil (hK5 _ ?_)
  clear hK5 K5
  refine W_cond rfl (fun h1 => ?_) (fun h1 => ?_)
  · try rw [h1]
    try simp only [decide_eq_true_eq, decide_eq_false_iff_not, beq_iff_eq, bne_iff_ne, ne_eq, Bool.not_eq_true', Bool.not_eq_false', beq_eq_false_iff_ne, bne_eq_false_iff_eq, Bool.not_eq_true, Bool.not_eq_false, Int.not_lt, Int.not_le, gt_iff_lt, ge_iff_le, Bool.and_eq_true, Bool.and_eq_false_iff, Bool.or_eq_true, Bool.or_eq_false_iff] at h1
    refine W_seq (fun K6 hK6 => ?_)
    refine W_region (WL_cons rfl (WX_q rfl rfl (q_assign rfl rfl) (?_)))
    refine WL_nil (hK6 _ ?_)
    clear hK6 K6
    refine W_ret (fin_one rfl (rc_v ?_))
    all_goals clear hK4 K4
    all_goals ((first | rfl | (simp_all; done) | (simp_all; omega)))
  · try rw [h1]
    try simp only [decide_eq_true_eq, decide_eq_false_iff_not, beq_iff_eq, bne_iff_ne, ne_eq, Bool.not_eq_true', Bool.not_eq_false', beq_eq_false_iff_ne, bne_eq_false_iff_eq, Bool.not_eq_true, Bool.not_eq_false, Int.not_lt, Int.not_le, gt_iff_lt, ge_iff_le, Bool.and_eq_true, Bool.and_eq_false_iff, Bool.or_eq_true, Bool.or_eq_false_iff] at h1
    refine W_skip (hK4 _ ?_)
    clear hK4 K4
    refine W_seq (fun K7 hK7 => ?_)
    refine W_region (WL_cons rfl (WX_q rfl rfl (q_move rfl rfl) (WL_cons rfl (WX_q rfl rfl (q_load_box_struct G rfl rfl rfl rfl rfl rfl) (WL_cons rfl (?_))))))
    refine WX_q rfl rfl (q_call rfl (ArgsOK.of rfl) (c_laws_toLogRecord _) rfl) ?_
    refine WL_cons rfl (?_)
    refine WX_q rfl rfl (q_call rfl (ArgsOK.of rfl) (c_spec_EncodeRecord _ _ (by assumption)) rfl) ?_
    refine WL_cons rfl (WX_q rfl rfl (q_move rfl rfl) (WL_cons rfl (WX_q rfl rfl (q_extract rfl rfl rfl) (WL_cons rfl (WX_q rfl rfl (q_extract rfl rfl rfl) (WL_cons rfl (WX_q rfl rfl (q_assign rfl rfl) (WL_cons rfl (WX_q rfl rfl (q_assign rfl rfl) (?_))))))))))
    refine WL_nil (hK7 _ ?_)
    clear hK7 K7
    refine W_seq (fun K8 hK8 => ?_)
    refine W_region (WL_cons rfl (WX_q rfl rfl (q_move rfl rfl) (WL_cons rfl (WX_q rfl rfl (q_load_box_struct G rfl rfl rfl rfl rfl rfl) (WL_cons rfl (?_))))))
    refine WX_q rfl rfl (q_call rfl (ArgsOK.of rfl) (c_laws_toLogRecord _) rfl) ?_
    refine WL_cons rfl (?_)
    refine WX_q rfl rfl (q_call rfl (ArgsOK.of rfl) (c_impl_EncodeRecord _ _ (by assumption)) rfl) ?_
    refine WL_cons rfl (WX_q rfl rfl (q_move rfl rfl) (WL_cons rfl (WX_q rfl rfl (q_extract rfl rfl rfl) (WL_cons rfl (WX_q rfl rfl (q_extract rfl rfl rfl) (WL_cons rfl (WX_q rfl rfl (q_assign rfl rfl) (WL_cons rfl (WX_q rfl rfl (q_assign rfl rfl) (?_))))))))))
    refine WL_nil (hK8 _ ?_)
    clear hK8 K8
    refine W_seq (fun K9 hK9 => ?_)
    refine W_seq (fun K10 hK10 => ?_)
    refine W_region (WL_cons rfl (WX_q rfl rfl (q_move rfl rfl) (WL_cons rfl (WX_q rfl rfl (q_move rfl rfl) (WL_cons rfl (WX_q rfl rfl (q_cmp_str rfl rfl rfl rfl) (WL_cons rfl (WX_q rfl rfl (q_move rfl rfl) (WL_part rfl rfl rfl (fun h2 => ?_) (fun h2 => ?_))))))))))
    · try rw [h2]
      try simp only [decide_eq_true_eq, decide_eq_false_iff_not, beq_iff_eq, bne_iff_ne, ne_eq, Bool.not_eq_true', Bool.not_eq_false', beq_eq_false_iff_ne, bne_eq_false_iff_eq, Bool.not_eq_true, Bool.not_eq_false, Int.not_lt, Int.not_le, gt_iff_lt, ge_iff_le, Bool.and_eq_true, Bool.and_eq_false_iff, Bool.or_eq_true, Bool.or_eq_false_iff] at h2
      refine WL_skip rfl rfl rfl rfl rfl rfl (WL_skip rfl rfl rfl rfl rfl rfl (WL_skip rfl rfl rfl rfl rfl rfl (WL_cons rfl (WX_q rfl rfl (q_pick_t rfl rfl rfl) (?_)))))
      refine WL_nil (hK10 _ ?_)
      clear hK10 K10
      refine W_true rfl ?_
      refine W_seq (fun K11 hK11 => ?_)
      refine W_region (WL_cons rfl (WX_q rfl rfl (q_assign rfl rfl) (?_)))
      refine WL_nil (hK11 _ ?_)
      clear hK11 K11
      refine W_ret (fin_one rfl (rc_v ?_))
      all_goals clear hK9 K9
      all_goals ((first | rfl | (simp_all; done) | (simp_all; omega)))
    · try rw [h2]
      try simp only [decide_eq_true_eq, decide_eq_false_iff_not, beq_iff_eq, bne_iff_ne, ne_eq, Bool.not_eq_true', Bool.not_eq_false', beq_eq_false_iff_ne, bne_eq_false_iff_eq, Bool.not_eq_true, Bool.not_eq_false, Int.not_lt, Int.not_le, gt_iff_lt, ge_iff_le, Bool.and_eq_true, Bool.and_eq_false_iff, Bool.or_eq_true, Bool.or_eq_false_iff] at h2
      refine WL_run rfl rfl rfl (WX_q rfl rfl (q_move rfl rfl) (WL_run rfl rfl rfl (WX_q rfl rfl (q_move rfl rfl) (WL_run rfl rfl rfl (WX_q rfl rfl (q_bne (G 4 _ rfl).1 rfl rfl rfl) (WL_cons rfl (WX_q rfl rfl (q_pick_f rfl rfl rfl) (?_))))))))
      refine WL_nil (hK10 _ ?_)
      clear hK10 K10
      refine W_cond rfl (fun h3 => ?_) (fun h3 => ?_)
      · try rw [h3]
        try simp only [decide_eq_true_eq, decide_eq_false_iff_not, beq_iff_eq, bne_iff_ne, ne_eq, Bool.not_eq_true', Bool.not_eq_false', beq_eq_false_iff_ne, bne_eq_false_iff_eq, Bool.not_eq_true, Bool.not_eq_false, Int.not_lt, Int.not_le, gt_iff_lt, ge_iff_le, Bool.and_eq_true, Bool.and_eq_false_iff, Bool.or_eq_true, Bool.or_eq_false_iff] at h3
        refine W_seq (fun K12 hK12 => ?_)
        refine W_region (WL_cons rfl (WX_q rfl rfl (q_assign rfl rfl) (?_)))
        refine WL_nil (hK12 _ ?_)
        clear hK12 K12
        refine W_ret (fin_one rfl (rc_v ?_))
        all_goals clear hK9 K9
        all_goals ((first | rfl | (simp_all; done) | (simp_all; omega)))
      · try rw [h3]
        try simp only [decide_eq_true_eq, decide_eq_false_iff_not, beq_iff_eq, bne_iff_ne, ne_eq, Bool.not_eq_true', Bool.not_eq_false', beq_eq_false_iff_ne, bne_eq_false_iff_eq, Bool.not_eq_true, Bool.not_eq_false, Int.not_lt, Int.not_le, gt_iff_lt, ge_iff_le, Bool.and_eq_true, Bool.and_eq_false_iff, Bool.or_eq_true, Bool.or_eq_false_iff] at h3
        refine W_skip (hK9 _ ?_)
        clear hK9 K9
        refine W_seq (fun K13 hK13 => ?_)
        refine W_region (WL_cons rfl (WX_q rfl rfl (q_assign rfl rfl) (?_)))
        refine WL_nil (hK13 _ ?_)
        clear hK13 K13
        refine W_ret (fin_one rfl (rc_v ?_))
        all_goals ((first | rfl | (simp_all; done) | (simp_all; omega)))

end Go.Proofs.YthpllgbaeokeiaaDoor
