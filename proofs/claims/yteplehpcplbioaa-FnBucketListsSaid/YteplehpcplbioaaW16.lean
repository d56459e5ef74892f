/- Walks through functions of the program, one contract each (written by gen.py). -/
import Derived.Test.YteplehpcplbioaaW6
import Derived.Test.YteplehpcplbioaaM2
import Derived.Test.YteplehpcplbioaaRfI
set_option maxRecDepth 20000
set_option linter.unusedVariables false
set_option linter.unusedSimpArgs false
namespace Go.Proofs.Yteplehpcplbioaa
open Go Go.Rf

theorem c_impl_UseOf_1 (x : Bucket) (g : Int) : Ctr Try.prog 78 [.v (encB x), .ept [.int .i64 g]] (.one (.v (.bool (x.g == g)))) := by
  refine Ctr.of (n := 8) G Try.func78 rfl (by kernel_rfl) rfl rfl rfl (fun w0 => ?_)
  refine W_seq (fun K1 hK1 => ?_)
  refine W_region (WL_cons rfl (WX_box 1 rfl rfl rfl rfl rfl rfl rfl (WL_cons rfl (WX_q rfl rfl (q_assign rfl rfl) (?_)))))
  refine WL_nil (hK1 _ ?_)
  clear hK1 K1
  refine W_seq (fun K2 hK2 => ?_)
  refine W_region (WL_cons rfl (WX_q rfl rfl (q_field_ptr G rfl rfl rfl rfl) (WL_cons rfl (WX_q rfl rfl (q_load_box G rfl rfl rfl rfl rfl rfl rfl) (WL_cons rfl (WX_q rfl rfl (q_load_ept G rfl rfl rfl rfl rfl) (WL_cons rfl (WX_q rfl rfl (q_cmp rfl rfl rfl rfl) (WL_cons rfl (WX_q rfl rfl (q_assign rfl rfl) (?_)))))))))))
  refine WL_nil (hK2 _ ?_)
  clear hK2 K2
  refine W_ret (fin_one rfl (rc_v ?_))
  all_goals (rfl)

theorem c_slices_IndexFunc_impl_Bucket_impl_Bucket (xs : List Bucket) (f : Nat) (c : List Value) (p : Bucket → Bool) (hl : xs.length ≤ 1048576) (hf : ∀ i, i < xs.length → Ctr Try.prog f [.v (encB (xs.getD i default)), .ept c] (.one (.v (.bool (p (xs.getD i default)))))) : Ctr Try.prog 77 [.lst 5 (xs.map encBc), .fnc f [.ept c]] (.one (.v (.int .i64 (idxN (fun i => p (xs.getD i default)) xs.length)))) := by
  refine Ctr.of (n := 19) G Try.func77 rfl (by kernel_rfl) rfl rfl rfl (fun w0 => ?_)
  refine W_seq (fun K1 hK1 => ?_)
  refine W_region (WL_cons rfl (WX_q rfl rfl (q_assign rfl rfl) (?_)))
  refine WL_nil (hK1 _ ?_)
  clear hK1 K1
  refine W_seq (fun K2 hK2 => ?_)
  refine W_seq (fun K3 hK3 => ?_)
  refine W_region (WL_cons rfl (WX_q rfl rfl (q_move rfl rfl) (WL_cons rfl (?_))))
  first | refine WX_q rfl rfl (q_len' G rfl rfl rfl rfl (List.length_map _)) ?_ | refine WX_q rfl rfl (q_len G rfl rfl rfl rfl) ?_
  refine WL_cons rfl (WX_q rfl rfl (q_move rfl rfl) (?_))
  refine WL_nil (hK3 _ ?_)
  clear hK3 K3
  refine W_block ?_
  refine W_loopK [0, 1, 7] [] (fun (i : Nat) => [(8, .v (.int .i64 (i : Int)))]) (fun (i : Nat) => []) (fun (i : Nat) => i ≤ xs.length ∧ ∀ j, j < i → p (xs.getD j default) = false) (fun (i : Nat) => xs.length - i) 0 rfl rfl ?_ ?_ ?_ ?_
  · exact ⟨Nat.zero_le _, fun j hj => by omega⟩
  · exact ⟨⟨_, rfl, by (first | rfl | (simp; done) | (simp; omega))⟩, rfl, trivial⟩
  · exact trivial
  · intro i hinv
    simp only [List.cons_append, List.nil_append]
    refine W_seq (fun K4 hK4 => ?_)
    refine W_region (WL_cons rfl (WX_q rfl rfl (q_cmp rfl rfl rfl rfl) (?_)))
    refine WL_nil (hK4 _ ?_)
    clear hK4 K4
    refine W_seq (fun K5 hK5 => ?_)
    refine W_cond rfl (fun h1 => ?_) (fun h1 => ?_)
    · try rw [h1]
      try simp only [decide_eq_true_eq, decide_eq_false_iff_not, beq_iff_eq, bne_iff_ne, ne_eq, Bool.not_eq_true', Bool.not_eq_false', beq_eq_false_iff_ne, bne_eq_false_iff_eq, Bool.not_eq_true, Bool.not_eq_false, Int.not_lt, Int.not_le, gt_iff_lt, ge_iff_le, Bool.and_eq_true, Bool.and_eq_false_iff, Bool.or_eq_true, Bool.or_eq_false_iff] at h1
      refine W_skip (hK5 _ ?_)
      clear hK5 K5
      refine W_seq (fun K6 hK6 => ?_)
      refine W_block ?_
      refine W_seq (fun K7 hK7 => ?_)
      refine W_region (WL_cons rfl (WX_q rfl rfl (q_move rfl rfl) (WL_cons rfl (WX_q rfl rfl (q_assign rfl rfl) (?_)))))
      refine WL_nil (hK7 _ ?_)
      clear hK7 K7
      refine W_seq (fun K8 hK8 => ?_)
      refine W_region (WL_cons rfl (WX_q rfl rfl (q_move rfl rfl) (WL_cons rfl (WX_q rfl rfl (q_move rfl rfl) (WL_cons rfl (WX_q rfl rfl (q_move rfl rfl) (WL_cons rfl (?_))))))))
      refine WX_q rfl rfl (q_index_lst G rfl rfl rfl rfl (by omega) (getN (by omega))) ?_
      refine WL_cons rfl (WX_q rfl rfl (q_load_ept_struct G rfl rfl rfl rfl) (WL_cons rfl (?_)))
      refine WX_q rfl rfl (q_callc rfl rfl (ArgsOK.of rfl) rfl (hf _ (by omega)) rfl) ?_
      refine WL_nil (hK8 _ ?_)
      clear hK8 K8
      refine W_cond rfl (fun h2 => ?_) (fun h2 => ?_)
      · try rw [h2]
        try simp only [decide_eq_true_eq, decide_eq_false_iff_not, beq_iff_eq, bne_iff_ne, ne_eq, Bool.not_eq_true', Bool.not_eq_false', beq_eq_false_iff_ne, bne_eq_false_iff_eq, Bool.not_eq_true, Bool.not_eq_false, Int.not_lt, Int.not_le, gt_iff_lt, ge_iff_le, Bool.and_eq_true, Bool.and_eq_false_iff, Bool.or_eq_true, Bool.or_eq_false_iff] at h2
        refine W_seq (fun K9 hK9 => ?_)
        refine W_region (WL_cons rfl (WX_q rfl rfl (q_move rfl rfl) (WL_cons rfl (WX_q rfl rfl (q_assign rfl rfl) (?_)))))
        refine WL_nil (hK9 _ ?_)
        clear hK9 K9
        refine W_ret (fin_one rfl (rc_v ?_))
        all_goals clear hK6 K6 hK2 K2
        all_goals (first | (rw [idx_some (i := i) hinv.2 (by omega) (by assumption)]; done) | (rw [idx_none hinv.2 (by omega)]; done))
      · try rw [h2]
        try simp only [decide_eq_true_eq, decide_eq_false_iff_not, beq_iff_eq, bne_iff_ne, ne_eq, Bool.not_eq_true', Bool.not_eq_false', beq_eq_false_iff_ne, bne_eq_false_iff_eq, Bool.not_eq_true, Bool.not_eq_false, Int.not_lt, Int.not_le, gt_iff_lt, ge_iff_le, Bool.and_eq_true, Bool.and_eq_false_iff, Bool.or_eq_true, Bool.or_eq_false_iff] at h2
        refine W_skip (hK6 _ ?_)
        clear hK6 K6
        refine W_region (WL_cons rfl (?_))
        first | refine WX_q rfl rfl (q_arith rfl rfl rfl rfl (by omega) (by omega)) ?_ | refine WX_q rfl rfl (q_wrap rfl rfl rfl rfl) ?_
        refine WL_cons rfl (WX_q rfl rfl (q_move rfl rfl) (?_))
        refine WL_nil ⟨(i + 1), ?_, ?_, ⟨⟨_, rfl, by rfl⟩, rfl, trivial⟩, trivial, rfl, rfl, rfl⟩
        · exact ⟨by omega, upto_succ hinv.2 (by assumption)⟩
        · omega
    · try rw [h1]
      try simp only [decide_eq_true_eq, decide_eq_false_iff_not, beq_iff_eq, bne_iff_ne, ne_eq, Bool.not_eq_true', Bool.not_eq_false', beq_eq_false_iff_ne, bne_eq_false_iff_eq, Bool.not_eq_true, Bool.not_eq_false, Int.not_lt, Int.not_le, gt_iff_lt, ge_iff_le, Bool.and_eq_true, Bool.and_eq_false_iff, Bool.or_eq_true, Bool.or_eq_false_iff] at h1
      refine W_exit (hK2 _ ?_)
      clear hK5 K5 hK2 K2
      refine W_seq (fun K10 hK10 => ?_)
      refine W_region (WL_cons rfl (WX_q rfl rfl (q_assign rfl rfl) (?_)))
      refine WL_nil (hK10 _ ?_)
      clear hK10 K10
      refine W_ret (fin_one rfl (rc_v ?_))
      all_goals (first | (rw [idx_some (i := i) hinv.2 (by omega) (by assumption)]; done) | (rw [idx_none hinv.2 (by omega)]; done))

theorem c_spec_UseOf (xs : List Bucket) (g t c : Int) (hn : xs.length ≤ 1048576) : Ctr Try.prog 42 [.lst 5 (xs.map encBc), .v (.int .i64 g), .v (.int .i64 t), .v (.int .i64 c)] (.many [.fr 26 5 ((uoT xs g t c).map encBc), .v (.bool (uoM xs g t c)), .v (.bool (uoOK xs g t c))]) := by
  refine Ctr.of (n := 65) G Try.func42 rfl (by kernel_rfl) rfl rfl rfl (fun w0 => ?_)
  refine W_seq (fun K1 hK1 => ?_)
  refine W_region (WL_cons rfl (WX_q rfl rfl (q_assign rfl rfl) (WL_cons rfl (WX_q rfl rfl (q_assign rfl rfl) (WL_cons rfl (WX_q rfl rfl (q_assign rfl rfl) (?_)))))))
  refine WL_nil (hK1 _ ?_)
  clear hK1 K1
  refine W_seq (fun K2 hK2 => ?_)
  refine W_seq (fun K3 hK3 => ?_)
  refine W_region (WL_cons rfl (WX_q rfl rfl (q_move rfl rfl) (WL_cons rfl (?_))))
  refine WX_q rfl rfl (q_call rfl (ArgsOK.of rfl) (c_spec_l23Good _ (by first | assumption | omega)) rfl) ?_
  refine WL_cons rfl (WX_q rfl rfl (q_not rfl rfl) (WL_cons rfl (WX_q rfl rfl (q_move rfl rfl) (WL_part rfl rfl rfl (fun h1 => ?_) (fun h1 => ?_)))))
  · try rw [h1]
    try simp only [decide_eq_true_eq, decide_eq_false_iff_not, beq_iff_eq, bne_iff_ne, ne_eq, Bool.not_eq_true', Bool.not_eq_false', beq_eq_false_iff_ne, bne_eq_false_iff_eq, Bool.not_eq_true, Bool.not_eq_false, Int.not_lt, Int.not_le, gt_iff_lt, ge_iff_le, Bool.and_eq_true, Bool.and_eq_false_iff, Bool.or_eq_true, Bool.or_eq_false_iff] at h1
    refine WL_skip rfl rfl rfl rfl rfl rfl (WL_skip rfl rfl rfl rfl rfl rfl (WL_skip rfl rfl rfl rfl rfl rfl (WL_cons rfl (WX_q rfl rfl (q_pick_t rfl rfl rfl) (?_)))))
    refine WL_nil (hK3 _ ?_)
    clear hK3 K3
    refine W_true rfl ?_
    refine W_seq (fun K4 hK4 => ?_)
    refine W_region (WL_cons rfl (WX_lit G 1 rfl rfl rfl rfl rfl rfl rfl rfl (WL_cons rfl (WX_q rfl rfl (q_assign rfl rfl) (WL_cons rfl (WX_q rfl rfl (q_assign rfl rfl) (WL_cons rfl (WX_q rfl rfl (q_assign rfl rfl) (?_)))))))))
    refine WL_nil (hK4 _ ?_)
    clear hK4 K4
    refine W_ret (fin_many rfl rfl rfl rfl (rcs_cons (rc_own rfl ?_) (rcs_cons (rc_v ?_) (rcs_cons (rc_v ?_) rcs_nil))))
    all_goals clear hK2 K2
    all_goals (first | (have e : uoOK xs g t c = false := (by first | (simp [uoOK, h1]; done) | (simp [uoOK, h2]; done) | (exact uoOK_none (fun j hj => hinv.2 j (by omega)))); simp [uoT, uoM, e]; done) | (have ek := uoK_of h1 (by omega) h4; have e : uoOK xs g t c = true := (by rw [uoOK, ek]; simp only [h1, h2, Int.toNat_natCast, h5]; simp); rw [uoT, if_pos e, ek]; simp [List.map_set, encBc]; done) | (have ek := uoK_of h1 (by omega) h4; have e : uoOK xs g t c = true := (by rw [uoOK, ek]; simp only [h1, h2, Int.toNat_natCast, h5]; simp); simp [uoM, e, ek]; done))
  · try rw [h1]
    try simp only [decide_eq_true_eq, decide_eq_false_iff_not, beq_iff_eq, bne_iff_ne, ne_eq, Bool.not_eq_true', Bool.not_eq_false', beq_eq_false_iff_ne, bne_eq_false_iff_eq, Bool.not_eq_true, Bool.not_eq_false, Int.not_lt, Int.not_le, gt_iff_lt, ge_iff_le, Bool.and_eq_true, Bool.and_eq_false_iff, Bool.or_eq_true, Bool.or_eq_false_iff] at h1
    refine WL_run rfl rfl rfl (WX_q rfl rfl (q_move rfl rfl) (WL_run rfl rfl rfl (?_)))
    refine WX_q rfl rfl (q_call rfl (ArgsOK.of rfl) (c_spec_l23Cost _) rfl) ?_
    refine WL_run rfl rfl rfl (WX_q rfl rfl (q_not rfl rfl) (WL_cons rfl (WX_q rfl rfl (q_pick_f rfl rfl rfl) (?_))))
    refine WL_nil (hK3 _ ?_)
    clear hK3 K3
    refine W_cond rfl (fun h2 => ?_) (fun h2 => ?_)
    · try rw [h2]
      try simp only [decide_eq_true_eq, decide_eq_false_iff_not, beq_iff_eq, bne_iff_ne, ne_eq, Bool.not_eq_true', Bool.not_eq_false', beq_eq_false_iff_ne, bne_eq_false_iff_eq, Bool.not_eq_true, Bool.not_eq_false, Int.not_lt, Int.not_le, gt_iff_lt, ge_iff_le, Bool.and_eq_true, Bool.and_eq_false_iff, Bool.or_eq_true, Bool.or_eq_false_iff] at h2
      refine W_seq (fun K5 hK5 => ?_)
      refine W_region (WL_cons rfl (WX_lit G 1 rfl rfl rfl rfl rfl rfl rfl rfl (WL_cons rfl (WX_q rfl rfl (q_assign rfl rfl) (WL_cons rfl (WX_q rfl rfl (q_assign rfl rfl) (WL_cons rfl (WX_q rfl rfl (q_assign rfl rfl) (?_)))))))))
      refine WL_nil (hK5 _ ?_)
      clear hK5 K5
      refine W_ret (fin_many rfl rfl rfl rfl (rcs_cons (rc_own rfl ?_) (rcs_cons (rc_v ?_) (rcs_cons (rc_v ?_) rcs_nil))))
      all_goals clear hK2 K2
      all_goals (first | (have e : uoOK xs g t c = false := (by first | (simp [uoOK, h1]; done) | (simp [uoOK, h2]; done) | (exact uoOK_none (fun j hj => hinv.2 j (by omega)))); simp [uoT, uoM, e]; done) | (have ek := uoK_of h1 (by omega) h4; have e : uoOK xs g t c = true := (by rw [uoOK, ek]; simp only [h1, h2, Int.toNat_natCast, h5]; simp); rw [uoT, if_pos e, ek]; simp [List.map_set, encBc]; done) | (have ek := uoK_of h1 (by omega) h4; have e : uoOK xs g t c = true := (by rw [uoOK, ek]; simp only [h1, h2, Int.toNat_natCast, h5]; simp); simp [uoM, e, ek]; done))
    · try rw [h2]
      try simp only [decide_eq_true_eq, decide_eq_false_iff_not, beq_iff_eq, bne_iff_ne, ne_eq, Bool.not_eq_true', Bool.not_eq_false', beq_eq_false_iff_ne, bne_eq_false_iff_eq, Bool.not_eq_true, Bool.not_eq_false, Int.not_lt, Int.not_le, gt_iff_lt, ge_iff_le, Bool.and_eq_true, Bool.and_eq_false_iff, Bool.or_eq_true, Bool.or_eq_false_iff] at h2
      refine W_skip (hK2 _ ?_)
      clear hK2 K2
      refine W_seq (fun K6 hK6 => ?_)
      refine W_seq (fun K7 hK7 => ?_)
      refine W_region (WL_cons rfl (WX_q rfl rfl (q_assign rfl rfl) (?_)))
      refine WL_nil (hK7 _ ?_)
      clear hK7 K7
      refine W_block ?_
      refine W_loopK [0, 1, 2, 3] [] (fun (i : Nat) => [(11, .v (.int .i64 (i : Int)))]) (fun (i : Nat) => []) (fun (i : Nat) => i ≤ xs.length ∧ ∀ j, j < i → ((xs.getD j default).g == g && okAt (xs.getD j default) t) = false) (fun (i : Nat) => xs.length - i) 0 rfl rfl ?_ ?_ ?_ ?_
      · exact ⟨Nat.zero_le _, fun j hj => by omega⟩
      · exact ⟨⟨_, rfl, by (first | rfl | (simp; done) | (simp; omega))⟩, rfl, trivial⟩
      · exact trivial
      · intro i hinv
        have hi : i ≤ xs.length := hinv.1
        simp only [List.cons_append, List.nil_append]
        refine W_seq (fun K8 hK8 => ?_)
        refine W_seq (fun K9 hK9 => ?_)
        refine W_region (WL_cons rfl (WX_q rfl rfl (q_move rfl rfl) (WL_cons rfl (WX_q rfl rfl (q_move rfl rfl) (WL_cons rfl (?_))))))
        first | refine WX_q rfl rfl (q_len' G rfl rfl rfl rfl (List.length_map _)) ?_ | refine WX_q rfl rfl (q_len G rfl rfl rfl rfl) ?_
        refine WL_cons rfl (WX_q rfl rfl (q_cmp rfl rfl rfl rfl) (?_))
        refine WL_nil (hK9 _ ?_)
        clear hK9 K9
        refine W_cond rfl (fun h3 => ?_) (fun h3 => ?_)
        · try rw [h3]
          try simp only [decide_eq_true_eq, decide_eq_false_iff_not, beq_iff_eq, bne_iff_ne, ne_eq, Bool.not_eq_true', Bool.not_eq_false', beq_eq_false_iff_ne, bne_eq_false_iff_eq, Bool.not_eq_true, Bool.not_eq_false, Int.not_lt, Int.not_le, gt_iff_lt, ge_iff_le, Bool.and_eq_true, Bool.and_eq_false_iff, Bool.or_eq_true, Bool.or_eq_false_iff] at h3
          refine W_skip (hK8 _ ?_)
          clear hK8 K8
          refine W_seq (fun K10 hK10 => ?_)
          refine W_block ?_
          refine W_seq (fun K11 hK11 => ?_)
          refine W_region (WL_cons rfl (WX_q rfl rfl (q_move rfl rfl) (WL_cons rfl (WX_q rfl rfl (q_move rfl rfl) (WL_cons rfl (?_))))))
          refine WX_q rfl rfl (q_index_lst G rfl rfl rfl rfl (by omega) (getN (by omega))) ?_
          refine WL_cons rfl (WX_q rfl rfl (q_field_ept G rfl rfl rfl rfl) (WL_cons rfl (WX_q rfl rfl (q_load_ept G rfl rfl rfl rfl rfl) (WL_cons rfl (WX_q rfl rfl (q_move rfl rfl) (WL_cons rfl (WX_q rfl rfl (q_cmp rfl rfl rfl rfl) (WL_cons rfl (WX_q rfl rfl (q_move rfl rfl) (WL_part rfl rfl rfl (fun h4 => ?_) (fun h4 => ?_)))))))))))
          · try rw [h4]
            try simp only [decide_eq_true_eq, decide_eq_false_iff_not, beq_iff_eq, bne_iff_ne, ne_eq, Bool.not_eq_true', Bool.not_eq_false', beq_eq_false_iff_ne, bne_eq_false_iff_eq, Bool.not_eq_true, Bool.not_eq_false, Int.not_lt, Int.not_le, gt_iff_lt, ge_iff_le, Bool.and_eq_true, Bool.and_eq_false_iff, Bool.or_eq_true, Bool.or_eq_false_iff] at h4
            refine WL_run rfl rfl rfl (WX_q rfl rfl (q_move rfl rfl) (WL_run rfl rfl rfl (WX_q rfl rfl (q_move rfl rfl) (WL_run rfl rfl rfl (?_)))))
            refine WX_q rfl rfl (q_index_lst G rfl rfl rfl rfl (by omega) (getN (by omega))) ?_
            refine WL_run rfl rfl rfl (WX_q rfl rfl (q_load_ept_struct G rfl rfl rfl rfl) (WL_run rfl rfl rfl (WX_q rfl rfl (q_move rfl rfl) (WL_run rfl rfl rfl (?_)))))
            refine WX_q rfl rfl (q_call rfl (ArgsOK.of rfl) (c_spec_l23At _ _) rfl) ?_
            refine WL_cons rfl (WX_q rfl rfl (q_pick_t rfl rfl rfl) (?_))
            refine WL_nil (hK11 _ ?_)
            clear hK11 K11
            refine W_cond rfl (fun h5 => ?_) (fun h5 => ?_)
            · try rw [h5]
              try simp only [decide_eq_true_eq, decide_eq_false_iff_not, beq_iff_eq, bne_iff_ne, ne_eq, Bool.not_eq_true', Bool.not_eq_false', beq_eq_false_iff_ne, bne_eq_false_iff_eq, Bool.not_eq_true, Bool.not_eq_false, Int.not_lt, Int.not_le, gt_iff_lt, ge_iff_le, Bool.and_eq_true, Bool.and_eq_false_iff, Bool.or_eq_true, Bool.or_eq_false_iff] at h5
              refine W_seq (fun K12 hK12 => ?_)
              refine W_region (WL_cons rfl (WX_lit G 1 rfl rfl rfl rfl rfl rfl rfl rfl (WL_cons rfl (WX_q rfl rfl (q_move rfl rfl) (WL_cons rfl (?_))))))
              refine WX_append G np rfl rfl rfl rfl rfl rfl rfl rfl rfl (by simp; omega) rfl rfl ?_
              refine WL_cons rfl (WX_q rfl rfl (q_assign rfl rfl) (?_))
              refine WL_nil (hK12 _ ?_)
              clear hK12 K12
              refine W_seq (fun K13 hK13 => ?_)
              refine W_region (WL_cons rfl (WX_q rfl rfl (q_move rfl rfl) (WL_cons rfl (WX_q rfl rfl (q_move rfl rfl) (WL_cons rfl (?_))))))
              refine WX_q rfl rfl (q_index_lst G rfl rfl rfl rfl (by omega) (getN (by omega))) ?_
              refine WL_cons rfl (WX_q rfl rfl (q_load_ept_struct G rfl rfl rfl rfl) (WL_cons rfl (WX_q rfl rfl (q_move rfl rfl) (WL_cons rfl (WX_q rfl rfl (q_move rfl rfl) (WL_cons rfl (?_)))))))
              refine WX_q rfl rfl (q_call rfl (ArgsOK.of rfl) (c_spec_l23Use _ _ _ (by assumption) (by assumption)) rfl) ?_
              refine WL_cons rfl (WX_q rfl rfl (q_move rfl rfl) (WL_cons rfl (WX_q rfl rfl (q_extract rfl rfl rfl) (WL_cons rfl (WX_q rfl rfl (q_extract rfl rfl rfl) (WL_cons rfl (WX_alloc_s G 2 rfl rfl rfl rfl rfl (WL_cons rfl (WX_store G rfl rfl rfl rfl rfl rfl rfl rfl rfl rfl rfl (WL_cons rfl (WX_q rfl rfl (q_assign rfl rfl) (?_))))))))))))
              refine WL_nil (hK13 _ ?_)
              clear hK13 K13
              refine W_seq (fun K14 hK14 => ?_)
              refine W_region (WL_cons rfl (WX_q rfl rfl (q_move rfl rfl) (WL_cons rfl (WX_q rfl rfl (q_move rfl rfl) (WL_cons rfl (WX_q rfl rfl (q_load_box_struct G rfl rfl rfl rfl rfl rfl) (WL_cons rfl (?_))))))))
              refine WX_q rfl rfl (q_index_own G rfl rfl rfl rfl rfl (by omega) (by simp; omega)) ?_
              refine WL_cons rfl (?_)
              refine WX_store_row G rfl rfl rfl rfl rfl (getN (by omega)) rfl rfl rfl rfl rfl (Nat.le_of_ble_eq_true rfl) rfl ?_
              refine WL_nil (hK14 _ ?_)
              clear hK14 K14
              refine W_seq (fun K15 hK15 => ?_)
              refine W_region (WL_cons rfl (WX_q rfl rfl (q_move rfl rfl) (WL_cons rfl (WX_q rfl rfl (q_move rfl rfl) (WL_cons rfl (WX_q rfl rfl (q_assign rfl rfl) (WL_cons rfl (WX_q rfl rfl (q_assign rfl rfl) (WL_cons rfl (WX_q rfl rfl (q_assign rfl rfl) (?_)))))))))))
              refine WL_nil (hK15 _ ?_)
              clear hK15 K15
              refine W_ret (fin_many rfl rfl rfl rfl (rcs_cons (rc_own rfl ?_) (rcs_cons (rc_v ?_) (rcs_cons (rc_v ?_) rcs_nil))))
              all_goals clear hK10 K10 hK6 K6
              all_goals (first | (have e : uoOK xs g t c = false := (by first | (simp [uoOK, h1]; done) | (simp [uoOK, h2]; done) | (exact uoOK_none (fun j hj => hinv.2 j (by omega)))); simp [uoT, uoM, e]; done) | (have ek := uoK_of h1 (by omega) h4; have e : uoOK xs g t c = true := (by rw [uoOK, ek]; simp only [h1, h2, Int.toNat_natCast, h5]; simp); rw [uoT, if_pos e, ek]; simp [List.map_set, encBc]; done) | (have ek := uoK_of h1 (by omega) h4; have e : uoOK xs g t c = true := (by rw [uoOK, ek]; simp only [h1, h2, Int.toNat_natCast, h5]; simp); simp [uoM, e, ek]; done))
            · try rw [h5]
              try simp only [decide_eq_true_eq, decide_eq_false_iff_not, beq_iff_eq, bne_iff_ne, ne_eq, Bool.not_eq_true', Bool.not_eq_false', beq_eq_false_iff_ne, bne_eq_false_iff_eq, Bool.not_eq_true, Bool.not_eq_false, Int.not_lt, Int.not_le, gt_iff_lt, ge_iff_le, Bool.and_eq_true, Bool.and_eq_false_iff, Bool.or_eq_true, Bool.or_eq_false_iff] at h5
              refine W_skip (hK10 _ ?_)
              clear hK10 K10
              refine W_region (WL_cons rfl (WX_q rfl rfl (q_move rfl rfl) (WL_cons rfl (?_))))
              first | refine WX_q rfl rfl (q_arith rfl rfl rfl rfl (by omega) (by omega)) ?_ | refine WX_q rfl rfl (q_wrap rfl rfl rfl rfl) ?_
              refine WL_cons rfl (WX_q rfl rfl (q_assign rfl rfl) (?_))
              refine WL_nil ⟨(i + 1), ?_, ?_, ⟨⟨_, rfl, by rfl⟩, rfl, trivial⟩, trivial, rfl, rfl, rfl⟩
              · exact ⟨by omega, upto_succ hinv.2 (by simp_all)⟩
              · omega
          · try rw [h4]
            try simp only [decide_eq_true_eq, decide_eq_false_iff_not, beq_iff_eq, bne_iff_ne, ne_eq, Bool.not_eq_true', Bool.not_eq_false', beq_eq_false_iff_ne, bne_eq_false_iff_eq, Bool.not_eq_true, Bool.not_eq_false, Int.not_lt, Int.not_le, gt_iff_lt, ge_iff_le, Bool.and_eq_true, Bool.and_eq_false_iff, Bool.or_eq_true, Bool.or_eq_false_iff] at h4
            refine WL_skip rfl rfl rfl rfl rfl rfl (WL_skip rfl rfl rfl rfl rfl rfl (WL_skip rfl rfl rfl rfl rfl rfl (WL_skip rfl rfl rfl rfl rfl rfl (WL_skip rfl rfl rfl rfl rfl rfl (WL_skip rfl rfl rfl rfl rfl rfl (WL_cons rfl (WX_q rfl rfl (q_pick_f rfl rfl rfl) (?_))))))))
            refine WL_nil (hK11 _ ?_)
            clear hK11 K11
            refine W_false rfl ?_
            refine W_skip (hK10 _ ?_)
            clear hK10 K10
            refine W_region (WL_cons rfl (WX_q rfl rfl (q_move rfl rfl) (WL_cons rfl (?_))))
            first | refine WX_q rfl rfl (q_arith rfl rfl rfl rfl (by omega) (by omega)) ?_ | refine WX_q rfl rfl (q_wrap rfl rfl rfl rfl) ?_
            refine WL_cons rfl (WX_q rfl rfl (q_assign rfl rfl) (?_))
            refine WL_nil ⟨(i + 1), ?_, ?_, ⟨⟨_, rfl, by rfl⟩, rfl, trivial⟩, trivial, rfl, rfl, rfl⟩
            · exact ⟨by omega, upto_succ hinv.2 (by simp_all)⟩
            · omega
        · try rw [h3]
          try simp only [decide_eq_true_eq, decide_eq_false_iff_not, beq_iff_eq, bne_iff_ne, ne_eq, Bool.not_eq_true', Bool.not_eq_false', beq_eq_false_iff_ne, bne_eq_false_iff_eq, Bool.not_eq_true, Bool.not_eq_false, Int.not_lt, Int.not_le, gt_iff_lt, ge_iff_le, Bool.and_eq_true, Bool.and_eq_false_iff, Bool.or_eq_true, Bool.or_eq_false_iff] at h3
          refine W_exit (hK6 _ ?_)
          clear hK8 K8 hK6 K6
          refine W_seq (fun K16 hK16 => ?_)
          refine W_region (WL_cons rfl (WX_lit G 1 rfl rfl rfl rfl rfl rfl rfl rfl (WL_cons rfl (WX_q rfl rfl (q_assign rfl rfl) (WL_cons rfl (WX_q rfl rfl (q_assign rfl rfl) (WL_cons rfl (WX_q rfl rfl (q_assign rfl rfl) (?_)))))))))
          refine WL_nil (hK16 _ ?_)
          clear hK16 K16
          refine W_ret (fin_many rfl rfl rfl rfl (rcs_cons (rc_own rfl ?_) (rcs_cons (rc_v ?_) (rcs_cons (rc_v ?_) rcs_nil))))
          all_goals (first | (have e : uoOK xs g t c = false := (by first | (simp [uoOK, h1]; done) | (simp [uoOK, h2]; done) | (exact uoOK_none (fun j hj => hinv.2 j (by omega)))); simp [uoT, uoM, e]; done) | (have ek := uoK_of h1 (by omega) h4; have e : uoOK xs g t c = true := (by rw [uoOK, ek]; simp only [h1, h2, Int.toNat_natCast, h5]; simp); rw [uoT, if_pos e, ek]; simp [List.map_set, encBc]; done) | (have ek := uoK_of h1 (by omega) h4; have e : uoOK xs g t c = true := (by rw [uoOK, ek]; simp only [h1, h2, Int.toNat_natCast, h5]; simp); simp [uoM, e, ek]; done))

theorem c_impl_UseOf (xs : List Bucket) (g t c : Int) (hn : xs.length ≤ 1048576) : Ctr Try.prog 43 [.lst 5 (xs.map encBc), .v (.int .i64 g), .v (.int .i64 t), .v (.int .i64 c)] (.many [.fr 26 5 ((uoT xs g t c).map encBc), .v (.bool (uoM xs g t c)), .v (.bool (uoOK xs g t c))]) := by
  have hk := uoK_lt (xs := xs) (g := g)
  refine Ctr.of (n := 48) G Try.func43 rfl (by kernel_rfl) rfl rfl rfl (fun w0 => ?_)
  refine W_seq (fun K1 hK1 => ?_)
  refine W_region (WL_cons rfl (WX_box 1 rfl rfl rfl rfl rfl rfl rfl (WL_cons rfl (WX_q rfl rfl (q_assign rfl rfl) (WL_cons rfl (WX_q rfl rfl (q_assign rfl rfl) (WL_cons rfl (WX_q rfl rfl (q_assign rfl rfl) (?_)))))))))
  refine WL_nil (hK1 _ ?_)
  clear hK1 K1
  refine W_seq (fun K2 hK2 => ?_)
  refine W_region (WL_cons rfl (WX_q rfl rfl (q_move rfl rfl) (WL_cons rfl (WX_q rfl rfl (q_func rfl rfl) (WL_cons rfl (?_))))))
  refine WX_q rfl rfl (q_call rfl (ArgsOK.of rfl) (Ctr.int (b := uoK xs g) (c_slices_IndexFunc_impl_Bucket_impl_Bucket xs 78 [.int .i64 g] (fun x => x.g == g) (by omega) (fun k hk => c_impl_UseOf_1 _ _)) rfl) rfl) ?_
  refine WL_cons rfl (WX_q rfl rfl (q_assign rfl rfl) (?_))
  refine WL_nil (hK2 _ ?_)
  clear hK2 K2
  refine W_seq (fun K3 hK3 => ?_)
  refine W_seq (fun K4 hK4 => ?_)
  refine W_region (WL_cons rfl (WX_q rfl rfl (q_move rfl rfl) (WL_cons rfl (?_))))
  refine WX_q rfl rfl (q_call rfl (ArgsOK.of rfl) (c_impl_AreBuckets _ (by first | assumption | omega)) rfl) ?_
  refine WL_cons rfl (WX_q rfl rfl (q_not rfl rfl) (WL_cons rfl (WX_q rfl rfl (q_move rfl rfl) (WL_part rfl rfl rfl (fun h1 => ?_) (fun h1 => ?_)))))
  · try rw [h1]
    try simp only [decide_eq_true_eq, decide_eq_false_iff_not, beq_iff_eq, bne_iff_ne, ne_eq, Bool.not_eq_true', Bool.not_eq_false', beq_eq_false_iff_ne, bne_eq_false_iff_eq, Bool.not_eq_true, Bool.not_eq_false, Int.not_lt, Int.not_le, gt_iff_lt, ge_iff_le, Bool.and_eq_true, Bool.and_eq_false_iff, Bool.or_eq_true, Bool.or_eq_false_iff] at h1
    refine WL_skip rfl rfl rfl rfl rfl rfl (WL_skip rfl rfl rfl rfl rfl rfl (WL_cons rfl (WX_q rfl rfl (q_pick_t rfl rfl rfl) (?_))))
    refine WL_nil (hK4 _ ?_)
    clear hK4 K4
    refine W_true rfl ?_
    refine W_seq (fun K5 hK5 => ?_)
    refine W_region (WL_cons rfl (WX_q rfl rfl (q_assign rfl rfl) (WL_cons rfl (WX_q rfl rfl (q_assign rfl rfl) (WL_cons rfl (WX_q rfl rfl (q_assign rfl rfl) (?_)))))))
    refine WL_nil (hK5 _ ?_)
    clear hK5 K5
    refine W_ret (fin_many rfl rfl rfl rfl (rcs_cons (rc_nil ?_) (rcs_cons (rc_v ?_) (rcs_cons (rc_v ?_) rcs_nil))))
    all_goals clear hK3 K3
    all_goals (first | (have e : uoOK xs g t c = false := (by first | (simp [uoOK, h1]; done) | (have hf : decide (0 ≤ uoK xs g) = false := (by simp; omega); simp [uoOK, hf]; done) | (rw [useTo_ok] at h3; rw [uoOK, Bool.and_assoc, h3]; simp; done)); simp [uoT, uoM, e]; done) | (rw [useTo_ok] at h3; have e : uoOK xs g t c = true := (by rw [uoOK, Bool.and_assoc, h3, h1]; simp; omega); have eu : useTo (xs.getD (uoK xs g).toNat default) t c = ((useB (xs.getD (uoK xs g).toNat default) t c).1, (useB (xs.getD (uoK xs g).toNat default) t c).2, true) := (by rw [useTo, if_pos h3]); (try rw [eu]); first | (rw [uoT, if_pos e]; simp only [List.map_set, encBc, List.nil_append]; done) | (rw [uoM, e]; rfl) | (rw [e])))
  · try rw [h1]
    try simp only [decide_eq_true_eq, decide_eq_false_iff_not, beq_iff_eq, bne_iff_ne, ne_eq, Bool.not_eq_true', Bool.not_eq_false', beq_eq_false_iff_ne, bne_eq_false_iff_eq, Bool.not_eq_true, Bool.not_eq_false, Int.not_lt, Int.not_le, gt_iff_lt, ge_iff_le, Bool.and_eq_true, Bool.and_eq_false_iff, Bool.or_eq_true, Bool.or_eq_false_iff] at h1
    refine WL_run rfl rfl rfl (WX_q rfl rfl (q_move rfl rfl) (WL_run rfl rfl rfl (WX_q rfl rfl (q_cmp rfl rfl rfl rfl) (WL_cons rfl (WX_q rfl rfl (q_pick_f rfl rfl rfl) (?_))))))
    refine WL_nil (hK4 _ ?_)
    clear hK4 K4
    refine W_cond rfl (fun h2 => ?_) (fun h2 => ?_)
    · try rw [h2]
      try simp only [decide_eq_true_eq, decide_eq_false_iff_not, beq_iff_eq, bne_iff_ne, ne_eq, Bool.not_eq_true', Bool.not_eq_false', beq_eq_false_iff_ne, bne_eq_false_iff_eq, Bool.not_eq_true, Bool.not_eq_false, Int.not_lt, Int.not_le, gt_iff_lt, ge_iff_le, Bool.and_eq_true, Bool.and_eq_false_iff, Bool.or_eq_true, Bool.or_eq_false_iff] at h2
      refine W_seq (fun K6 hK6 => ?_)
      refine W_region (WL_cons rfl (WX_q rfl rfl (q_assign rfl rfl) (WL_cons rfl (WX_q rfl rfl (q_assign rfl rfl) (WL_cons rfl (WX_q rfl rfl (q_assign rfl rfl) (?_)))))))
      refine WL_nil (hK6 _ ?_)
      clear hK6 K6
      refine W_ret (fin_many rfl rfl rfl rfl (rcs_cons (rc_nil ?_) (rcs_cons (rc_v ?_) (rcs_cons (rc_v ?_) rcs_nil))))
      all_goals clear hK3 K3
      all_goals (first | (have e : uoOK xs g t c = false := (by first | (simp [uoOK, h1]; done) | (have hf : decide (0 ≤ uoK xs g) = false := (by simp; omega); simp [uoOK, hf]; done) | (rw [useTo_ok] at h3; rw [uoOK, Bool.and_assoc, h3]; simp; done)); simp [uoT, uoM, e]; done) | (rw [useTo_ok] at h3; have e : uoOK xs g t c = true := (by rw [uoOK, Bool.and_assoc, h3, h1]; simp; omega); have eu : useTo (xs.getD (uoK xs g).toNat default) t c = ((useB (xs.getD (uoK xs g).toNat default) t c).1, (useB (xs.getD (uoK xs g).toNat default) t c).2, true) := (by rw [useTo, if_pos h3]); (try rw [eu]); first | (rw [uoT, if_pos e]; simp only [List.map_set, encBc, List.nil_append]; done) | (rw [uoM, e]; rfl) | (rw [e])))
    · try rw [h2]
      try simp only [decide_eq_true_eq, decide_eq_false_iff_not, beq_iff_eq, bne_iff_ne, ne_eq, Bool.not_eq_true', Bool.not_eq_false', beq_eq_false_iff_ne, bne_eq_false_iff_eq, Bool.not_eq_true, Bool.not_eq_false, Int.not_lt, Int.not_le, gt_iff_lt, ge_iff_le, Bool.and_eq_true, Bool.and_eq_false_iff, Bool.or_eq_true, Bool.or_eq_false_iff] at h2
      refine W_skip (hK3 _ ?_)
      clear hK3 K3
      refine W_seq (fun K7 hK7 => ?_)
      refine W_region (WL_cons rfl (WX_q rfl rfl (q_move rfl rfl) (WL_cons rfl (WX_q rfl rfl (q_move rfl rfl) (WL_cons rfl (?_))))))
      refine WX_q rfl rfl (q_index_lst G rfl rfl rfl rfl (by omega) (getNI (by omega) (by omega))) ?_
      refine WL_cons rfl (WX_q rfl rfl (q_load_ept_struct G rfl rfl rfl rfl) (WL_cons rfl (WX_q rfl rfl (q_move rfl rfl) (WL_cons rfl (WX_q rfl rfl (q_move rfl rfl) (WL_cons rfl (?_)))))))
      refine WX_q rfl rfl (q_call rfl (ArgsOK.of rfl) (c_impl_UseBucket _ _ _) rfl) ?_
      refine WL_cons rfl (WX_q rfl rfl (q_move rfl rfl) (WL_cons rfl (WX_q rfl rfl (q_extract rfl rfl rfl) (WL_cons rfl (WX_q rfl rfl (q_extract rfl rfl rfl) (WL_cons rfl (WX_q rfl rfl (q_extract rfl rfl rfl) (WL_cons rfl (WX_alloc_s G 2 rfl rfl rfl rfl rfl (WL_cons rfl (WX_store G rfl rfl rfl rfl rfl rfl rfl rfl rfl rfl rfl (WL_cons rfl (WX_q rfl rfl (q_assign rfl rfl) (WL_cons rfl (WX_q rfl rfl (q_assign rfl rfl) (?_))))))))))))))))
      refine WL_nil (hK7 _ ?_)
      clear hK7 K7
      refine W_seq (fun K8 hK8 => ?_)
      refine W_seq (fun K9 hK9 => ?_)
      refine W_region (WL_cons rfl (WX_q rfl rfl (q_move rfl rfl) (WL_cons rfl (WX_q rfl rfl (q_not rfl rfl) (?_)))))
      refine WL_nil (hK9 _ ?_)
      clear hK9 K9
      refine W_cond rfl (fun h3 => ?_) (fun h3 => ?_)
      · try rw [h3]
        try simp only [decide_eq_true_eq, decide_eq_false_iff_not, beq_iff_eq, bne_iff_ne, ne_eq, Bool.not_eq_true', Bool.not_eq_false', beq_eq_false_iff_ne, bne_eq_false_iff_eq, Bool.not_eq_true, Bool.not_eq_false, Int.not_lt, Int.not_le, gt_iff_lt, ge_iff_le, Bool.and_eq_true, Bool.and_eq_false_iff, Bool.or_eq_true, Bool.or_eq_false_iff] at h3
        refine W_seq (fun K10 hK10 => ?_)
        refine W_region (WL_cons rfl (WX_q rfl rfl (q_assign rfl rfl) (WL_cons rfl (WX_q rfl rfl (q_assign rfl rfl) (WL_cons rfl (WX_q rfl rfl (q_assign rfl rfl) (?_)))))))
        refine WL_nil (hK10 _ ?_)
        clear hK10 K10
        refine W_ret (fin_many rfl rfl rfl rfl (rcs_cons (rc_nil ?_) (rcs_cons (rc_v ?_) (rcs_cons (rc_v ?_) rcs_nil))))
        all_goals clear hK8 K8
        all_goals (first | (have e : uoOK xs g t c = false := (by first | (simp [uoOK, h1]; done) | (have hf : decide (0 ≤ uoK xs g) = false := (by simp; omega); simp [uoOK, hf]; done) | (rw [useTo_ok] at h3; rw [uoOK, Bool.and_assoc, h3]; simp; done)); simp [uoT, uoM, e]; done) | (rw [useTo_ok] at h3; have e : uoOK xs g t c = true := (by rw [uoOK, Bool.and_assoc, h3, h1]; simp; omega); have eu : useTo (xs.getD (uoK xs g).toNat default) t c = ((useB (xs.getD (uoK xs g).toNat default) t c).1, (useB (xs.getD (uoK xs g).toNat default) t c).2, true) := (by rw [useTo, if_pos h3]); (try rw [eu]); first | (rw [uoT, if_pos e]; simp only [List.map_set, encBc, List.nil_append]; done) | (rw [uoM, e]; rfl) | (rw [e])))
      · try rw [h3]
        try simp only [decide_eq_true_eq, decide_eq_false_iff_not, beq_iff_eq, bne_iff_ne, ne_eq, Bool.not_eq_true', Bool.not_eq_false', beq_eq_false_iff_ne, bne_eq_false_iff_eq, Bool.not_eq_true, Bool.not_eq_false, Int.not_lt, Int.not_le, gt_iff_lt, ge_iff_le, Bool.and_eq_true, Bool.and_eq_false_iff, Bool.or_eq_true, Bool.or_eq_false_iff] at h3
        refine W_skip (hK8 _ ?_)
        clear hK8 K8
        refine W_seq (fun K11 hK11 => ?_)
        refine W_region (WL_cons rfl (WX_lit G 3 rfl rfl rfl rfl rfl rfl rfl rfl (WL_cons rfl (WX_q rfl rfl (q_move rfl rfl) (WL_cons rfl (?_))))))
        refine WX_append G np rfl rfl rfl rfl rfl rfl rfl rfl rfl (by simp; omega) rfl rfl ?_
        refine WL_cons rfl (WX_q rfl rfl (q_assign rfl rfl) (?_))
        refine WL_nil (hK11 _ ?_)
        clear hK11 K11
        refine W_seq (fun K12 hK12 => ?_)
        refine W_region (WL_cons rfl (WX_q rfl rfl (q_move rfl rfl) (WL_cons rfl (WX_q rfl rfl (q_move rfl rfl) (WL_cons rfl (WX_q rfl rfl (q_load_box_struct G rfl rfl rfl rfl rfl rfl) (WL_cons rfl (?_))))))))
        refine WX_q rfl rfl (q_index_own G rfl rfl rfl rfl rfl (by omega) (by simp; omega)) ?_
        refine WL_cons rfl (?_)
        refine WX_store_row G rfl rfl rfl rfl rfl (getNI (by omega) (by omega)) rfl rfl rfl rfl rfl (Nat.le_of_ble_eq_true rfl) rfl ?_
        refine WL_nil (hK12 _ ?_)
        clear hK12 K12
        refine W_seq (fun K13 hK13 => ?_)
        refine W_region (WL_cons rfl (WX_q rfl rfl (q_move rfl rfl) (WL_cons rfl (WX_q rfl rfl (q_move rfl rfl) (WL_cons rfl (WX_q rfl rfl (q_assign rfl rfl) (WL_cons rfl (WX_q rfl rfl (q_assign rfl rfl) (WL_cons rfl (WX_q rfl rfl (q_assign rfl rfl) (?_)))))))))))
        refine WL_nil (hK13 _ ?_)
        clear hK13 K13
        refine W_ret (fin_many rfl rfl rfl rfl (rcs_cons (rc_own rfl ?_) (rcs_cons (rc_v ?_) (rcs_cons (rc_v ?_) rcs_nil))))
        all_goals (first | (have e : uoOK xs g t c = false := (by first | (simp [uoOK, h1]; done) | (have hf : decide (0 ≤ uoK xs g) = false := (by simp; omega); simp [uoOK, hf]; done) | (rw [useTo_ok] at h3; rw [uoOK, Bool.and_assoc, h3]; simp; done)); simp [uoT, uoM, e]; done) | (rw [useTo_ok] at h3; have e : uoOK xs g t c = true := (by rw [uoOK, Bool.and_assoc, h3, h1]; simp; omega); have eu : useTo (xs.getD (uoK xs g).toNat default) t c = ((useB (xs.getD (uoK xs g).toNat default) t c).1, (useB (xs.getD (uoK xs g).toNat default) t c).2, true) := (by rw [useTo, if_pos h3]); (try rw [eu]); first | (rw [uoT, if_pos e]; simp only [List.map_set, encBc, List.nil_append]; done) | (rw [uoM, e]; rfl) | (rw [e])))

end Go.Proofs.Yteplehpcplbioaa
