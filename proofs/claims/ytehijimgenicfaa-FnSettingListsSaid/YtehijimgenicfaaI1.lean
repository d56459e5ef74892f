/- Walks through functions of the program, one contract each (written by gen.py). -/
import Derived.Test.YtehijimgenicfaaW4
import Derived.Test.YtehijimgenicfaaRfXF
set_option maxRecDepth 20000
set_option linter.unusedVariables false
set_option linter.unusedSimpArgs false
namespace Go.Proofs.Ytehijimgenicfaa
open Go Go.Rf

theorem c_slices_Insert_impl_Setting_impl_Setting (xs : List Setting) (v : Setting) (i : Nat) (hi : i ≤ xs.length) (hl : xs.length ≤ 100000) : CtrM Try.prog 37 [.own 0, .v (.int .i64 (i : Int)), .own 1] [.row 39 6 (xs.map encTc), .row 39 6 [encTc v]] (.one (.fr 39 6 ((xs.take i ++ [v] ++ xs.drop i).map encTc))) [none, some (.row 39 6 [encTc v])] := by
  refine CtrM.of (n := 95) (k := 2) G Try.func37 rfl (by kernel_rfl) rfl rfl rfl rfl rfl rfl rfl (fun w0 _ hpin => ?_)
  refine W_seq (fun K1 hK1 => ?_)
  refine W_region (WL_cons rfl (WX_q rfl rfl (q_assign rfl rfl) (?_)))
  refine WL_nil (hK1 _ ?_)
  clear hK1 K1
  refine W_seq (fun K2 hK2 => ?_)
  refine W_region (WL_cons rfl (WX_q rfl rfl (q_move rfl rfl) (WL_cons rfl (WX_q rfl rfl (q_move rfl rfl) (WL_cons rfl (?_))))))
  refine WX_q rfl rfl (q_cut_own G rfl rfl rfl rfl rfl rfl (by omega) (by first | omega | (simp; done) | (simp; omega)) (by first | omega | (simp; done) | (simp; omega))) ?_
  refine WL_nil (hK2 _ ?_)
  clear hK2 K2
  refine W_seq (fun K3 hK3 => ?_)
  refine W_region (WL_cons rfl (WX_q rfl rfl (q_move rfl rfl) (WL_cons rfl (?_))))
  first | refine WX_q rfl rfl (q_len' G rfl rfl rfl rfl (show List.length [_] = 1 from rfl)) ?_ | refine WX_q rfl rfl (q_len' G rfl rfl rfl rfl (List.length_map _)) ?_ | refine WX_q rfl rfl (q_len G rfl rfl rfl rfl) ?_
  refine WL_cons rfl (WX_q rfl rfl (q_assign rfl rfl) (?_))
  refine WL_nil (hK3 _ ?_)
  clear hK3 K3
  refine W_seq (fun K4 hK4 => ?_)
  refine W_seq (fun K5 hK5 => ?_)
  refine W_region (WL_cons rfl (WX_q rfl rfl (q_move rfl rfl) (WL_cons rfl (WX_q rfl rfl (q_cmp rfl rfl rfl rfl) (?_)))))
  refine WL_nil (hK5 _ ?_)
  clear hK5 K5
  refine W_cond rfl (fun h1 => ?_) (fun h1 => ?_)
  · try rw [h1]
    try simp only [decide_eq_true_eq, decide_eq_false_iff_not, beq_iff_eq, bne_iff_ne, ne_eq, Bool.not_eq_true', Bool.not_eq_false', beq_eq_false_iff_ne, bne_eq_false_iff_eq, Bool.not_eq_true, Bool.not_eq_false, Int.not_lt, Int.not_le, gt_iff_lt, ge_iff_le, Bool.and_eq_true, Bool.and_eq_false_iff, Bool.or_eq_true, Bool.or_eq_false_iff] at h1
    exact absurd h1 (by decide)
  · try rw [h1]
    try simp only [decide_eq_true_eq, decide_eq_false_iff_not, beq_iff_eq, bne_iff_ne, ne_eq, Bool.not_eq_true', Bool.not_eq_false', beq_eq_false_iff_ne, bne_eq_false_iff_eq, Bool.not_eq_true, Bool.not_eq_false, Int.not_lt, Int.not_le, gt_iff_lt, ge_iff_le, Bool.and_eq_true, Bool.and_eq_false_iff, Bool.or_eq_true, Bool.or_eq_false_iff] at h1
    refine W_skip (hK4 _ ?_)
    clear hK4 K4
    refine W_seq (fun K6 hK6 => ?_)
    refine W_region (WL_cons rfl (WX_q rfl rfl (q_move rfl rfl) (WL_cons rfl (?_))))
    first | refine WX_q rfl rfl (q_len' G rfl rfl rfl rfl (show List.length [_] = 1 from rfl)) ?_ | refine WX_q rfl rfl (q_len' G rfl rfl rfl rfl (List.length_map _)) ?_ | refine WX_q rfl rfl (q_len G rfl rfl rfl rfl) ?_
    refine WL_cons rfl (WX_q rfl rfl (q_assign rfl rfl) (?_))
    refine WL_nil (hK6 _ ?_)
    clear hK6 K6
    refine W_seq (fun K7 hK7 => ?_)
    refine W_seq (fun K8 hK8 => ?_)
    refine W_region (WL_cons rfl (WX_q rfl rfl (q_move rfl rfl) (WL_cons rfl (WX_q rfl rfl (q_move rfl rfl) (WL_cons rfl (WX_q rfl rfl (q_cmp rfl rfl rfl rfl) (?_)))))))
    refine WL_nil (hK8 _ ?_)
    clear hK8 K8
    refine W_cond rfl (fun h2 => ?_) (fun h2 => ?_)
    · try rw [h2]
      try simp only [decide_eq_true_eq, decide_eq_false_iff_not, beq_iff_eq, bne_iff_ne, ne_eq, Bool.not_eq_true', Bool.not_eq_false', beq_eq_false_iff_ne, bne_eq_false_iff_eq, Bool.not_eq_true, Bool.not_eq_false, Int.not_lt, Int.not_le, gt_iff_lt, ge_iff_le, Bool.and_eq_true, Bool.and_eq_false_iff, Bool.or_eq_true, Bool.or_eq_false_iff] at h2
      refine W_seq (fun K9 hK9 => ?_)
      refine W_region (WL_cons rfl (WX_q rfl rfl (q_move rfl rfl) (WL_cons rfl (WX_q rfl rfl (q_move rfl rfl) (WL_cons rfl (?_))))))
      refine WX_ren (tx := 23) 3 rfl rfl rfl rfl <| WX_append G (by rw [hpin]; decide) rfl rfl rfl rfl rfl rfl rfl rfl rfl (by simp only [List.length_map, List.length_cons, List.length_nil]; omega) rfl rfl ?_
      refine WL_cons rfl (WX_q rfl rfl (q_assign rfl rfl) (?_))
      refine WL_nil (hK9 _ ?_)
      clear hK9 K9
      refine W_ret (finm_one rfl (rc_own rfl ?_) rfl (AftOK.gone (AftOK.stays rfl ?_ rfl AftOK.nil)))
      all_goals clear hK7 K7
      all_goals (first | rfl | (have e : i = xs.length := (by omega); subst e; simp; done) | (have ht1 : ((i : Int) + 1).toNat = i + 1 := (by omega); first | (rw [show List.take ((((xs.map encTc).length : Nat) : Int).toNat - ((i : Nat) : Int).toNat) (List.drop ((i : Nat) : Int).toNat (xs.map encTc)) = List.drop i (xs.map encTc) from List.take_of_length_le (by rw [List.length_drop, Int.toNat_natCast, Int.toNat_natCast]; exact Nat.le_refl _)]; simp only [Int.toNat_natCast, ht1, Int.toNat_zero, List.length_drop, List.length_cons, List.length_nil, Nat.zero_add, List.map_append, List.map_take, List.map_drop, List.map_cons, List.map_nil, Nat.sub_zero]; exact ins_grow (by rw [List.length_map]; exact hi) (by rw [List.length_replicate, List.length_map])) | (rw [show xs.length + 1 = (xs.map encTc).length + 1 from by rw [List.length_map]]; simp only [Int.toNat_natCast, ht1, Int.toNat_zero, List.length_drop, List.length_cons, List.length_nil, Nat.zero_add, List.map_append, List.map_take, List.map_drop, List.map_cons, List.map_nil, Nat.sub_zero]; exact ins_room (by rw [List.length_map]; exact hi) (by omega))))
    · try rw [h2]
      try simp only [decide_eq_true_eq, decide_eq_false_iff_not, beq_iff_eq, bne_iff_ne, ne_eq, Bool.not_eq_true', Bool.not_eq_false', beq_eq_false_iff_ne, bne_eq_false_iff_eq, Bool.not_eq_true, Bool.not_eq_false, Int.not_lt, Int.not_le, gt_iff_lt, ge_iff_le, Bool.and_eq_true, Bool.and_eq_false_iff, Bool.or_eq_true, Bool.or_eq_false_iff] at h2
      refine W_skip (hK7 _ ?_)
      clear hK7 K7
      refine W_seq (fun K10 hK10 => ?_)
      refine W_seq (fun K11 hK11 => ?_)
      refine W_region (WL_cons rfl (WX_q rfl rfl (q_move rfl rfl) (WL_cons rfl (WX_q rfl rfl (q_move rfl rfl) (WL_cons rfl (?_))))))
      first | refine WX_q rfl rfl (q_arith rfl rfl rfl rfl (by omega) (by omega)) ?_ | refine WX_q rfl rfl (q_wrap rfl rfl rfl rfl) ?_
      refine WL_cons rfl (WX_q rfl rfl (q_move rfl rfl) (WL_cons rfl (?_)))
      refine WX_cap G rfl rfl rfl rfl rfl rfl (by (try simp only [List.length_take, List.length_append, List.length_map, List.length_drop, List.length_cons, List.length_nil, List.length_replicate, Int.toNat_natCast]); omega) (fun gs hgs hall => ?_)
      simp only [List.length_map] at hgs
      refine WL_cons rfl (WX_q rfl rfl (q_cmp rfl rfl rfl rfl) (?_))
      refine WL_nil (hK11 _ ?_)
      clear hK11 K11
      refine W_cond rfl (fun h3 => ?_) (fun h3 => ?_)
      · try rw [h3]
        try simp only [decide_eq_true_eq, decide_eq_false_iff_not, beq_iff_eq, bne_iff_ne, ne_eq, Bool.not_eq_true', Bool.not_eq_false', beq_eq_false_iff_ne, bne_eq_false_iff_eq, Bool.not_eq_true, Bool.not_eq_false, Int.not_lt, Int.not_le, gt_iff_lt, ge_iff_le, Bool.and_eq_true, Bool.and_eq_false_iff, Bool.or_eq_true, Bool.or_eq_false_iff] at h3
        try simp only [List.length_map] at h3
        refine W_seq (fun K12 hK12 => ?_)
        refine W_region (WL_cons rfl (WX_q rfl rfl (q_move rfl rfl) (WL_cons rfl (WX_q rfl rfl (q_move rfl rfl) (WL_cons rfl (?_))))))
        refine WX_q rfl rfl (q_cut_spare G rfl rfl rfl rfl rfl rfl (by (try simp only [List.length_take, List.length_append, List.length_map, List.length_drop, List.length_cons, List.length_nil, List.length_replicate, Int.toNat_natCast]); omega) (by (try simp only [List.length_take, List.length_append, List.length_map, List.length_drop, List.length_cons, List.length_nil, List.length_replicate, Int.toNat_natCast]); omega) (by (try simp only [List.length_take, List.length_append, List.length_map, List.length_drop, List.length_cons, List.length_nil, List.length_replicate, Int.toNat_natCast]); omega) (by (try simp only [List.length_take, List.length_append, List.length_map, List.length_drop, List.length_cons, List.length_nil, List.length_replicate, Int.toNat_natCast]); omega)) ?_
        refine WL_cons rfl (WX_q rfl rfl (q_move rfl rfl) (WL_cons rfl (WX_q rfl rfl (q_move rfl rfl) (WL_cons rfl (?_)))))
        first | refine WX_q rfl rfl (q_arith rfl rfl rfl rfl (by omega) (by omega)) ?_ | refine WX_q rfl rfl (q_wrap rfl rfl rfl rfl) ?_
        refine WL_cons rfl (WX_q rfl rfl (q_move rfl rfl) (WL_cons rfl (?_)))
        first | refine WX_q rfl rfl (q_arith rfl rfl rfl rfl (by omega) (by omega)) ?_ | refine WX_q rfl rfl (q_wrap rfl rfl rfl rfl) ?_
        refine WL_cons rfl (?_)
        refine WX_growmake (k := (xs.length + 1 - i)) G 3 rfl rfl rfl rfl rfl rfl rfl rfl rfl (by (try simp only [List.length_take, List.length_append, List.length_map, List.length_drop, List.length_cons, List.length_nil, List.length_replicate, Int.toNat_natCast]); omega) (by (try simp only [List.length_take, List.length_append, List.length_map, List.length_drop, List.length_cons, List.length_nil, List.length_replicate, Int.toNat_natCast]); omega) (by (try simp only [List.length_take, List.length_append, List.length_map, List.length_drop, List.length_cons, List.length_nil, List.length_replicate, Int.toNat_natCast]); omega) (by (try simp only [List.length_take, List.length_append, List.length_map, List.length_drop, List.length_cons, List.length_nil, List.length_replicate, Int.toNat_natCast]); omega) (by (try simp only [List.length_take, List.length_append, List.length_map, List.length_drop, List.length_cons, List.length_nil, List.length_replicate, Int.toNat_natCast]); omega) (by (try simp only [List.length_take, List.length_append, List.length_map, List.length_drop, List.length_cons, List.length_nil, List.length_replicate, Int.toNat_natCast]); omega) (fun c hc => (hall c hc).2) (by (try simp only [List.length_take, List.length_append, List.length_map, List.length_drop, List.length_cons, List.length_nil, List.length_replicate, Int.toNat_natCast]); omega) ?_
        refine WL_cons rfl (WX_q rfl rfl (q_assign rfl rfl) (?_))
        refine WL_nil (hK12 _ ?_)
        clear hK12 K12
        refine W_seq (fun K13 hK13 => ?_)
        refine W_region (WL_cons rfl (WX_q rfl rfl (q_move rfl rfl) (WL_cons rfl (WX_q rfl rfl (q_move rfl rfl) (WL_cons rfl (?_))))))
        refine WX_q rfl rfl (q_cut_own G rfl rfl rfl rfl rfl rfl (by omega) (by first | omega | (simp; done) | (simp; omega)) (by first | omega | (simp; done) | (simp; omega))) ?_
        refine WL_cons rfl (WX_q rfl rfl (q_move rfl rfl) (WL_cons rfl (?_)))
        refine WX_copy_row G rfl rfl rfl rfl rfl rfl rfl (SrcOK.of (vs := [encTc v]) (by intro c hc; rw [List.mem_singleton.1 hc]; rfl) (ArgOK.of rfl) (by decide)) (by intro c hc; rw [List.mem_singleton.1 hc]; exact ⟨rfl, enc_one v⟩) (by (try simp only [List.length_take, List.length_append, List.length_map, List.length_drop, List.length_cons, List.length_nil, List.length_replicate, Int.toNat_natCast]); omega) (by (try simp only [List.length_take, List.length_append, List.length_map, List.length_drop, List.length_cons, List.length_nil, List.length_replicate, Int.toNat_natCast]); omega) (by (try simp only [List.length_take, List.length_append, List.length_map, List.length_drop, List.length_cons, List.length_nil, List.length_replicate, Int.toNat_natCast]); omega) ?_
        refine WL_nil (hK13 _ ?_)
        clear hK13 K13
        refine W_seq (fun K14 hK14 => ?_)
        refine W_drawsH 9 [0, 1] mixed (by kernel_rfl) rfl rfl (fun r0 => ?_) (fun _ h => h)
        refine WA_take 0 rfl (by kernel_rfl) (by kernel_rfl) rfl rfl rfl rfl (q_move rfl rfl) (WA_take 1 rfl (by kernel_rfl) (by kernel_rfl) rfl rfl rfl rfl (q_move rfl rfl) (WA_take 2 rfl (by kernel_rfl) (by kernel_rfl) rfl rfl rfl rfl (q_move rfl rfl) (?_)))
        first | refine WA_take 3 rfl (by kernel_rfl) (by kernel_rfl) rfl rfl rfl rfl (q_arith rfl rfl rfl rfl (by omega) (by omega)) ?_ | refine WA_take 3 rfl (by kernel_rfl) (by kernel_rfl) rfl rfl rfl rfl (q_wrap rfl rfl rfl rfl) ?_
        refine WA_take 5 rfl (by kernel_rfl) (by kernel_rfl) rfl rfl rfl rfl (q_move rfl rfl) (WA_take 6 rfl (by kernel_rfl) (by kernel_rfl) rfl rfl rfl rfl (q_move rfl rfl) (?_))
        refine WA_take 7 rfl (by kernel_rfl) (by kernel_rfl) rfl rfl rfl rfl (q_cut_spare G rfl rfl rfl rfl rfl rfl (by (try simp only [List.length_take, List.length_append, List.length_map, List.length_drop, List.length_cons, List.length_nil, List.length_replicate, Int.toNat_natCast]); omega) (by (try simp only [List.length_take, List.length_append, List.length_map, List.length_drop, List.length_cons, List.length_nil, List.length_replicate, Int.toNat_natCast]); omega) (by (try simp only [List.length_take, List.length_append, List.length_map, List.length_drop, List.length_cons, List.length_nil, List.length_replicate, Int.toNat_natCast]); omega) (by (try simp only [List.length_take, List.length_append, List.length_map, List.length_drop, List.length_cons, List.length_nil, List.length_replicate, Int.toNat_natCast]); omega)) ?_
        refine WA_branch (rs := [4]) (by kernel_rfl) rfl (AllB.cons ?_ AllB.nil)
        refine WB_run [0, 1] rfl rfl (WX_q rfl rfl (q_cut_own G rfl rfl rfl rfl rfl rfl (by omega) (by first | omega | (simp; done) | (simp; omega)) (by first | omega | (simp; done) | (simp; omega))) (WL_nil ⟨rfl, ?_⟩))
        refine WA_branch (rs := [8]) (by kernel_rfl) rfl (AllB.cons ?_ AllB.nil)
        refine WB_run [0, 1] rfl rfl (WX_copy_row G rfl rfl rfl rfl rfl rfl rfl (SrcOK.spare rfl (by (try simp only [List.length_take, List.length_append, List.length_map, List.length_drop, List.length_cons, List.length_nil, List.length_replicate, Int.toNat_natCast]); omega)) (fun c hc => hall c (List.mem_of_mem_drop (List.mem_of_mem_take hc))) (by (try simp only [List.length_take, List.length_append, List.length_map, List.length_drop, List.length_cons, List.length_nil, List.length_replicate, Int.toNat_natCast]); omega) (by (try simp only [List.length_take, List.length_append, List.length_map, List.length_drop, List.length_cons, List.length_nil, List.length_replicate, Int.toNat_natCast]); omega) (by (try simp only [List.length_take, List.length_append, List.length_map, List.length_drop, List.length_cons, List.length_nil, List.length_replicate, Int.toNat_natCast]); omega) (WL_nil ⟨rfl, ?_⟩))
        refine WA_end (by kernel_rfl) (hK14 _ ?_)
        clear hK14 K14
        refine W_seq (fun K15 hK15 => ?_)
        refine W_region (WL_cons rfl (WX_q rfl rfl (q_move rfl rfl) (WL_cons rfl (WX_q rfl rfl (q_assign rfl rfl) (?_)))))
        refine WL_nil (hK15 _ ?_)
        clear hK15 K15
        refine W_ret (finm_one rfl (rc_own rfl ?_) rfl (AftOK.gone (AftOK.stays rfl ?_ rfl AftOK.nil)))
        all_goals clear hK10 K10
        all_goals (first | rfl | (have e : i = xs.length := (by omega); subst e; simp; done) | (have ht1 : ((i : Int) + 1).toNat = i + 1 := (by omega); first | (rw [show List.take ((((xs.map encTc).length : Nat) : Int).toNat - ((i : Nat) : Int).toNat) (List.drop ((i : Nat) : Int).toNat (xs.map encTc)) = List.drop i (xs.map encTc) from List.take_of_length_le (by rw [List.length_drop, Int.toNat_natCast, Int.toNat_natCast]; exact Nat.le_refl _)]; simp only [Int.toNat_natCast, ht1, Int.toNat_zero, List.length_drop, List.length_cons, List.length_nil, Nat.zero_add, List.map_append, List.map_take, List.map_drop, List.map_cons, List.map_nil, Nat.sub_zero]; exact ins_grow (by rw [List.length_map]; exact hi) (by rw [List.length_replicate, List.length_map])) | (rw [show xs.length + 1 = (xs.map encTc).length + 1 from by rw [List.length_map]]; simp only [Int.toNat_natCast, ht1, Int.toNat_zero, List.length_drop, List.length_cons, List.length_nil, Nat.zero_add, List.map_append, List.map_take, List.map_drop, List.map_cons, List.map_nil, Nat.sub_zero]; exact ins_room (by rw [List.length_map]; exact hi) (by omega))))
      · try rw [h3]
        try simp only [decide_eq_true_eq, decide_eq_false_iff_not, beq_iff_eq, bne_iff_ne, ne_eq, Bool.not_eq_true', Bool.not_eq_false', beq_eq_false_iff_ne, bne_eq_false_iff_eq, Bool.not_eq_true, Bool.not_eq_false, Int.not_lt, Int.not_le, gt_iff_lt, ge_iff_le, Bool.and_eq_true, Bool.and_eq_false_iff, Bool.or_eq_true, Bool.or_eq_false_iff] at h3
        try simp only [List.length_map] at h3
        refine W_skip (hK10 _ ?_)
        clear hK10 K10
        refine W_seq (fun K16 hK16 => ?_)
        refine W_region (WL_cons rfl (WX_q rfl rfl (q_move rfl rfl) (WL_cons rfl (WX_q rfl rfl (q_move rfl rfl) (WL_cons rfl (WX_q rfl rfl (q_move rfl rfl) (WL_cons rfl (?_))))))))
        first | refine WX_q rfl rfl (q_arith rfl rfl rfl rfl (by omega) (by omega)) ?_ | refine WX_q rfl rfl (q_wrap rfl rfl rfl rfl) ?_
        refine WL_cons rfl (?_)
        refine WX_reslice (N := (xs.length + 1)) G 3 rfl rfl rfl rfl rfl rfl rfl rfl (by (try simp only [List.length_take, List.length_append, List.length_map, List.length_drop, List.length_cons, List.length_nil, List.length_replicate, Int.toNat_natCast]); omega) (by (try simp only [List.length_take, List.length_append, List.length_map, List.length_drop, List.length_cons, List.length_nil, List.length_replicate, Int.toNat_natCast]); omega) (by (try simp only [List.length_take, List.length_append, List.length_map, List.length_drop, List.length_cons, List.length_nil, List.length_replicate, Int.toNat_natCast]); omega) ?_
        refine WL_cons rfl (WX_q rfl rfl (q_assign rfl rfl) (?_))
        refine WL_nil (hK16 _ ?_)
        clear hK16 K16
        refine W_seq (fun K17 hK17 => ?_)
        refine W_seq (fun K18 hK18 => ?_)
        refine W_region (WL_cons rfl (WX_q rfl rfl (q_move rfl rfl) (WL_cons rfl (WX_q rfl rfl (q_move rfl rfl) (WL_cons rfl (WX_q rfl rfl (q_move rfl rfl) (WL_cons rfl (WX_q rfl rfl (q_move rfl rfl) (WL_cons rfl (?_))))))))))
        first | refine WX_q rfl rfl (q_arith rfl rfl rfl rfl (by omega) (by omega)) ?_ | refine WX_q rfl rfl (q_wrap rfl rfl rfl rfl) ?_
        refine WL_cons rfl (?_)
        refine WX_q rfl rfl (q_cut_spare G rfl rfl rfl rfl rfl rfl (by (try simp only [List.length_take, List.length_append, List.length_map, List.length_drop, List.length_cons, List.length_nil, List.length_replicate, Int.toNat_natCast]); omega) (by (try simp only [List.length_take, List.length_append, List.length_map, List.length_drop, List.length_cons, List.length_nil, List.length_replicate, Int.toNat_natCast]); omega) (by (try simp only [List.length_take, List.length_append, List.length_map, List.length_drop, List.length_cons, List.length_nil, List.length_replicate, Int.toNat_natCast]); omega) (by (try simp only [List.length_take, List.length_append, List.length_map, List.length_drop, List.length_cons, List.length_nil, List.length_replicate, Int.toNat_natCast]); omega)) ?_
        refine WL_cons rfl (?_)
        refine WX_q rfl rfl (q_overlaps (tr := 4) (t := 25) G Try.func50 (by kernel_rfl) (by kernel_rfl) (by kernel_rfl) (by kernel_rfl) rfl rfl rfl rfl (by (try simp only [List.length_take, List.length_append, List.length_map, List.length_drop, List.length_cons, List.length_nil, List.length_replicate, Int.toNat_natCast]); omega) rfl rfl rfl (by (try simp only [List.length_take, List.length_append, List.length_map, List.length_drop, List.length_cons, List.length_nil, List.length_replicate, Int.toNat_natCast]); omega) (by decide) (by (try simp only [List.length_take, List.length_append, List.length_map, List.length_drop, List.length_cons, List.length_nil, List.length_replicate, Int.toNat_natCast]); omega)) ?_
        refine WL_cons rfl (WX_q rfl rfl (q_not_f rfl rfl) (?_))
        refine WL_nil (hK18 _ ?_)
        clear hK18 K18
        refine W_true rfl ?_
        refine W_seq (fun K19 hK19 => ?_)
        apply W_drawsJ [0, 1, 2] [1, 2] 3 9 [1] mixed (by kernel_rfl) rfl rfl hK19
        · intro r0
          refine WA_take 0 rfl (by kernel_rfl) (by kernel_rfl) rfl rfl rfl rfl (q_move rfl rfl) (WA_take 1 rfl (by kernel_rfl) (by kernel_rfl) rfl rfl rfl rfl (q_move rfl rfl) (WA_take 2 rfl (by kernel_rfl) (by kernel_rfl) rfl rfl rfl rfl (q_move rfl rfl) (?_)))
          first | refine WA_take 3 rfl (by kernel_rfl) (by kernel_rfl) rfl rfl rfl rfl (q_arith rfl rfl rfl rfl (by omega) (by omega)) ?_ | refine WA_take 3 rfl (by kernel_rfl) (by kernel_rfl) rfl rfl rfl rfl (q_wrap rfl rfl rfl rfl) ?_
          refine WA_take 5 rfl (by kernel_rfl) (by kernel_rfl) rfl rfl rfl rfl (q_move rfl rfl) (WA_take 6 rfl (by kernel_rfl) (by kernel_rfl) rfl rfl rfl rfl (q_move rfl rfl) (?_))
          refine WA_branch (rs := [4, 7]) (by kernel_rfl) rfl (AllB.cons ?_ (AllB.cons ?_ AllB.nil))
          · refine WB_run [1] rfl rfl (WX_q rfl rfl (q_cut_spare G rfl rfl rfl rfl rfl rfl (by (try simp only [List.length_take, List.length_append, List.length_map, List.length_drop, List.length_cons, List.length_nil, List.length_replicate, Int.toNat_natCast]); omega) (by (try simp only [List.length_take, List.length_append, List.length_map, List.length_drop, List.length_cons, List.length_nil, List.length_replicate, Int.toNat_natCast]); omega) (by (try simp only [List.length_take, List.length_append, List.length_map, List.length_drop, List.length_cons, List.length_nil, List.length_replicate, Int.toNat_natCast]); omega) (by (try simp only [List.length_take, List.length_append, List.length_map, List.length_drop, List.length_cons, List.length_nil, List.length_replicate, Int.toNat_natCast]); omega)) (WL_nil ⟨rfl, ?_⟩))
            refine WA_branch (rs := [7]) (by kernel_rfl) rfl (AllB.cons ?_ AllB.nil)
            refine WB_run [1] rfl rfl (WX_q rfl rfl (q_cut_spare G rfl rfl rfl rfl rfl rfl (by (try simp only [List.length_take, List.length_append, List.length_map, List.length_drop, List.length_cons, List.length_nil, List.length_replicate, Int.toNat_natCast]); omega) (by (try simp only [List.length_take, List.length_append, List.length_map, List.length_drop, List.length_cons, List.length_nil, List.length_replicate, Int.toNat_natCast]); omega) (by (try simp only [List.length_take, List.length_append, List.length_map, List.length_drop, List.length_cons, List.length_nil, List.length_replicate, Int.toNat_natCast]); omega) (by (try simp only [List.length_take, List.length_append, List.length_map, List.length_drop, List.length_cons, List.length_nil, List.length_replicate, Int.toNat_natCast]); omega)) (WL_nil ⟨rfl, ?_⟩))
            refine WA_branch (rs := [8]) (by kernel_rfl) rfl (AllB.cons ?_ AllB.nil)
            refine WB_run [1] rfl rfl (WX_copy_spare G rfl rfl rfl rfl rfl rfl rfl (vs := (xs.map encTc).drop i) (SrcOK.spare rfl (by (try simp only [List.length_take, List.length_append, List.length_map, List.length_drop, List.length_cons, List.length_nil, List.length_replicate, Int.toNat_natCast]); omega)) (L := xs.length - i) (by simp only [List.length_take, List.length_append, List.length_map, List.length_drop, List.length_cons, List.length_nil, Int.toNat_natCast, Nat.min_def]; (repeat' split) <;> omega) (ins_src (by rw [List.length_map]; omega) (by omega) (by (try simp only [List.length_take, List.length_append, List.length_map, List.length_drop, List.length_cons, List.length_nil, List.length_replicate, Int.toNat_natCast]); omega) (by rw [List.length_map]) (by rw [List.length_map])) (fun c hc => (hall c (List.mem_of_mem_drop hc)).2) (fun c hc => (hall c (List.mem_of_mem_drop hc)).1) (by (try simp only [List.length_take, List.length_append, List.length_map, List.length_drop, List.length_cons, List.length_nil, List.length_replicate, Int.toNat_natCast]); omega) (by (try simp only [List.length_take, List.length_append, List.length_map, List.length_drop, List.length_cons, List.length_nil, List.length_replicate, Int.toNat_natCast]); omega) (WL_nil ⟨rfl, ?_⟩))
            exact WA_end (by kernel_rfl) (Meet.mk rfl rfl rfl rfl)
          · refine WB_run [1] rfl rfl (WX_q rfl rfl (q_cut_spare G rfl rfl rfl rfl rfl rfl (by (try simp only [List.length_take, List.length_append, List.length_map, List.length_drop, List.length_cons, List.length_nil, List.length_replicate, Int.toNat_natCast]); omega) (by (try simp only [List.length_take, List.length_append, List.length_map, List.length_drop, List.length_cons, List.length_nil, List.length_replicate, Int.toNat_natCast]); omega) (by (try simp only [List.length_take, List.length_append, List.length_map, List.length_drop, List.length_cons, List.length_nil, List.length_replicate, Int.toNat_natCast]); omega) (by (try simp only [List.length_take, List.length_append, List.length_map, List.length_drop, List.length_cons, List.length_nil, List.length_replicate, Int.toNat_natCast]); omega)) (WL_nil ⟨rfl, ?_⟩))
            refine WA_branch (rs := [4]) (by kernel_rfl) rfl (AllB.cons ?_ AllB.nil)
            refine WB_run [1] rfl rfl (WX_q rfl rfl (q_cut_spare G rfl rfl rfl rfl rfl rfl (by (try simp only [List.length_take, List.length_append, List.length_map, List.length_drop, List.length_cons, List.length_nil, List.length_replicate, Int.toNat_natCast]); omega) (by (try simp only [List.length_take, List.length_append, List.length_map, List.length_drop, List.length_cons, List.length_nil, List.length_replicate, Int.toNat_natCast]); omega) (by (try simp only [List.length_take, List.length_append, List.length_map, List.length_drop, List.length_cons, List.length_nil, List.length_replicate, Int.toNat_natCast]); omega) (by (try simp only [List.length_take, List.length_append, List.length_map, List.length_drop, List.length_cons, List.length_nil, List.length_replicate, Int.toNat_natCast]); omega)) (WL_nil ⟨rfl, ?_⟩))
            refine WA_branch (rs := [8]) (by kernel_rfl) rfl (AllB.cons ?_ AllB.nil)
            refine WB_run [1] rfl rfl (WX_copy_spare G rfl rfl rfl rfl rfl rfl rfl (vs := (xs.map encTc).drop i) (SrcOK.spare rfl (by (try simp only [List.length_take, List.length_append, List.length_map, List.length_drop, List.length_cons, List.length_nil, List.length_replicate, Int.toNat_natCast]); omega)) (L := xs.length - i) (by simp only [List.length_take, List.length_append, List.length_map, List.length_drop, List.length_cons, List.length_nil, Int.toNat_natCast, Nat.min_def]; (repeat' split) <;> omega) (ins_src (by rw [List.length_map]; omega) (by omega) (by (try simp only [List.length_take, List.length_append, List.length_map, List.length_drop, List.length_cons, List.length_nil, List.length_replicate, Int.toNat_natCast]); omega) (by rw [List.length_map]) (by rw [List.length_map])) (fun c hc => (hall c (List.mem_of_mem_drop hc)).2) (fun c hc => (hall c (List.mem_of_mem_drop hc)).1) (by (try simp only [List.length_take, List.length_append, List.length_map, List.length_drop, List.length_cons, List.length_nil, List.length_replicate, Int.toNat_natCast]); omega) (by (try simp only [List.length_take, List.length_append, List.length_map, List.length_drop, List.length_cons, List.length_nil, List.length_replicate, Int.toNat_natCast]); omega) (WL_nil ⟨rfl, ?_⟩))
            exact WA_end (by kernel_rfl) (Meet.mk rfl rfl rfl rfl)
        · clear hK19 K19
          refine W_seq (fun K20 hK20 => ?_)
          refine W_region (WL_cons rfl (WX_q rfl rfl (q_move rfl rfl) (WL_cons rfl (WX_q rfl rfl (q_move rfl rfl) (WL_cons rfl (?_))))))
          refine WX_q rfl rfl (q_cut_spare G rfl rfl rfl rfl rfl rfl (by (try simp only [List.length_take, List.length_append, List.length_map, List.length_drop, List.length_cons, List.length_nil, List.length_replicate, Int.toNat_natCast]); omega) (by (try simp only [List.length_take, List.length_append, List.length_map, List.length_drop, List.length_cons, List.length_nil, List.length_replicate, Int.toNat_natCast]); omega) (by (try simp only [List.length_take, List.length_append, List.length_map, List.length_drop, List.length_cons, List.length_nil, List.length_replicate, Int.toNat_natCast]); omega) (by (try simp only [List.length_take, List.length_append, List.length_map, List.length_drop, List.length_cons, List.length_nil, List.length_replicate, Int.toNat_natCast]); omega)) ?_
          refine WL_cons rfl (WX_q rfl rfl (q_move rfl rfl) (WL_cons rfl (?_)))
          refine WX_copy_spare G rfl rfl rfl rfl rfl rfl rfl (vs := [encTc v]) (SrcOK.of (vs := [encTc v]) (by intro c hc; rw [List.mem_singleton.1 hc]; rfl) (ArgOK.of rfl) (by decide)) (L := 1) (by simp only [List.length_take, List.length_append, List.length_map, List.length_drop, List.length_cons, List.length_nil, Int.toNat_natCast, Nat.min_def]; (repeat' split) <;> omega) rfl (by intro c hc; rw [List.mem_singleton.1 hc]; exact enc_one v) (by intro c hc; rw [List.mem_singleton.1 hc]; rfl) (by (try simp only [List.length_take, List.length_append, List.length_map, List.length_drop, List.length_cons, List.length_nil, List.length_replicate, Int.toNat_natCast]); omega) (by (try simp only [List.length_take, List.length_append, List.length_map, List.length_drop, List.length_cons, List.length_nil, List.length_replicate, Int.toNat_natCast]); omega) ?_
          refine WL_nil (hK20 _ ?_)
          clear hK20 K20
          refine W_seq (fun K21 hK21 => ?_)
          refine W_region (WL_cons rfl (WX_q rfl rfl (q_move rfl rfl) (WL_cons rfl (WX_q rfl rfl (q_assign rfl rfl) (?_)))))
          refine WL_nil (hK21 _ ?_)
          clear hK21 K21
          have ht1 : ((i : Int) + 1).toNat = i + 1 := by omega
          refine W_row (id := 2) rfl (of_eq (L0 := (xs.take i ++ [v] ++ xs.drop i).map encTc) (by (rw [show xs.length + 1 = (xs.map encTc).length + 1 from by rw [List.length_map]]; simp only [Int.toNat_natCast, ht1, Int.toNat_zero, List.length_drop, List.length_cons, List.length_nil, Nat.zero_add, List.map_append, List.map_take, List.map_drop, List.map_cons, List.map_nil, Nat.sub_zero]; exact ins_room (by rw [List.length_map]; exact hi) (by omega))) (fun c hc => (by obtain ⟨x, _, rfl⟩ := List.mem_map.1 hc; exact enc_one x))) ?_
          refine W_ret (finm_one rfl (rc_own rfl ?_) rfl (AftOK.gone (AftOK.stays rfl ?_ rfl AftOK.nil)))
          all_goals clear hK17 K17
          all_goals (first | rfl | (have e : i = xs.length := (by omega); subst e; simp; done) | (have ht1 : ((i : Int) + 1).toNat = i + 1 := (by omega); first | (rw [show List.take ((((xs.map encTc).length : Nat) : Int).toNat - ((i : Nat) : Int).toNat) (List.drop ((i : Nat) : Int).toNat (xs.map encTc)) = List.drop i (xs.map encTc) from List.take_of_length_le (by rw [List.length_drop, Int.toNat_natCast, Int.toNat_natCast]; exact Nat.le_refl _)]; simp only [Int.toNat_natCast, ht1, Int.toNat_zero, List.length_drop, List.length_cons, List.length_nil, Nat.zero_add, List.map_append, List.map_take, List.map_drop, List.map_cons, List.map_nil, Nat.sub_zero]; exact ins_grow (by rw [List.length_map]; exact hi) (by rw [List.length_replicate, List.length_map])) | (rw [show xs.length + 1 = (xs.map encTc).length + 1 from by rw [List.length_map]]; simp only [Int.toNat_natCast, ht1, Int.toNat_zero, List.length_drop, List.length_cons, List.length_nil, Nat.zero_add, List.map_append, List.map_take, List.map_drop, List.map_cons, List.map_nil, Nat.sub_zero]; exact ins_room (by rw [List.length_map]; exact hi) (by omega))))

end Go.Proofs.Ytehijimgenicfaa
