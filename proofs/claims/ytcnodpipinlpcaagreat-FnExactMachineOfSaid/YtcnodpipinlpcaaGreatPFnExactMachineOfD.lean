/- Texts merged into one: M9, M10, W6, W7. -/
import Derived.Test.YtcnodpipinlpcaaGreatPFnExactMachineOfC
/- Walks through functions of the program, one contract each (written by gen.py). -/
set_option maxRecDepth 20000
set_option linter.unusedVariables false
set_option linter.unusedSimpArgs false
namespace Go.Proofs.YtcnodpipinlpcaaGreat
open Go Go.Rf

theorem c_spec_l1Least (a b : Int) : Ctr Tryz.prog 136 [.v (.int .i64 a), .v (.int .i64 b)] (.one (.v (.int .i64 (min a b)))) := by
  refine Ctr.of (n := 10) G Tryz.func136 rfl (by kernel_rfl) rfl rfl rfl (fun w0 => ?_)
  refine W_seq (fun K1 hK1 => ?_)
  refine W_region (WL_cons rfl (WX_q rfl rfl (q_assign rfl rfl) (?_)))
  refine WL_nil (hK1 _ ?_)
  clear hK1 K1
  refine W_seq (fun K2 hK2 => ?_)
  refine W_seq (fun K3 hK3 => ?_)
  refine W_region (WL_cons rfl (WX_q rfl rfl (q_move rfl rfl) (WL_cons rfl (WX_q rfl rfl (q_move rfl rfl) (WL_cons rfl (WX_q rfl rfl (q_cmp rfl rfl rfl rfl) (?_)))))))
  refine WL_nil (hK3 _ ?_)
  clear hK3 K3
  refine W_cond rfl (fun h1 => ?_) (fun h1 => ?_)
  · try rw [h1]
    try simp only [rfb] at h1
    refine W_seq (fun K4 hK4 => ?_)
    refine W_region (WL_cons rfl (WX_q rfl rfl (q_move rfl rfl) (WL_cons rfl (WX_q rfl rfl (q_assign rfl rfl) (?_)))))
    refine WL_nil (hK4 _ ?_)
    clear hK4 K4
    refine W_ret (fin_one rfl (rc_v ?_))
    all_goals clear hK2 K2
    all_goals (simp_all; omega)
  · try rw [h1]
    try simp only [rfb] at h1
    refine W_skip (hK2 _ ?_)
    clear hK2 K2
    refine W_seq (fun K5 hK5 => ?_)
    refine W_region (WL_cons rfl (WX_q rfl rfl (q_move rfl rfl) (WL_cons rfl (WX_q rfl rfl (q_assign rfl rfl) (?_)))))
    refine WL_nil (hK5 _ ?_)
    clear hK5 K5
    refine W_ret (fin_one rfl (rc_v ?_))
    all_goals (simp_all; omega)

theorem c_impl_takeSlot (sl : List Slot) (lim : Int) (hF : SlF sl) : Ctr Tryz.prog 188 [.lst 3 (sl.map encSl), .v (.int .i64 lim)] (.many [.fr 154 3 ((tkT sl lim).1.map encSl), .v (.int .i64 (tkT sl lim).2.1), .v (.bool (tkT sl lim).2.2)]) := by
  have hl4 := hF.len
  have hb := @bstS_bd sl true
  have hf := @fnd_bd sl
  refine Ctr.of (n := 33) G Tryz.func188 rfl (by kernel_rfl) rfl rfl rfl (fun w0 => ?_)
  refine W_seq (fun K1 hK1 => ?_)
  refine W_region (WL_cons rfl (WX_q rfl rfl (q_assign rfl rfl) (WL_cons rfl (WX_q rfl rfl (q_assign rfl rfl) (WL_cons rfl (WX_q rfl rfl (q_assign rfl rfl) (?_)))))))
  refine WL_nil (hK1 _ ?_)
  clear hK1 K1
  refine W_seq (fun K2 hK2 => ?_)
  refine W_region (WL_cons rfl (WX_q rfl rfl (q_move rfl rfl) (WL_cons rfl (?_))))
  refine WX_q rfl rfl (q_call rfl (ArgsOK.of rfl) (c_impl_pendingSlot sl true (by omega) hF.difS) rfl) ?_
  refine WL_cons rfl (WX_q rfl rfl (q_assign rfl rfl) (?_))
  refine WL_nil (hK2 _ ?_)
  clear hK2 K2
  refine W_seq (fun K3 hK3 => ?_)
  refine W_seq (fun K4 hK4 => ?_)
  refine W_region (WL_cons rfl (WX_q rfl rfl (q_move rfl rfl) (WL_cons rfl (WX_q rfl rfl (q_cmp rfl rfl rfl rfl) (WL_cons rfl (WX_q rfl rfl (q_move rfl rfl) (WL_part rfl rfl rfl (fun h1 => ?_) (fun h1 => ?_))))))))
  · try rw [h1]
    try simp only [rfb] at h1
    refine WL_skip rfl rfl rfl rfl rfl rfl (WL_skip rfl rfl rfl rfl rfl rfl (WL_skip rfl rfl rfl rfl rfl rfl (WL_skip rfl rfl rfl rfl rfl rfl (WL_skip rfl rfl rfl rfl rfl rfl (WL_skip rfl rfl rfl rfl rfl rfl (WL_skip rfl rfl rfl rfl rfl rfl (WL_cons rfl (WX_q rfl rfl (q_pick_t rfl rfl rfl) (?_)))))))))
    refine WL_nil (hK4 _ ?_)
    clear hK4 K4
    refine W_true rfl ?_
    refine W_seq (fun K5 hK5 => ?_)
    refine W_region (WL_cons rfl (WX_q rfl rfl (q_assign rfl rfl) (WL_cons rfl (WX_q rfl rfl (q_assign rfl rfl) (WL_cons rfl (WX_q rfl rfl (q_assign rfl rfl) (?_)))))))
    refine WL_nil (hK5 _ ?_)
    clear hK5 K5
    refine W_ret (fin_many rfl rfl rfl rfl (rcs_cons (rc_nil ?_) (rcs_cons (rc_v ?_) (rcs_cons (rc_v ?_) rcs_nil))))
    all_goals clear hK3 K3
    all_goals (first | (rw [tkT_f (tkOK_nf.mpr (by omega))]; done) | (rw [tkT_f (tkOK_nf.mpr (by omega))]; rfl) | (rw [tkT_t (tkOK_iff.mpr (by omega))]; done) | (rw [tkT_t (tkOK_iff.mpr (by omega))]; rfl))
  · try rw [h1]
    try simp only [rfb] at h1
    refine WL_run rfl rfl rfl (WX_q rfl rfl (q_move rfl rfl) (WL_run rfl rfl rfl (WX_q rfl rfl (q_move rfl rfl) (WL_run rfl rfl rfl (?_)))))
    first | refine WX_q rfl rfl (q_index_lst G rfl rfl rfl rfl (by omega) (getN (by omega))) ?_ | refine WX_q rfl rfl (q_index_lst G rfl rfl rfl rfl (by omega) (getNI (by omega) (by omega))) ?_ | refine WX_q rfl rfl (q_index_lst G rfl rfl rfl rfl (by omega) (getM (by omega) (by omega))) ?_
    refine WL_run rfl rfl rfl (WX_q rfl rfl (q_field_ept G rfl rfl rfl rfl) (WL_run rfl rfl rfl (WX_q rfl rfl (q_load_ept G rfl rfl rfl rfl rfl) (WL_run rfl rfl rfl (WX_q rfl rfl (q_move rfl rfl) (WL_run rfl rfl rfl (WX_q rfl rfl (q_cmp rfl rfl rfl rfl) (WL_cons rfl (WX_q rfl rfl (q_pick_f rfl rfl rfl) (?_))))))))))
    refine WL_nil (hK4 _ ?_)
    clear hK4 K4
    refine W_cond rfl (fun h2 => ?_) (fun h2 => ?_)
    · try rw [h2]
      try simp only [rfb] at h2
      refine W_seq (fun K6 hK6 => ?_)
      refine W_region (WL_cons rfl (WX_q rfl rfl (q_assign rfl rfl) (WL_cons rfl (WX_q rfl rfl (q_assign rfl rfl) (WL_cons rfl (WX_q rfl rfl (q_assign rfl rfl) (?_)))))))
      refine WL_nil (hK6 _ ?_)
      clear hK6 K6
      refine W_ret (fin_many rfl rfl rfl rfl (rcs_cons (rc_nil ?_) (rcs_cons (rc_v ?_) (rcs_cons (rc_v ?_) rcs_nil))))
      all_goals clear hK3 K3
      all_goals (first | (rw [tkT_f (tkOK_nf.mpr (by omega))]; done) | (rw [tkT_f (tkOK_nf.mpr (by omega))]; rfl) | (rw [tkT_t (tkOK_iff.mpr (by omega))]; done) | (rw [tkT_t (tkOK_iff.mpr (by omega))]; rfl))
    · try rw [h2]
      try simp only [rfb] at h2
      refine W_skip (hK3 _ ?_)
      clear hK3 K3
      refine W_seq (fun K7 hK7 => ?_)
      refine W_region (WL_cons rfl (WX_q rfl rfl (q_move rfl rfl) (WL_cons rfl (WX_q rfl rfl (q_move rfl rfl) (WL_cons rfl (?_))))))
      first | refine WX_q rfl rfl (q_index_lst G rfl rfl rfl rfl (by omega) (getN (by omega))) ?_ | refine WX_q rfl rfl (q_index_lst G rfl rfl rfl rfl (by omega) (getNI (by omega) (by omega))) ?_ | refine WX_q rfl rfl (q_index_lst G rfl rfl rfl rfl (by omega) (getM (by omega) (by omega))) ?_
      refine WL_cons rfl (WX_q rfl rfl (q_load_ept_struct G rfl rfl rfl rfl) (WL_cons rfl (WX_alloc_s G 1 rfl rfl rfl rfl rfl (WL_cons rfl (WX_store G rfl rfl rfl rfl rfl rfl rfl rfl rfl rfl rfl (?_))))))
      refine WL_nil (hK7 _ ?_)
      clear hK7 K7
      refine W_seq (fun K8 hK8 => ?_)
      refine W_region (WL_cons rfl (WX_q rfl rfl (q_field_ptr G rfl rfl rfl rfl) (WL_cons rfl (WX_store G rfl rfl rfl rfl rfl rfl rfl rfl rfl rfl rfl (?_)))))
      refine WL_nil (hK8 _ ?_)
      clear hK8 K8
      refine W_seq (fun K9 hK9 => ?_)
      refine W_drawsH 9 [0] mixed (by kernel_rfl) rfl rfl (fun r0 => ?_) (fun _ h => h)
      refine WA_take 0 rfl (by kernel_rfl) (by kernel_rfl) rfl rfl rfl rfl (q_move rfl rfl) (WA_take 1 rfl (by kernel_rfl) (by kernel_rfl) rfl rfl rfl rfl (q_move rfl rfl) (WA_take 2 rfl (by kernel_rfl) (by kernel_rfl) rfl rfl rfl rfl (q_load_box_struct G rfl rfl rfl rfl rfl rfl) (WA_take 4 rfl (by kernel_rfl) (by kernel_rfl) rfl rfl rfl rfl (q_field_ptr G rfl rfl rfl rfl) (WA_take 5 rfl (by kernel_rfl) (by kernel_rfl) rfl rfl rfl rfl (q_load_box G rfl rfl rfl rfl rfl rfl rfl) (?_)))))
      refine WA_branch (rs := [3]) (by kernel_rfl) rfl (AllB.cons ?_ AllB.nil)
      refine WB_run [0] rfl rfl (WX_call 2 rfl rfl rfl (ArgsOK.of rfl) (c_impl_withSlot sl _ ⟨_, _, _⟩ (by omega) (by omega)) rfl rfl (WL_nil ⟨rfl, ?_⟩))
      refine WA_take 6 rfl (by kernel_rfl) (by kernel_rfl) rfl rfl rfl rfl (q_assign rfl rfl) (WA_take 7 rfl (by kernel_rfl) (by kernel_rfl) rfl rfl rfl rfl (q_assign rfl rfl) (WA_take 8 rfl (by kernel_rfl) (by kernel_rfl) rfl rfl rfl rfl (q_assign rfl rfl) (?_)))
      refine WA_end (by kernel_rfl) (hK9 _ ?_)
      clear hK9 K9
      refine W_ret (fin_many rfl rfl rfl rfl (rcs_cons (rc_own rfl ?_) (rcs_cons (rc_v ?_) (rcs_cons (rc_v ?_) rcs_nil))))
      all_goals (first | (rw [tkT_f (tkOK_nf.mpr (by omega))]; done) | (rw [tkT_f (tkOK_nf.mpr (by omega))]; rfl) | (rw [tkT_t (tkOK_iff.mpr (by omega))]; done) | (rw [tkT_t (tkOK_iff.mpr (by omega))]; rfl))

theorem c_spec_l8Take (sl : List Slot) (lim : Int) (hF : SlF sl) (hk : tkOK sl lim = true) : Ctr Tryz.prog 181 [.lst 3 (sl.map encSl), .v (.int .i64 lim)] (.many [.fr 154 3 ((tkS sl).map encSl), .v (.int .i64 (tkI sl))]) := by
  have hl4 := hF.len
  have hb := @bstS_bd sl true
  have hf := @fnd_bd sl
  have hkk := tkOK_iff.mp hk
  refine Ctr.of (n := 33) G Tryz.func181 rfl (by kernel_rfl) rfl rfl rfl (fun w0 => ?_)
  refine W_seq (fun K1 hK1 => ?_)
  refine W_region (WL_cons rfl (WX_q rfl rfl (q_assign rfl rfl) (WL_cons rfl (WX_q rfl rfl (q_assign rfl rfl) (?_)))))
  refine WL_nil (hK1 _ ?_)
  clear hK1 K1
  refine W_seq (fun K2 hK2 => ?_)
  refine W_region (WL_cons rfl (WX_q rfl rfl (q_move rfl rfl) (WL_cons rfl (?_))))
  refine WX_q rfl rfl (q_call rfl (ArgsOK.of rfl) (c_spec_l8Best_t sl (by omega)) rfl) ?_
  refine WL_cons rfl (WX_q rfl rfl (q_assign rfl rfl) (?_))
  refine WL_nil (hK2 _ ?_)
  clear hK2 K2
  refine W_seq (fun K3 hK3 => ?_)
  refine W_seq (fun K4 hK4 => ?_)
  refine W_region (WL_cons rfl (WX_q rfl rfl (q_move rfl rfl) (WL_cons rfl (WX_q rfl rfl (q_cmp rfl rfl rfl rfl) (WL_cons rfl (WX_q rfl rfl (q_move rfl rfl) (WL_part rfl rfl rfl (fun h1 => ?_) (fun h1 => ?_))))))))
  · try rw [h1]
    try simp only [rfb] at h1
    exfalso; omega
  · try rw [h1]
    try simp only [rfb] at h1
    refine WL_run rfl rfl rfl (WX_q rfl rfl (q_move rfl rfl) (WL_run rfl rfl rfl (WX_q rfl rfl (q_move rfl rfl) (WL_run rfl rfl rfl (?_)))))
    first | refine WX_q rfl rfl (q_index_lst G rfl rfl rfl rfl (by omega) (getN (by omega))) ?_ | refine WX_q rfl rfl (q_index_lst G rfl rfl rfl rfl (by omega) (getNI (by omega) (by omega))) ?_ | refine WX_q rfl rfl (q_index_lst G rfl rfl rfl rfl (by omega) (getM (by omega) (by omega))) ?_
    refine WL_run rfl rfl rfl (WX_q rfl rfl (q_field_ept G rfl rfl rfl rfl) (WL_run rfl rfl rfl (WX_q rfl rfl (q_load_ept G rfl rfl rfl rfl rfl) (WL_run rfl rfl rfl (WX_q rfl rfl (q_move rfl rfl) (WL_run rfl rfl rfl (WX_q rfl rfl (q_cmp rfl rfl rfl rfl) (WL_cons rfl (WX_q rfl rfl (q_pick_f rfl rfl rfl) (?_))))))))))
    refine WL_nil (hK4 _ ?_)
    clear hK4 K4
    refine W_cond rfl (fun h2 => ?_) (fun h2 => ?_)
    · try rw [h2]
      try simp only [rfb] at h2
      exfalso; omega
    · try rw [h2]
      try simp only [rfb] at h2
      refine W_skip (hK3 _ ?_)
      clear hK3 K3
      refine W_seq (fun K5 hK5 => ?_)
      refine W_region (WL_cons rfl (WX_q rfl rfl (q_move rfl rfl) (WL_cons rfl (WX_q rfl rfl (q_move rfl rfl) (WL_cons rfl (?_))))))
      first | refine WX_q rfl rfl (q_index_lst G rfl rfl rfl rfl (by omega) (getN (by omega))) ?_ | refine WX_q rfl rfl (q_index_lst G rfl rfl rfl rfl (by omega) (getNI (by omega) (by omega))) ?_ | refine WX_q rfl rfl (q_index_lst G rfl rfl rfl rfl (by omega) (getM (by omega) (by omega))) ?_
      refine WL_cons rfl (WX_q rfl rfl (q_load_ept_struct G rfl rfl rfl rfl) (WL_cons rfl (WX_alloc_s G 1 rfl rfl rfl rfl rfl (WL_cons rfl (WX_store G rfl rfl rfl rfl rfl rfl rfl rfl rfl rfl rfl (?_))))))
      refine WL_nil (hK5 _ ?_)
      clear hK5 K5
      refine W_seq (fun K6 hK6 => ?_)
      refine W_region (WL_cons rfl (WX_q rfl rfl (q_field_ptr G rfl rfl rfl rfl) (WL_cons rfl (WX_store G rfl rfl rfl rfl rfl rfl rfl rfl rfl rfl rfl (?_)))))
      refine WL_nil (hK6 _ ?_)
      clear hK6 K6
      refine W_seq (fun K7 hK7 => ?_)
      refine W_drawsH 8 [0] mixed (by kernel_rfl) rfl rfl (fun r0 => ?_) (fun _ h => h)
      refine WA_take 0 rfl (by kernel_rfl) (by kernel_rfl) rfl rfl rfl rfl (q_move rfl rfl) (WA_take 1 rfl (by kernel_rfl) (by kernel_rfl) rfl rfl rfl rfl (q_move rfl rfl) (WA_take 2 rfl (by kernel_rfl) (by kernel_rfl) rfl rfl rfl rfl (q_load_box_struct G rfl rfl rfl rfl rfl rfl) (WA_take 4 rfl (by kernel_rfl) (by kernel_rfl) rfl rfl rfl rfl (q_field_ptr G rfl rfl rfl rfl) (WA_take 5 rfl (by kernel_rfl) (by kernel_rfl) rfl rfl rfl rfl (q_load_box G rfl rfl rfl rfl rfl rfl rfl) (?_)))))
      refine WA_branch (rs := [3]) (by kernel_rfl) rfl (AllB.cons ?_ AllB.nil)
      refine WB_run [0] rfl rfl (WX_call 2 rfl rfl rfl (ArgsOK.of rfl) (c_spec_l8With sl _ ⟨_, _, _⟩ (by omega) (by omega)) rfl rfl (WL_nil ⟨rfl, ?_⟩))
      refine WA_take 6 rfl (by kernel_rfl) (by kernel_rfl) rfl rfl rfl rfl (q_assign rfl rfl) (WA_take 7 rfl (by kernel_rfl) (by kernel_rfl) rfl rfl rfl rfl (q_assign rfl rfl) (?_))
      refine WA_end (by kernel_rfl) (hK7 _ ?_)
      clear hK7 K7
      refine W_ret (fin_many rfl rfl rfl rfl (rcs_cons (rc_own rfl ?_) (rcs_cons (rc_v ?_) rcs_nil)))
      all_goals (rfl)

theorem c_impl_putIrq (sl : List Slot) (irq p : Int) (hF : SlF sl) (h0 : 0 ≤ fndS sl irq) : Ctr Tryz.prog 191 [.lst 3 (sl.map encSl), .v (.int .i64 irq), .v (.int .i64 p)] (.many [.fr 154 3 ((ptS sl irq).map encSl), .v (.bool true)]) := by
  have hl4 := hF.len
  have hf := @fnd_bd sl irq
  refine Ctr.of (n := 38) G Tryz.func191 rfl (by kernel_rfl) rfl rfl rfl (fun w0 => ?_)
  refine W_seq (fun K1 hK1 => ?_)
  refine W_region (WL_cons rfl (WX_q rfl rfl (q_assign rfl rfl) (WL_cons rfl (WX_q rfl rfl (q_assign rfl rfl) (?_)))))
  refine WL_nil (hK1 _ ?_)
  clear hK1 K1
  refine W_seq (fun K2 hK2 => ?_)
  refine W_seq (fun K3 hK3 => ?_)
  refine W_region (WL_cons rfl (WX_q rfl rfl (q_move rfl rfl) (WL_cons rfl (WX_q rfl rfl (q_move rfl rfl) (WL_cons rfl (?_))))))
  refine WX_q rfl rfl (q_call rfl (ArgsOK.of rfl) (c_impl_findSlot sl irq (by omega)) rfl) ?_
  refine WL_cons rfl (WX_q rfl rfl (q_assign rfl rfl) (?_))
  refine WL_nil (hK3 _ ?_)
  clear hK3 K3
  refine W_seq (fun K4 hK4 => ?_)
  refine W_region (WL_cons rfl (WX_q rfl rfl (q_move rfl rfl) (WL_cons rfl (WX_q rfl rfl (q_cmp rfl rfl rfl rfl) (?_)))))
  refine WL_nil (hK4 _ ?_)
  clear hK4 K4
  refine W_cond rfl (fun h1 => ?_) (fun h1 => ?_)
  · try rw [h1]
    try simp only [rfb] at h1
    refine W_seq (fun K5 hK5 => ?_)
    refine W_region (WL_cons rfl (WX_q rfl rfl (q_move rfl rfl) (WL_cons rfl (WX_q rfl rfl (q_move rfl rfl) (WL_cons rfl (?_))))))
    first | refine WX_q rfl rfl (q_index_lst G rfl rfl rfl rfl (by omega) (getN (by omega))) ?_ | refine WX_q rfl rfl (q_index_lst G rfl rfl rfl rfl (by omega) (getNI (by omega) (by omega))) ?_ | refine WX_q rfl rfl (q_index_lst G rfl rfl rfl rfl (by omega) (getM (by omega) (by omega))) ?_
    refine WL_cons rfl (WX_q rfl rfl (q_load_ept_struct G rfl rfl rfl rfl) (WL_cons rfl (WX_alloc_s G 1 rfl rfl rfl rfl rfl (WL_cons rfl (WX_store G rfl rfl rfl rfl rfl rfl rfl rfl rfl rfl rfl (?_))))))
    refine WL_nil (hK5 _ ?_)
    clear hK5 K5
    refine W_seq (fun K6 hK6 => ?_)
    refine W_seq (fun K7 hK7 => ?_)
    refine W_region (WL_cons rfl (WX_q rfl rfl (q_field_ptr G rfl rfl rfl rfl) (WL_cons rfl (WX_q rfl rfl (q_load_box G rfl rfl rfl rfl rfl rfl rfl) (WL_cons rfl (WX_q rfl rfl (q_cmp rfl rfl rfl rfl) (?_)))))))
    refine WL_nil (hK7 _ ?_)
    clear hK7 K7
    refine W_cond rfl (fun h2 => ?_) (fun h2 => ?_)
    · try rw [h2]
      try simp only [rfb] at h2
      refine W_region (WL_cons rfl (WX_q rfl rfl (q_field_ptr G rfl rfl rfl rfl) (WL_cons rfl (WX_store G rfl rfl rfl rfl rfl rfl rfl rfl rfl rfl rfl (?_)))))
      refine WL_nil (hK6 _ ?_)
      clear hK6 K6
      refine W_seq (fun K8 hK8 => ?_)
      refine W_region (WL_cons rfl (WX_q rfl rfl (q_move rfl rfl) (WL_cons rfl (WX_q rfl rfl (q_move rfl rfl) (WL_cons rfl (WX_q rfl rfl (q_load_box_struct G rfl rfl rfl rfl rfl rfl) (WL_cons rfl (?_))))))))
      refine WX_call 2 rfl rfl rfl (ArgsOK.of rfl) (c_impl_withSlot sl _ ⟨_, _, _⟩ (by omega) (by omega)) rfl rfl ?_
      refine WL_cons rfl (WX_q rfl rfl (q_assign rfl rfl) (WL_cons rfl (WX_q rfl rfl (q_assign rfl rfl) (?_))))
      refine WL_nil (hK8 _ ?_)
      clear hK8 K8
      refine W_ret (fin_many rfl rfl rfl rfl (rcs_cons (rc_own rfl ?_) (rcs_cons (rc_v ?_) rcs_nil)))
      all_goals clear hK2 K2
      all_goals (first | rfl | (rw [ptS_2 (by assumption)]; done) | (rw [ptS_2 (by assumption)]; rfl) | (rw [ptS_n (by assumption)]; done) | (rw [ptS_n (by assumption)]; rfl))
    · try rw [h2]
      try simp only [rfb] at h2
      refine W_skip (hK6 _ ?_)
      clear hK6 K6
      refine W_seq (fun K9 hK9 => ?_)
      refine W_region (WL_cons rfl (WX_q rfl rfl (q_move rfl rfl) (WL_cons rfl (WX_q rfl rfl (q_move rfl rfl) (WL_cons rfl (WX_q rfl rfl (q_load_box_struct G rfl rfl rfl rfl rfl rfl) (WL_cons rfl (?_))))))))
      refine WX_call 2 rfl rfl rfl (ArgsOK.of rfl) (c_impl_withSlot sl _ ⟨_, _, _⟩ (by omega) (by omega)) rfl rfl ?_
      refine WL_cons rfl (WX_q rfl rfl (q_assign rfl rfl) (WL_cons rfl (WX_q rfl rfl (q_assign rfl rfl) (?_))))
      refine WL_nil (hK9 _ ?_)
      clear hK9 K9
      refine W_ret (fin_many rfl rfl rfl rfl (rcs_cons (rc_own rfl ?_) (rcs_cons (rc_v ?_) rcs_nil)))
      all_goals clear hK2 K2
      all_goals (first | rfl | (rw [ptS_2 (by assumption)]; done) | (rw [ptS_2 (by assumption)]; rfl) | (rw [ptS_n (by assumption)]; done) | (rw [ptS_n (by assumption)]; rfl))
  · try rw [h1]
    try simp only [rfb] at h1
    exfalso; omega

theorem c_spec_l8Put (sl : List Slot) (irq p : Int) (hF : SlF sl) (h0 : 0 ≤ fndS sl irq) : Ctr Tryz.prog 184 [.lst 3 (sl.map encSl), .v (.int .i64 irq), .v (.int .i64 p)] (.many [.fr 154 3 ((ptS sl irq).map encSl), .v (.bool true)]) := by
  have hl4 := hF.len
  have hf := @fnd_bd sl irq
  refine Ctr.of (n := 39) G Tryz.func184 rfl (by kernel_rfl) rfl rfl rfl (fun w0 => ?_)
  refine W_seq (fun K1 hK1 => ?_)
  refine W_region (WL_cons rfl (WX_q rfl rfl (q_assign rfl rfl) (WL_cons rfl (WX_q rfl rfl (q_assign rfl rfl) (?_)))))
  refine WL_nil (hK1 _ ?_)
  clear hK1 K1
  refine W_seq (fun K2 hK2 => ?_)
  refine W_seq (fun K3 hK3 => ?_)
  refine W_region (WL_cons rfl (WX_q rfl rfl (q_move rfl rfl) (WL_cons rfl (WX_q rfl rfl (q_move rfl rfl) (WL_cons rfl (?_))))))
  refine WX_q rfl rfl (q_call rfl (ArgsOK.of rfl) (c_spec_l8Find sl irq (by omega)) rfl) ?_
  refine WL_cons rfl (WX_q rfl rfl (q_assign rfl rfl) (?_))
  refine WL_nil (hK3 _ ?_)
  clear hK3 K3
  refine W_seq (fun K4 hK4 => ?_)
  refine W_region (WL_cons rfl (WX_q rfl rfl (q_move rfl rfl) (WL_cons rfl (WX_q rfl rfl (q_cmp rfl rfl rfl rfl) (?_)))))
  refine WL_nil (hK4 _ ?_)
  clear hK4 K4
  refine W_cond rfl (fun h1 => ?_) (fun h1 => ?_)
  · try rw [h1]
    try simp only [rfb] at h1
    refine W_seq (fun K5 hK5 => ?_)
    refine W_region (WL_cons rfl (WX_q rfl rfl (q_move rfl rfl) (WL_cons rfl (WX_q rfl rfl (q_move rfl rfl) (WL_cons rfl (?_))))))
    first | refine WX_q rfl rfl (q_index_lst G rfl rfl rfl rfl (by omega) (getN (by omega))) ?_ | refine WX_q rfl rfl (q_index_lst G rfl rfl rfl rfl (by omega) (getNI (by omega) (by omega))) ?_ | refine WX_q rfl rfl (q_index_lst G rfl rfl rfl rfl (by omega) (getM (by omega) (by omega))) ?_
    refine WL_cons rfl (WX_q rfl rfl (q_load_ept_struct G rfl rfl rfl rfl) (WL_cons rfl (WX_alloc_s G 1 rfl rfl rfl rfl rfl (WL_cons rfl (WX_store G rfl rfl rfl rfl rfl rfl rfl rfl rfl rfl rfl (?_))))))
    refine WL_nil (hK5 _ ?_)
    clear hK5 K5
    refine W_seq (fun K6 hK6 => ?_)
    refine W_seq (fun K7 hK7 => ?_)
    refine W_region (WL_cons rfl (WX_q rfl rfl (q_field_ptr G rfl rfl rfl rfl) (WL_cons rfl (WX_q rfl rfl (q_load_box G rfl rfl rfl rfl rfl rfl rfl) (WL_cons rfl (WX_q rfl rfl (q_cmp rfl rfl rfl rfl) (?_)))))))
    refine WL_nil (hK7 _ ?_)
    clear hK7 K7
    refine W_cond rfl (fun h2 => ?_) (fun h2 => ?_)
    · try rw [h2]
      try simp only [rfb] at h2
      refine W_region (WL_cons rfl (WX_q rfl rfl (q_field_ptr G rfl rfl rfl rfl) (WL_cons rfl (WX_store G rfl rfl rfl rfl rfl rfl rfl rfl rfl rfl rfl (?_)))))
      refine WL_nil (hK6 _ ?_)
      clear hK6 K6
      refine W_seq (fun K8 hK8 => ?_)
      refine W_region (WL_cons rfl (WX_q rfl rfl (q_move rfl rfl) (WL_cons rfl (WX_q rfl rfl (q_move rfl rfl) (WL_cons rfl (WX_q rfl rfl (q_load_box_struct G rfl rfl rfl rfl rfl rfl) (WL_cons rfl (?_))))))))
      refine WX_call 2 rfl rfl rfl (ArgsOK.of rfl) (c_spec_l8With sl _ ⟨_, _, _⟩ (by omega) (by omega)) rfl rfl ?_
      refine WL_cons rfl (WX_q rfl rfl (q_assign rfl rfl) (WL_cons rfl (WX_q rfl rfl (q_assign rfl rfl) (?_))))
      refine WL_nil (hK8 _ ?_)
      clear hK8 K8
      refine W_ret (fin_many rfl rfl rfl rfl (rcs_cons (rc_own rfl ?_) (rcs_cons (rc_v ?_) rcs_nil)))
      all_goals clear hK2 K2
      all_goals (first | rfl | (rw [ptS_2 (by assumption)]; done) | (rw [ptS_2 (by assumption)]; rfl) | (rw [ptS_n (by assumption)]; done) | (rw [ptS_n (by assumption)]; rfl))
    · try rw [h2]
      try simp only [rfb] at h2
      refine W_skip (hK6 _ ?_)
      clear hK6 K6
      refine W_seq (fun K9 hK9 => ?_)
      refine W_region (WL_cons rfl (WX_q rfl rfl (q_move rfl rfl) (WL_cons rfl (WX_q rfl rfl (q_move rfl rfl) (WL_cons rfl (WX_q rfl rfl (q_load_box_struct G rfl rfl rfl rfl rfl rfl) (WL_cons rfl (?_))))))))
      refine WX_call 2 rfl rfl rfl (ArgsOK.of rfl) (c_spec_l8With sl _ ⟨_, _, _⟩ (by omega) (by omega)) rfl rfl ?_
      refine WL_cons rfl (WX_q rfl rfl (q_assign rfl rfl) (WL_cons rfl (WX_q rfl rfl (q_assign rfl rfl) (?_))))
      refine WL_nil (hK9 _ ?_)
      clear hK9 K9
      refine W_ret (fin_many rfl rfl rfl rfl (rcs_cons (rc_own rfl ?_) (rcs_cons (rc_v ?_) rcs_nil)))
      all_goals clear hK2 K2
      all_goals (first | rfl | (rw [ptS_2 (by assumption)]; done) | (rw [ptS_2 (by assumption)]; rfl) | (rw [ptS_n (by assumption)]; done) | (rw [ptS_n (by assumption)]; rfl))
  · try rw [h1]
    try simp only [rfb] at h1
    exfalso; omega

theorem c_impl_newQueue_n (q : Que) (hl : q.sl.length ≤ 1048576) (hw : q.wa.length ≤ 1048576) : Ctr Tryz.prog 189 [.agg [.lst 3 (q.sl.map encSl), .lst 2 (q.wa.map encWa)]] (.shp true [some 2] [.fr 154 3 (q.sl.map encSl), .fr 183 2 (q.wa.map encWa)]) := by
  refine Ctr.of (n := 12) G Tryz.func189 rfl (by kernel_rfl) rfl rfl rfl (fun w0 => ?_)
  refine W_pinS 0 rfl (fun _ => rfl) (fun u0 => ?_)
  refine W_seq (fun K1 hK1 => ?_)
  refine W_region (WL_cons rfl (WX_box 1 rfl rfl rfl rfl rfl rfl rfl (WL_cons rfl (WX_alloc_s G 2 rfl rfl rfl rfl rfl (?_)))))
  refine WL_nil (hK1 _ ?_)
  clear hK1 K1
  refine W_seq (fun K2 hK2 => ?_)
  refine W_drawsH 10 [0] mixed (by kernel_rfl) rfl rfl (fun r0 => ?_) (fun _ h => h)
  refine WA_take 1 rfl (by kernel_rfl) (by kernel_rfl) rfl rfl rfl rfl (q_field_ptr G rfl rfl rfl rfl) (WA_take 2 rfl (by kernel_rfl) (by kernel_rfl) rfl rfl rfl rfl (q_lst (q_load_box G rfl rfl rfl rfl rfl rfl rfl)) (WA_take 5 rfl (by kernel_rfl) (by kernel_rfl) rfl rfl rfl rfl (q_field_ptr G rfl rfl rfl rfl) (WA_take 6 rfl (by kernel_rfl) (by kernel_rfl) rfl rfl rfl rfl (q_lst (q_load_box G rfl rfl rfl rfl rfl rfl rfl)) (?_))))
  refine WA_more (N := 4) rfl (WAV_startH (fuel := 4) [⟨0, 3, 2, false, .row 154 3 []⟩, ⟨4, 7, 3, false, .row 183 2 []⟩] (AllVOK.cons (VOK.lit G rfl rfl rfl rfl rfl) (AllVOK.cons (VOK.lit G rfl rfl rfl rfl rfl) (AllVOK.nil))) (fun hok => ?_))
  refine WAV_go [(3, [0])] (by kernel_rfl) (by kernel_rfl) (fun e he => hok e he) (by kernel_rfl) (AllVS.cons ?_ AllVS.nil)
  refine VStep.mk1 [0] 3 (.own 2) 2 (.row 154 3 []) [⟨4, 7, 3, false, .row 183 2 []⟩] rfl rfl rfl rfl rfl (fun b1 _ hbn => WX_append G (by rw [hbn]; exact Nat.le_of_ble_eq_true rfl) rfl rfl rfl rfl rfl rfl rfl rfl rfl (by simp; omega) rfl rfl (WL_nil rfl)) (by kernel_rfl) (by kernel_rfl) (by kernel_rfl) (by kernel_rfl) ?_
  refine WAV_go [(7, [4])] (by kernel_rfl) (by kernel_rfl) (fun e he => hok e (vin (is := [0]) rfl he)) (by kernel_rfl) (AllVS.cons ?_ AllVS.nil)
  refine VStep.mk1 [0] 7 (.own 3) 3 (.row 183 2 []) [] rfl rfl rfl rfl rfl (fun b1 _ hbn => WX_append G (by rw [hbn]; exact Nat.le_of_ble_eq_true rfl) rfl rfl rfl rfl rfl rfl rfl rfl rfl (by simp; omega) rfl rfl (WL_nil rfl)) (by kernel_rfl) (by kernel_rfl) (by kernel_rfl) (by kernel_rfl) ?_
  refine WAV_nil ?_
  clear hok
  refine WA_branch (rs := [8]) (by kernel_rfl) rfl (AllB.cons ?_ AllB.nil)
  refine WB_run [0] rfl rfl (WX_q rfl rfl (q_build G rfl rfl rfl rfl) (WL_nil ⟨rfl, ?_⟩))
  refine WA_branch (rs := [9]) (by kernel_rfl) rfl (AllB.cons ?_ AllB.nil)
  refine WB_run [0] rfl rfl (WX_store G rfl rfl rfl rfl rfl rfl rfl rfl rfl rfl rfl (WL_nil ⟨rfl, ?_⟩))
  refine WA_end (by kernel_rfl) (hK2 _ ?_)
  clear hK2 K2
  refine W_ret (fin_shp rfl rfl rfl rfl (rcs_cons (rc_own rfl ?_) (rcs_cons (rc_own rfl ?_) rcs_nil)))
  all_goals (first | rfl | simp)

theorem c_impl_offerIrq (q : Que) (irq p : Int) (hF : QF q) (hi : 0 ≤ irq ∧ irq ≤ 7) (hp : 0 ≤ p ∧ p ≤ 15) : Ctr Tryz.prog 142 [.agg [.lst 3 (q.sl.map encSl), .lst 2 (q.wa.map encWa)], .v (.int .i64 irq), .v (.int .i64 p)] (.shp true [some 2] [.fr 154 3 ((offr q irq p).sl.map encSl), .fr 183 2 ((offr q irq p).wa.map encWa) true]) := by
  have hl4 := hF.sl.len
  have hwn := hF.wn
  have hQ := (offQ_F (irq := irq) (p := p) hF hi hp).1
  refine Ctr.of (n := 40) G Tryz.func142 rfl (by kernel_rfl) rfl rfl rfl (fun w0 => ?_)
  refine W_pinS 0 rfl (fun _ => rfl) (fun u0 => ?_)
  refine W_seq (fun K1 hK1 => ?_)
  refine W_region (WL_cons rfl (WX_box 1 rfl rfl rfl rfl rfl rfl rfl (WL_cons rfl (WX_alloc_s G 2 rfl rfl rfl rfl rfl (?_)))))
  refine WL_nil (hK1 _ ?_)
  clear hK1 K1
  refine W_seq (fun K2 hK2 => ?_)
  refine W_region (WL_cons rfl (WX_q rfl rfl (q_load_box_struct G rfl rfl rfl rfl rfl rfl) (WL_cons rfl (?_))))
  refine WX_call 4 rfl rfl rfl (ArgsOK.of rfl) (c_impl_newQueue_n q (by omega) (by omega)) rfl rfl ?_
  refine WL_cons rfl (WX_alloc_s G 5 rfl rfl rfl rfl rfl (WL_cons rfl (WX_store G rfl rfl rfl rfl rfl rfl rfl rfl rfl rfl rfl (?_))))
  refine WL_nil (hK2 _ ?_)
  clear hK2 K2
  refine W_seq (fun K3 hK3 => ?_)
  refine W_block ?_
  refine W_seq (fun K4 hK4 => ?_)
  refine W_region (WL_cons rfl (WX_q rfl rfl (q_field_ptr G rfl rfl rfl rfl) (WL_cons rfl (WX_q rfl rfl (q_lst (q_load_box G rfl rfl rfl rfl rfl rfl rfl)) (WL_cons rfl (WX_q rfl rfl (q_move rfl rfl) (WL_cons rfl (?_))))))))
  refine WX_q rfl rfl (q_call rfl (ArgsOK.of rfl) (c_impl_findSlot q.sl irq (by omega)) rfl) ?_
  refine WL_cons rfl (WX_q rfl rfl (q_cmp rfl rfl rfl rfl) (WL_cons rfl (WX_q rfl rfl (q_assign rfl rfl) (?_))))
  refine WL_nil (hK4 _ ?_)
  clear hK4 K4
  refine W_cond rfl (fun h1 => ?_) (fun h1 => ?_)
  · try rw [h1]
    try simp only [rfb] at h1
    have ho := offQ_a (p := p) h1
    rw [ho] at hQ
    refine W_region (WL_cons rfl (WX_q rfl rfl (q_field_ptr G rfl rfl rfl rfl) (WL_cons rfl (WX_q rfl rfl (q_lst (q_load_box G rfl rfl rfl rfl rfl rfl rfl)) (WL_cons rfl (WX_q rfl rfl (q_move rfl rfl) (WL_cons rfl (WX_q rfl rfl (q_move rfl rfl) (WL_cons rfl (?_))))))))))
    refine WX_call 6 rfl rfl rfl (ArgsOK.of rfl) (c_impl_putIrq q.sl irq p hF.sl h1) rfl rfl ?_
    refine WL_cons rfl (WX_q rfl rfl (q_move rfl rfl) (WL_cons rfl (WX_q rfl rfl (q_extract rfl rfl rfl) (WL_cons rfl (WX_q rfl rfl (q_extract rfl rfl rfl) (WL_cons rfl (WX_q rfl rfl (q_field_ptr G rfl rfl rfl rfl) (WL_cons rfl (WX_store G rfl rfl rfl rfl rfl rfl rfl rfl rfl rfl rfl (?_))))))))))
    refine WL_nil (hK3 _ ?_)
    clear hK3 K3
    refine W_seq (fun K5 hK5 => ?_)
    refine W_region (WL_cons rfl (WX_q rfl rfl (q_load_box_struct G rfl rfl rfl rfl rfl rfl) (WL_cons rfl (?_))))
    refine WX_call 8 rfl rfl rfl (ArgsOK.of rfl) (c_impl_settled _ hQ) rfl rfl ?_
    refine WL_cons rfl (WX_store G rfl rfl rfl rfl rfl rfl rfl rfl rfl rfl rfl (?_))
    refine WL_nil (hK5 _ ?_)
    clear hK5 K5
    refine W_ret (fin_shp rfl rfl rfl rfl (rcs_cons (rc_own rfl ?_) (rcs_cons (rc_own rfl ?_) rcs_nil)))
    all_goals (first | rfl | (unfold offr; rw [ho]; done) | (unfold offr; rw [ho]; rfl))
  · try rw [h1]
    try simp only [rfb] at h1
    refine W_seq (fun K6 hK6 => ?_)
    refine W_region (WL_cons rfl (WX_q rfl rfl (q_field_ptr G rfl rfl rfl rfl) (WL_cons rfl (WX_q rfl rfl (q_lst (q_load_box G rfl rfl rfl rfl rfl rfl rfl)) (WL_cons rfl (WX_q rfl rfl (q_move rfl rfl) (WL_cons rfl (?_))))))))
    refine WX_q rfl rfl (q_call rfl (ArgsOK.of rfl) (c_impl_waiterIndex q.wa irq (by omega)) rfl) ?_
    refine WL_cons rfl (WX_q rfl rfl (q_cmp rfl rfl rfl rfl) (WL_cons rfl (WX_q rfl rfl (q_assign rfl rfl) (?_))))
    refine WL_nil (hK6 _ ?_)
    clear hK6 K6
    refine W_cond rfl (fun h2 => ?_) (fun h2 => ?_)
    · try rw [h2]
      try simp only [rfb] at h2
      have ho := offQ_b (p := p) h1 h2
      rw [ho] at hQ
      refine W_region (WL_cons rfl (WX_q rfl rfl (q_field_ptr G rfl rfl rfl rfl) (WL_cons rfl (WX_q rfl rfl (q_lst (q_load_box G rfl rfl rfl rfl rfl rfl rfl)) (WL_cons rfl (WX_q rfl rfl (q_move rfl rfl) (WL_cons rfl (WX_q rfl rfl (q_move rfl rfl) (WL_cons rfl (WX_q rfl rfl (q_build G rfl rfl rfl rfl) (WL_cons rfl (?_))))))))))))
      refine WX_call 6 rfl rfl rfl (ArgsOK.of rfl) (c_impl_withWaiter q.wa ⟨irq, p⟩ (by omega)) rfl rfl ?_
      refine WL_cons rfl (WX_q rfl rfl (q_field_ptr G rfl rfl rfl rfl) (WL_cons rfl (WX_store G rfl rfl rfl rfl rfl rfl rfl rfl rfl rfl rfl (?_))))
      refine WL_nil (hK3 _ ?_)
      clear hK3 K3
      refine W_seq (fun K7 hK7 => ?_)
      refine W_region (WL_cons rfl (WX_q rfl rfl (q_load_box_struct G rfl rfl rfl rfl rfl rfl) (WL_cons rfl (?_))))
      refine WX_call 8 rfl rfl rfl (ArgsOK.of rfl) (c_impl_settled _ hQ) rfl rfl ?_
      refine WL_cons rfl (WX_store G rfl rfl rfl rfl rfl rfl rfl rfl rfl rfl rfl (?_))
      refine WL_nil (hK7 _ ?_)
      clear hK7 K7
      refine W_ret (fin_shp rfl rfl rfl rfl (rcs_cons (rc_own rfl ?_) (rcs_cons (rc_own rfl ?_) rcs_nil)))
      all_goals (first | rfl | (unfold offr; rw [ho]; done) | (unfold offr; rw [ho]; rfl))
    · try rw [h2]
      try simp only [rfb] at h2
      have ho := offQ_c (p := p) h1 h2
      rw [ho] at hQ
      refine W_skip (hK3 _ ?_)
      clear hK3 K3
      refine W_seq (fun K8 hK8 => ?_)
      refine W_region (WL_cons rfl (WX_q rfl rfl (q_load_box_struct G rfl rfl rfl rfl rfl rfl) (WL_cons rfl (?_))))
      refine WX_call 7 rfl rfl rfl (ArgsOK.of rfl) (c_impl_settled _ hQ) rfl rfl ?_
      refine WL_cons rfl (WX_store G rfl rfl rfl rfl rfl rfl rfl rfl rfl rfl rfl (?_))
      refine WL_nil (hK8 _ ?_)
      clear hK8 K8
      refine W_ret (fin_shp rfl rfl rfl rfl (rcs_cons (rc_own rfl ?_) (rcs_cons (rc_own rfl ?_) rcs_nil)))
      all_goals (first | rfl | (unfold offr; rw [ho]; done) | (unfold offr; rw [ho]; rfl))

set_option maxHeartbeats 1000000 in
theorem c_spec_l9Settle_n (q : Que) (hF : QF q) : Ctr Tryz.prog 185 [.agg [.lst 3 (q.sl.map encSl), .lst 2 (q.wa.map encWa)]] (.shp true [some 2] [.fr 154 3 ((setl q).sl.map encSl), .fr 183 2 ((setl q).wa.map encWa)]) := by
  have hq4 := hF.sl.len
  have hqw := hF.wn
  refine Ctr.of (n := 56) G Tryz.func185 rfl (by kernel_rfl) rfl rfl rfl (fun w0 => ?_)
  refine W_pinS 0 rfl (fun _ => rfl) (fun u0 => ?_)
  refine W_seq (fun K1 hK1 => ?_)
  refine W_region (WL_cons rfl (WX_box 1 rfl rfl rfl rfl rfl rfl rfl (WL_cons rfl (WX_alloc_s G 2 rfl rfl rfl rfl rfl (?_)))))
  refine WL_nil (hK1 _ ?_)
  clear hK1 K1
  refine W_seq (fun K2 hK2 => ?_)
  refine W_region (WL_cons rfl (WX_q rfl rfl (q_load_box_struct G rfl rfl rfl rfl rfl rfl) (WL_cons rfl (?_))))
  refine WX_call 4 rfl rfl rfl (ArgsOK.of rfl) (c_spec_l9Own q (by omega) (by omega)) rfl rfl ?_
  refine WL_cons rfl (WX_alloc_s G 5 rfl rfl rfl rfl rfl (WL_cons rfl (WX_store G rfl rfl rfl rfl rfl rfl rfl rfl rfl rfl rfl (?_))))
  refine WL_nil (hK2 _ ?_)
  clear hK2 K2
  refine W_seq (fun K3 hK3 => ?_)
  refine W_block ?_
  refine W_loopK [2, 3] [1, 4] (fun (x : Que) => []) (fun (x : Que) => [(2, some (.row 154 3 (x.sl.map encSl))), (3, some (.row 183 2 (x.wa.map encWa)))]) (fun (x : Que) => QF x ∧ setl x = setl q) (fun (x : Que) => phi x) q rfl rfl ?_ ?_ ?_ ?_
  · exact ⟨hF, rfl⟩
  · exact trivial
  · exact ⟨⟨_, rfl, by rfl⟩, rfl, rfl, ⟨⟨_, rfl, by rfl⟩, rfl, rfl, trivial⟩⟩
  · intro x hinv
    have hFx := hinv.1
    have hl4 := hFx.sl.len
    have hwn := hFx.wn
    have hf := @fre_bd x.sl
    have hb := @bstS_bd x.sl false
    simp only [List.cons_append, List.nil_append]
    refine W_seq (fun K4 hK4 => ?_)
    refine W_seq (fun K5 hK5 => ?_)
    refine W_region (WL_cons rfl (WX_q rfl rfl (q_load_box_struct G rfl rfl rfl rfl rfl rfl) (WL_cons rfl (?_))))
    refine WX_q rfl rfl (q_call rfl (ArgsOK.of rfl) (c_spec_l9Settled x (by omega) (by omega)) rfl) ?_
    refine WL_cons rfl (WX_q rfl rfl (q_not rfl rfl) (?_))
    refine WL_nil (hK5 _ ?_)
    clear hK5 K5
    refine W_cond rfl (fun h1 => ?_) (fun h1 => ?_)
    · try rw [h1]
      try simp only [rfb] at h1
      obtain ⟨hw0, hbb⟩ := stQ_pos hFx h1
      have hnx := setl_step hFx h1
      obtain ⟨hF2, hphi⟩ := stQ_F hFx h1
      refine W_skip (hK4 _ ?_)
      clear hK4 K4
      refine W_block ?_
      refine W_seq (fun K6 hK6 => ?_)
      refine W_region (WL_cons rfl (WX_q rfl rfl (q_field_ptr G rfl rfl rfl rfl) (WL_cons rfl (WX_q rfl rfl (q_load_box G rfl rfl rfl rfl rfl rfl rfl) (WL_cons rfl (?_))))))
      first | refine WX_q rfl rfl (q_index_own G rfl rfl rfl rfl rfl (by omega) (by omega)) ?_ | refine WX_q rfl rfl (q_index_own G rfl rfl rfl rfl rfl (by omega) (by simp; omega)) ?_
      refine WL_cons rfl (?_)
      first | refine WX_q rfl rfl (q_load_rpt_struct G rfl rfl rfl rfl (getN (by omega)) rfl) ?_ | refine WX_q rfl rfl (q_load_rpt_struct G rfl rfl rfl rfl (getNI (by omega) (by omega)) rfl) ?_ | refine WX_q rfl rfl (q_load_rpt_struct G rfl rfl rfl rfl (getM (by omega) (by omega)) rfl) ?_ | refine WX_q rfl rfl (q_load_rpt_struct G rfl rfl rfl rfl (getM (by omega) (by simp; omega)) rfl) ?_
      refine WL_cons rfl (WX_alloc_s G 6 rfl rfl rfl rfl rfl (WL_cons rfl (WX_store G rfl rfl rfl rfl rfl rfl rfl rfl rfl rfl rfl (?_))))
      refine WL_nil (hK6 _ ?_)
      clear hK6 K6
      refine W_seq (fun K7 hK7 => ?_)
      refine W_region (WL_cons rfl (WX_lit G 7 rfl rfl rfl rfl rfl rfl rfl rfl (WL_cons rfl (WX_q rfl rfl (q_field_ptr G rfl rfl rfl rfl) (WL_cons rfl (WX_q rfl rfl (q_load_box G rfl rfl rfl rfl rfl rfl rfl) (WL_cons rfl (?_))))))))
      refine WX_q rfl rfl (q_cut_own G rfl rfl rfl rfl rfl rfl (by omega) (by first | omega | (simp; done) | (simp; omega)) (by first | omega | (simp; done) | (simp; omega))) ?_
      refine WL_cons rfl (?_)
      refine WX_appendA G np rfl rfl rfl rfl rfl rfl rfl (ArgOK.sub rfl (by (try simp only [List.length_take, List.length_append, List.length_map, List.length_drop, List.length_cons, List.length_nil, List.length_replicate, Int.toNat_natCast]); omega)) rfl (by simp; omega) rfl rfl ?_
      refine WL_cons rfl (WX_q rfl rfl (q_assign rfl rfl) (?_))
      refine WL_nil (hK7 _ ?_)
      clear hK7 K7
      refine W_eqrow (id := 6) ((x.wa.drop 1).map encWa) rfl (by rw [List.nil_append, tail1]) ?_
      refine W_seq (fun K8 hK8 => ?_)
      refine W_region (WL_cons rfl (WX_q rfl rfl (q_field_ptr G rfl rfl rfl rfl) (WL_cons rfl (WX_q rfl rfl (q_load_box G rfl rfl rfl rfl rfl rfl rfl) (WL_cons rfl (?_))))))
      refine WX_q rfl rfl (q_call rfl (ArgsOK.of rfl) (c_spec_l8Free x.sl (by omega)) rfl) ?_
      refine WL_cons rfl (WX_q rfl rfl (q_assign rfl rfl) (?_))
      refine WL_nil (hK8 _ ?_)
      clear hK8 K8
      refine W_seq (fun K9 hK9 => ?_)
      refine W_seq (fun K10 hK10 => ?_)
      refine W_region (WL_cons rfl (WX_q rfl rfl (q_move rfl rfl) (WL_cons rfl (WX_q rfl rfl (q_cmp rfl rfl rfl rfl) (?_)))))
      refine WL_nil (hK10 _ ?_)
      clear hK10 K10
      refine W_cond rfl (fun h2 => ?_) (fun h2 => ?_)
      · try rw [h2]
        try simp only [rfb] at h2
        refine W_seq (fun K11 hK11 => ?_)
        refine W_region (WL_cons rfl (WX_q rfl rfl (q_field_ptr G rfl rfl rfl rfl) (WL_cons rfl (WX_q rfl rfl (q_load_box G rfl rfl rfl rfl rfl rfl rfl) (WL_cons rfl (?_))))))
        refine WX_q rfl rfl (q_call rfl (ArgsOK.of rfl) (c_spec_l8Best_f x.sl (by omega)) rfl) ?_
        refine WL_cons rfl (WX_q rfl rfl (q_assign rfl rfl) (?_))
        refine WL_nil (hK11 _ ?_)
        clear hK11 K11
        refine W_drawsH 16 [1, 2, 3, 4, 5, 6] mixed (by kernel_rfl) rfl rfl (fun r0 => ?_) (fun _ h => h)
        refine WA_take 0 rfl (by kernel_rfl) (by kernel_rfl) rfl rfl rfl rfl (q_move rfl rfl) (WA_take 1 rfl (by kernel_rfl) (by kernel_rfl) rfl rfl rfl rfl (q_field_ptr G rfl rfl rfl rfl) (WA_take 2 rfl (by kernel_rfl) (by kernel_rfl) rfl rfl rfl rfl (q_load_box G rfl rfl rfl rfl rfl rfl rfl) (WA_take 3 rfl (by kernel_rfl) (by kernel_rfl) rfl rfl rfl rfl (q_move rfl rfl) (?_))))
        first | refine WA_take 4 rfl (by kernel_rfl) (by kernel_rfl) rfl rfl rfl rfl (q_index_own G rfl rfl rfl rfl rfl (by omega) (by omega)) ?_ | refine WA_take 4 rfl (by kernel_rfl) (by kernel_rfl) rfl rfl rfl rfl (q_index_own G rfl rfl rfl rfl rfl (by omega) (by simp; omega)) ?_
        refine WA_take 5 rfl (by kernel_rfl) (by kernel_rfl) rfl rfl rfl rfl (q_field_rpt G rfl rfl rfl rfl) (?_)
        first | refine WA_take 6 rfl (by kernel_rfl) (by kernel_rfl) rfl rfl rfl rfl (q_load_rpt G rfl rfl rfl rfl rfl (getN (by omega)) rfl) ?_ | refine WA_take 6 rfl (by kernel_rfl) (by kernel_rfl) rfl rfl rfl rfl (q_load_rpt G rfl rfl rfl rfl rfl (getNI (by omega) (by omega)) rfl) ?_ | refine WA_take 6 rfl (by kernel_rfl) (by kernel_rfl) rfl rfl rfl rfl (q_load_rpt G rfl rfl rfl rfl rfl (getM (by omega) (by omega)) rfl) ?_ | refine WA_take 6 rfl (by kernel_rfl) (by kernel_rfl) rfl rfl rfl rfl (q_load_rpt G rfl rfl rfl rfl rfl (getM (by omega) (by simp; omega)) rfl) ?_
        refine WA_take 7 rfl (by kernel_rfl) (by kernel_rfl) rfl rfl rfl rfl (q_field_ptr G rfl rfl rfl rfl) (WA_take 8 rfl (by kernel_rfl) (by kernel_rfl) rfl rfl rfl rfl (q_load_box G rfl rfl rfl rfl rfl rfl rfl) (WA_take 9 rfl (by kernel_rfl) (by kernel_rfl) rfl rfl rfl rfl (q_move rfl rfl) (?_)))
        first | refine WA_take 10 rfl (by kernel_rfl) (by kernel_rfl) rfl rfl rfl rfl (q_index_own G rfl rfl rfl rfl rfl (by omega) (by omega)) ?_ | refine WA_take 10 rfl (by kernel_rfl) (by kernel_rfl) rfl rfl rfl rfl (q_index_own G rfl rfl rfl rfl rfl (by omega) (by simp; omega)) ?_
        refine WA_take 11 rfl (by kernel_rfl) (by kernel_rfl) rfl rfl rfl rfl (q_field_rpt G rfl rfl rfl rfl) (?_)
        first | refine WA_take 12 rfl (by kernel_rfl) (by kernel_rfl) rfl rfl rfl rfl (q_load_rpt G rfl rfl rfl rfl rfl (getN (by omega)) rfl) ?_ | refine WA_take 12 rfl (by kernel_rfl) (by kernel_rfl) rfl rfl rfl rfl (q_load_rpt G rfl rfl rfl rfl rfl (getNI (by omega) (by omega)) rfl) ?_ | refine WA_take 12 rfl (by kernel_rfl) (by kernel_rfl) rfl rfl rfl rfl (q_load_rpt G rfl rfl rfl rfl rfl (getM (by omega) (by omega)) rfl) ?_ | refine WA_take 12 rfl (by kernel_rfl) (by kernel_rfl) rfl rfl rfl rfl (q_load_rpt G rfl rfl rfl rfl rfl (getM (by omega) (by simp; omega)) rfl) ?_
        refine WA_take 13 rfl (by kernel_rfl) (by kernel_rfl) rfl rfl rfl rfl (q_build G rfl rfl rfl rfl) (?_)
        refine WA_branch (rs := [14]) (by kernel_rfl) rfl (AllB.cons ?_ AllB.nil)
        refine WB_run [1, 2, 3, 4, 5, 6] rfl rfl (WX_call 8 rfl rfl rfl (ArgsOK.of rfl) (c_spec_l9Wait (x.wa.drop 1) ⟨_, _⟩ (by rw [List.length_drop]; omega)) rfl rfl (WL_nil ⟨rfl, ?_⟩))
        refine WA_take 15 rfl (by kernel_rfl) (by kernel_rfl) rfl rfl rfl rfl (q_assign rfl rfl) (?_)
        refine WA_end (by kernel_rfl) (hK9 _ ?_)
        clear hK9 K9
        refine W_region (WL_cons rfl (WX_q rfl rfl (q_field_ptr G rfl rfl rfl rfl) (WL_cons rfl (WX_q rfl rfl (q_load_box G rfl rfl rfl rfl rfl rfl rfl) (WL_cons rfl (WX_q rfl rfl (q_move rfl rfl) (WL_cons rfl (WX_q rfl rfl (q_field_ptr G rfl rfl rfl rfl) (WL_cons rfl (WX_q rfl rfl (q_load_box G rfl rfl rfl rfl rfl rfl rfl) (WL_cons rfl (WX_q rfl rfl (q_field_ptr G rfl rfl rfl rfl) (WL_cons rfl (WX_q rfl rfl (q_load_box G rfl rfl rfl rfl rfl rfl rfl) (WL_cons rfl (WX_q rfl rfl (q_build G rfl rfl rfl rfl) (WL_cons rfl (?_))))))))))))))))))
        refine WX_call 9 rfl rfl rfl (ArgsOK.of rfl) (c_spec_l8With x.sl _ ⟨1, _, _⟩ (by omega) (by omega)) rfl rfl ?_
        refine WL_cons rfl (WX_q rfl rfl (q_move rfl rfl) (WL_cons rfl (WX_q rfl rfl (q_build G rfl rfl rfl rfl) (WL_cons rfl (WX_store G rfl rfl rfl rfl rfl rfl rfl rfl rfl rfl rfl (?_))))))
        refine WL_gh (Gh.sub 8 2 np rfl rfl rfl) ?_
        refine WL_gh (Gh.sub 7 3 np rfl rfl rfl) ?_
        refine WL_nil ⟨(stQ x), ?_, ?_, trivial, ⟨⟨_, rfl, by (first | rfl | (rw [stQ_fre (q := x) (by omega)]; exact congrArg (fun z => Row.row _ _ z) (setG (f := encSl) (x := ⟨1, _, _⟩))) | (rw [stQ_bst (q := x) (by omega)]; exact congrArg (fun z => Row.row _ _ z) (setG (f := encSl) (x := ⟨1, _, _⟩))) | (rw [stQ_fre (q := x) (by omega)]; exact congrArg (fun z => Row.row _ _ z) (List.map_drop).symm) | (rw [stQ_bst (q := x) (by omega)]; done) | (rw [stQ_bst (q := x) (by omega)]; rfl) | (rw [stQ_fre (q := x) (by omega)]; done) | (rw [stQ_fre (q := x) (by omega)]; rfl) | (rw [stQ_fre (q := x) (by omega)]; exact congrArg (fun z => Row.row _ _ z) (by rw [List.nil_append, tail1]))| (rw [stQ_bst (q := x) (by omega)]; exact congrArg (fun z => Row.row _ _ z) (by rw [List.nil_append, tail1])))⟩, rfl, rfl, ⟨⟨_, rfl, by (first | rfl | (rw [stQ_fre (q := x) (by omega)]; exact congrArg (fun z => Row.row _ _ z) (setG (f := encSl) (x := ⟨1, _, _⟩))) | (rw [stQ_bst (q := x) (by omega)]; exact congrArg (fun z => Row.row _ _ z) (setG (f := encSl) (x := ⟨1, _, _⟩))) | (rw [stQ_fre (q := x) (by omega)]; exact congrArg (fun z => Row.row _ _ z) (List.map_drop).symm) | (rw [stQ_bst (q := x) (by omega)]; done) | (rw [stQ_bst (q := x) (by omega)]; rfl) | (rw [stQ_fre (q := x) (by omega)]; done) | (rw [stQ_fre (q := x) (by omega)]; rfl) | (rw [stQ_fre (q := x) (by omega)]; exact congrArg (fun z => Row.row _ _ z) (by rw [List.nil_append, tail1]))| (rw [stQ_bst (q := x) (by omega)]; exact congrArg (fun z => Row.row _ _ z) (by rw [List.nil_append, tail1])))⟩, rfl, rfl, trivial⟩⟩, rfl, rfl, rfl⟩
        · exact ⟨hF2, hnx ▸ hinv.2⟩
        · exact hphi
      · try rw [h2]
        try simp only [rfb] at h2
        refine W_skip (hK9 _ ?_)
        clear hK9 K9
        refine W_region (WL_cons rfl (WX_q rfl rfl (q_field_ptr G rfl rfl rfl rfl) (WL_cons rfl (WX_q rfl rfl (q_load_box G rfl rfl rfl rfl rfl rfl rfl) (WL_cons rfl (WX_q rfl rfl (q_move rfl rfl) (WL_cons rfl (WX_q rfl rfl (q_field_ptr G rfl rfl rfl rfl) (WL_cons rfl (WX_q rfl rfl (q_load_box G rfl rfl rfl rfl rfl rfl rfl) (WL_cons rfl (WX_q rfl rfl (q_field_ptr G rfl rfl rfl rfl) (WL_cons rfl (WX_q rfl rfl (q_load_box G rfl rfl rfl rfl rfl rfl rfl) (WL_cons rfl (WX_q rfl rfl (q_build G rfl rfl rfl rfl) (WL_cons rfl (?_))))))))))))))))))
        refine WX_call 8 rfl rfl rfl (ArgsOK.of rfl) (c_spec_l8With x.sl _ ⟨1, _, _⟩ (by omega) (by omega)) rfl rfl ?_
        refine WL_cons rfl (WX_q rfl rfl (q_move rfl rfl) (WL_cons rfl (WX_q rfl rfl (q_build G rfl rfl rfl rfl) (WL_cons rfl (WX_store G rfl rfl rfl rfl rfl rfl rfl rfl rfl rfl rfl (?_))))))
        refine WL_gh (Gh.sub 7 2 np rfl rfl rfl) ?_
        refine WL_gh (Gh.sub 6 3 np rfl rfl rfl) ?_
        refine WL_nil ⟨(stQ x), ?_, ?_, trivial, ⟨⟨_, rfl, by (first | rfl | (rw [stQ_fre (q := x) (by omega)]; exact congrArg (fun z => Row.row _ _ z) (setG (f := encSl) (x := ⟨1, _, _⟩))) | (rw [stQ_bst (q := x) (by omega)]; exact congrArg (fun z => Row.row _ _ z) (setG (f := encSl) (x := ⟨1, _, _⟩))) | (rw [stQ_fre (q := x) (by omega)]; exact congrArg (fun z => Row.row _ _ z) (List.map_drop).symm) | (rw [stQ_bst (q := x) (by omega)]; done) | (rw [stQ_bst (q := x) (by omega)]; rfl) | (rw [stQ_fre (q := x) (by omega)]; done) | (rw [stQ_fre (q := x) (by omega)]; rfl) | (rw [stQ_fre (q := x) (by omega)]; exact congrArg (fun z => Row.row _ _ z) (by rw [List.nil_append, tail1]))| (rw [stQ_bst (q := x) (by omega)]; exact congrArg (fun z => Row.row _ _ z) (by rw [List.nil_append, tail1])))⟩, rfl, rfl, ⟨⟨_, rfl, by (first | rfl | (rw [stQ_fre (q := x) (by omega)]; exact congrArg (fun z => Row.row _ _ z) (setG (f := encSl) (x := ⟨1, _, _⟩))) | (rw [stQ_bst (q := x) (by omega)]; exact congrArg (fun z => Row.row _ _ z) (setG (f := encSl) (x := ⟨1, _, _⟩))) | (rw [stQ_fre (q := x) (by omega)]; exact congrArg (fun z => Row.row _ _ z) (List.map_drop).symm) | (rw [stQ_bst (q := x) (by omega)]; done) | (rw [stQ_bst (q := x) (by omega)]; rfl) | (rw [stQ_fre (q := x) (by omega)]; done) | (rw [stQ_fre (q := x) (by omega)]; rfl) | (rw [stQ_fre (q := x) (by omega)]; exact congrArg (fun z => Row.row _ _ z) (by rw [List.nil_append, tail1]))| (rw [stQ_bst (q := x) (by omega)]; exact congrArg (fun z => Row.row _ _ z) (by rw [List.nil_append, tail1])))⟩, rfl, rfl, trivial⟩⟩, rfl, rfl, rfl⟩
        · exact ⟨hF2, hnx ▸ hinv.2⟩
        · exact hphi
    · try rw [h1]
      try simp only [rfb] at h1
      have hd := setl_done h1
      refine W_exit (hK3 _ ?_)
      clear hK4 K4 hK3 K3
      refine W_seq (fun K12 hK12 => ?_)
      refine W_region (WL_cons rfl (WX_q rfl rfl (q_load_box_struct G rfl rfl rfl rfl rfl rfl) (WL_cons rfl (WX_store G rfl rfl rfl rfl rfl rfl rfl rfl rfl rfl rfl (?_)))))
      refine WL_nil (hK12 _ ?_)
      clear hK12 K12
      refine W_ret (fin_shp rfl rfl rfl rfl (rcs_cons (rc_own rfl ?_) (rcs_cons (rc_own rfl ?_) rcs_nil)))
      all_goals ((rw [← hinv.2, hd]; done))

theorem c_spec_l9Offer (q : Que) (irq p : Int) (hF : QF q) (hi : 0 ≤ irq ∧ irq ≤ 7) (hp : 0 ≤ p ∧ p ≤ 15) : Ctr Tryz.prog 138 [.agg [.lst 3 (q.sl.map encSl), .lst 2 (q.wa.map encWa)], .v (.int .i64 irq), .v (.int .i64 p)] (.shp true [some 2] [.fr 154 3 ((offr q irq p).sl.map encSl), .fr 183 2 ((offr q irq p).wa.map encWa)]) := by
  have hl4 := hF.sl.len
  have hwn := hF.wn
  have hQ := (offQ_F (irq := irq) (p := p) hF hi hp).1
  refine Ctr.of (n := 44) G Tryz.func138 rfl (by kernel_rfl) rfl rfl rfl (fun w0 => ?_)
  refine W_pinS 0 rfl (fun _ => rfl) (fun u0 => ?_)
  refine W_seq (fun K1 hK1 => ?_)
  refine W_region (WL_cons rfl (WX_box 1 rfl rfl rfl rfl rfl rfl rfl (WL_cons rfl (WX_alloc_s G 2 rfl rfl rfl rfl rfl (?_)))))
  refine WL_nil (hK1 _ ?_)
  clear hK1 K1
  refine W_seq (fun K2 hK2 => ?_)
  refine W_seq (fun K3 hK3 => ?_)
  refine W_region (WL_cons rfl (WX_q rfl rfl (q_field_ptr G rfl rfl rfl rfl) (WL_cons rfl (WX_q rfl rfl (q_lst (q_load_box G rfl rfl rfl rfl rfl rfl rfl)) (WL_cons rfl (WX_q rfl rfl (q_move rfl rfl) (WL_cons rfl (?_))))))))
  refine WX_q rfl rfl (q_call rfl (ArgsOK.of rfl) (c_spec_l8Find q.sl irq (by omega)) rfl) ?_
  refine WL_cons rfl (WX_q rfl rfl (q_cmp rfl rfl rfl rfl) (?_))
  refine WL_nil (hK3 _ ?_)
  clear hK3 K3
  refine W_cond rfl (fun h1 => ?_) (fun h1 => ?_)
  · try rw [h1]
    try simp only [rfb] at h1
    have ho := offQ_a (p := p) h1
    rw [ho] at hQ
    refine W_seq (fun K4 hK4 => ?_)
    refine W_region (WL_cons rfl (WX_q rfl rfl (q_field_ptr G rfl rfl rfl rfl) (WL_cons rfl (WX_q rfl rfl (q_lst (q_load_box G rfl rfl rfl rfl rfl rfl rfl)) (WL_cons rfl (WX_q rfl rfl (q_move rfl rfl) (WL_cons rfl (WX_q rfl rfl (q_move rfl rfl) (WL_cons rfl (?_))))))))))
    refine WX_call 3 rfl rfl rfl (ArgsOK.of rfl) (c_spec_l8Put q.sl irq p hF.sl h1) rfl rfl ?_
    refine WL_cons rfl (WX_q rfl rfl (q_move rfl rfl) (WL_cons rfl (WX_q rfl rfl (q_extract rfl rfl rfl) (WL_cons rfl (WX_q rfl rfl (q_extract rfl rfl rfl) (WL_cons rfl (WX_q rfl rfl (q_assign rfl rfl) (WL_cons rfl (WX_q rfl rfl (q_assign rfl rfl) (?_))))))))))
    refine WL_nil (hK4 _ ?_)
    clear hK4 K4
    refine W_seq (fun K5 hK5 => ?_)
    refine W_region (WL_cons rfl (WX_q rfl rfl (q_move rfl rfl) (WL_cons rfl (WX_q rfl rfl (q_field_ptr G rfl rfl rfl rfl) (WL_cons rfl (WX_q rfl rfl (q_load_box G rfl rfl rfl rfl rfl rfl rfl) (WL_cons rfl (WX_q rfl rfl (q_build G rfl rfl rfl rfl) (WL_cons rfl (?_))))))))))
    refine WX_call 5 rfl rfl rfl (ArgsOK.of rfl) (c_spec_l9Settle_n _ hQ) rfl rfl ?_
    refine WL_cons rfl (WX_store G rfl rfl rfl rfl rfl rfl rfl rfl rfl rfl rfl (?_))
    refine WL_nil (hK5 _ ?_)
    clear hK5 K5
    refine W_ret (fin_shp rfl rfl rfl rfl (rcs_cons (rc_own rfl ?_) (rcs_cons (rc_own rfl ?_) rcs_nil)))
    all_goals clear hK2 K2
    all_goals (first | rfl | (unfold offr; rw [ho]; done) | (unfold offr; rw [ho]; rfl))
  · try rw [h1]
    try simp only [rfb] at h1
    refine W_skip (hK2 _ ?_)
    clear hK2 K2
    refine W_seq (fun K6 hK6 => ?_)
    refine W_seq (fun K7 hK7 => ?_)
    refine W_region (WL_cons rfl (WX_q rfl rfl (q_field_ptr G rfl rfl rfl rfl) (WL_cons rfl (WX_q rfl rfl (q_lst (q_load_box G rfl rfl rfl rfl rfl rfl rfl)) (WL_cons rfl (WX_q rfl rfl (q_move rfl rfl) (WL_cons rfl (?_))))))))
    refine WX_q rfl rfl (q_call rfl (ArgsOK.of rfl) (c_spec_l9Has q.wa irq (by omega)) rfl) ?_
    refine WL_cons rfl (WX_q rfl rfl (q_cmp rfl rfl rfl rfl) (?_))
    refine WL_nil (hK7 _ ?_)
    clear hK7 K7
    refine W_cond rfl (fun h2 => ?_) (fun h2 => ?_)
    · try rw [h2]
      try simp only [rfb] at h2
      have ho := offQ_c (p := p) h1 h2
      rw [ho] at hQ
      refine W_seq (fun K8 hK8 => ?_)
      refine W_region (WL_cons rfl (WX_q rfl rfl (q_load_box_struct G rfl rfl rfl rfl rfl rfl) (WL_cons rfl (?_))))
      refine WX_call 4 rfl rfl rfl (ArgsOK.of rfl) (c_spec_l9Settle_n _ hQ) rfl rfl ?_
      refine WL_cons rfl (WX_store G rfl rfl rfl rfl rfl rfl rfl rfl rfl rfl rfl (?_))
      refine WL_nil (hK8 _ ?_)
      clear hK8 K8
      refine W_ret (fin_shp rfl rfl rfl rfl (rcs_cons (rc_own rfl ?_) (rcs_cons (rc_own rfl ?_) rcs_nil)))
      all_goals clear hK6 K6
      all_goals (first | rfl | (unfold offr; rw [ho]; done) | (unfold offr; rw [ho]; rfl))
    · try rw [h2]
      try simp only [rfb] at h2
      have ho := offQ_b (p := p) h1 h2
      rw [ho] at hQ
      refine W_skip (hK6 _ ?_)
      clear hK6 K6
      refine W_seq (fun K9 hK9 => ?_)
      refine W_drawsH 11 [0] mixed (by kernel_rfl) rfl rfl (fun r0 => ?_) (fun _ h => h)
      refine WA_take 0 rfl (by kernel_rfl) (by kernel_rfl) rfl rfl rfl rfl (q_field_ptr G rfl rfl rfl rfl) (WA_take 1 rfl (by kernel_rfl) (by kernel_rfl) rfl rfl rfl rfl (q_load_box G rfl rfl rfl rfl rfl rfl rfl) (WA_take 2 rfl (by kernel_rfl) (by kernel_rfl) rfl rfl rfl rfl (q_field_ptr G rfl rfl rfl rfl) (WA_take 3 rfl (by kernel_rfl) (by kernel_rfl) rfl rfl rfl rfl (q_lst (q_load_box G rfl rfl rfl rfl rfl rfl rfl)) (WA_take 4 rfl (by kernel_rfl) (by kernel_rfl) rfl rfl rfl rfl (q_move rfl rfl) (WA_take 5 rfl (by kernel_rfl) (by kernel_rfl) rfl rfl rfl rfl (q_move rfl rfl) (WA_take 6 rfl (by kernel_rfl) (by kernel_rfl) rfl rfl rfl rfl (q_build G rfl rfl rfl rfl) (?_)))))))
      refine WA_branch (rs := [7]) (by kernel_rfl) rfl (AllB.cons ?_ AllB.nil)
      refine WB_run [0] rfl rfl (WX_call 3 rfl rfl rfl (ArgsOK.of rfl) (c_spec_l9Wait q.wa ⟨irq, p⟩ (by omega)) rfl rfl (WL_nil ⟨rfl, ?_⟩))
      refine WA_branch (rs := [8]) (by kernel_rfl) rfl (AllB.cons ?_ AllB.nil)
      refine WB_run [0] rfl rfl (WX_q rfl rfl (q_build G rfl rfl rfl rfl) (WL_nil ⟨rfl, ?_⟩))
      refine WA_branch (rs := [9]) (by kernel_rfl) rfl (AllB.cons ?_ AllB.nil)
      refine WB_run [0] rfl rfl (WX_call 5 rfl rfl rfl (ArgsOK.of rfl) (c_spec_l9Settle_n _ hQ) rfl rfl (WL_nil ⟨rfl, ?_⟩))
      refine WA_branch (rs := [10]) (by kernel_rfl) rfl (AllB.cons ?_ AllB.nil)
      refine WB_run [0] rfl rfl (WX_store G rfl rfl rfl rfl rfl rfl rfl rfl rfl rfl rfl (WL_nil ⟨rfl, ?_⟩))
      refine WA_end (by kernel_rfl) (hK9 _ ?_)
      clear hK9 K9
      refine W_ret (fin_shp rfl rfl rfl rfl (rcs_cons (rc_own rfl ?_) (rcs_cons (rc_own rfl ?_) rcs_nil)))
      all_goals (first | rfl | (unfold offr; rw [ho]; done) | (unfold offr; rw [ho]; rfl))

theorem c_impl_takeQueue (q : Que) (lim : Int) (hF : QF q) : Ctr Tryz.prog 139 [.agg [.lst 3 (q.sl.map encSl), .lst 2 (q.wa.map encWa)], .v (.int .i64 lim)] (.shp false [some 2, none, none] [.fr 154 3 ((takT q lim).1.sl.map encSl), .fr 183 2 ((takT q lim).1.wa.map encWa), .v (.int .i64 (takT q lim).2.1), .v (.bool (takT q lim).2.2)]) := by
  have hl4 := hF.sl.len
  have hwn := hF.wn
  refine Ctr.of (n := 28) G Tryz.func139 rfl (by kernel_rfl) rfl rfl rfl (fun w0 => ?_)
  refine W_pinS 0 rfl (fun _ => rfl) (fun u0 => ?_)
  refine W_seq (fun K1 hK1 => ?_)
  refine W_region (WL_cons rfl (WX_box 1 rfl rfl rfl rfl rfl rfl rfl (WL_cons rfl (WX_alloc_s G 2 rfl rfl rfl rfl rfl (WL_cons rfl (WX_q rfl rfl (q_assign rfl rfl) (WL_cons rfl (WX_q rfl rfl (q_assign rfl rfl) (?_)))))))))
  refine WL_nil (hK1 _ ?_)
  clear hK1 K1
  refine W_seq (fun K2 hK2 => ?_)
  refine W_region (WL_cons rfl (WX_q rfl rfl (q_field_ptr G rfl rfl rfl rfl) (WL_cons rfl (WX_q rfl rfl (q_lst (q_load_box G rfl rfl rfl rfl rfl rfl rfl)) (WL_cons rfl (WX_q rfl rfl (q_move rfl rfl) (WL_cons rfl (?_))))))))
  refine WX_call 3 rfl rfl rfl (ArgsOK.of rfl) (c_impl_takeSlot q.sl lim hF.sl) rfl rfl ?_
  refine WL_cons rfl (WX_q rfl rfl (q_move rfl rfl) (WL_cons rfl (WX_q rfl rfl (q_extract rfl rfl rfl) (WL_cons rfl (WX_q rfl rfl (q_extract rfl rfl rfl) (WL_cons rfl (WX_q rfl rfl (q_extract rfl rfl rfl) (WL_cons rfl (WX_q rfl rfl (q_assign rfl rfl) (WL_cons rfl (WX_q rfl rfl (q_assign rfl rfl) (WL_cons rfl (WX_q rfl rfl (q_assign rfl rfl) (?_))))))))))))))
  refine WL_nil (hK2 _ ?_)
  clear hK2 K2
  refine W_seq (fun K3 hK3 => ?_)
  refine W_seq (fun K4 hK4 => ?_)
  refine W_region (WL_cons rfl (WX_q rfl rfl (q_move rfl rfl) (WL_cons rfl (WX_q rfl rfl (q_not rfl rfl) (?_)))))
  refine WL_nil (hK4 _ ?_)
  clear hK4 K4
  refine W_cond rfl (fun h1 => ?_) (fun h1 => ?_)
  · try rw [h1]
    try simp only [rfb] at h1
    rw [tkT_2] at h1
    have ht := takT_f (q := q) h1
    refine W_seq (fun K5 hK5 => ?_)
    refine W_region (WL_cons rfl (WX_q rfl rfl (q_build G rfl rfl rfl rfl) (WL_cons rfl (WX_store G rfl rfl rfl rfl rfl rfl rfl rfl rfl rfl rfl (WL_cons rfl (WX_q rfl rfl (q_assign rfl rfl) (WL_cons rfl (WX_q rfl rfl (q_assign rfl rfl) (?_)))))))))
    refine WL_nil (hK5 _ ?_)
    clear hK5 K5
    refine W_ret (fin_shp rfl rfl rfl rfl (rcs_cons (rc_nil ?_) (rcs_cons (rc_nil ?_) (rcs_cons (rc_v ?_) (rcs_cons (rc_v ?_) rcs_nil)))))
    all_goals clear hK3 K3
    all_goals (first | rfl | (rw [ht]; done) | (rw [ht]; rfl) | (rw [ht, ht2]; done) | (rw [ht, ht2]; rfl))
  · try rw [h1]
    try simp only [rfb] at h1
    rw [tkT_2] at h1
    have ht := takT_t (q := q) h1
    have ht2 := tkT_t (sl := q.sl) h1
    refine W_skip (hK3 _ ?_)
    clear hK3 K3
    refine W_seq (fun K6 hK6 => ?_)
    refine W_region (WL_cons rfl (WX_q rfl rfl (q_load_box_struct G rfl rfl rfl rfl rfl rfl) (WL_cons rfl (?_))))
    refine WX_call 5 rfl rfl rfl (ArgsOK.of rfl) (c_impl_newQueue_n q (by omega) (by omega)) rfl rfl ?_
    refine WL_cons rfl (WX_alloc_s G 6 rfl rfl rfl rfl rfl (WL_cons rfl (WX_store G rfl rfl rfl rfl rfl rfl rfl rfl rfl rfl rfl (?_))))
    refine WL_nil (hK6 _ ?_)
    clear hK6 K6
    refine W_seq (fun K7 hK7 => ?_)
    refine W_region (WL_cons rfl (WX_q rfl rfl (q_move rfl rfl) (WL_cons rfl (WX_q rfl rfl (q_field_ptr G rfl rfl rfl rfl) (WL_cons rfl (WX_store G rfl rfl rfl rfl rfl rfl rfl rfl rfl rfl rfl (?_)))))))
    refine WL_nil (hK7 _ ?_)
    clear hK7 K7
    refine W_seq (fun K8 hK8 => ?_)
    refine W_region (WL_cons rfl (WX_q rfl rfl (q_load_box_struct G rfl rfl rfl rfl rfl rfl) (WL_cons rfl (WX_q rfl rfl (q_move rfl rfl) (WL_cons rfl (WX_store G rfl rfl rfl rfl rfl rfl rfl rfl rfl rfl rfl (WL_cons rfl (WX_q rfl rfl (q_assign rfl rfl) (WL_cons rfl (WX_q rfl rfl (q_assign rfl rfl) (?_)))))))))))
    refine WL_nil (hK8 _ ?_)
    clear hK8 K8
    refine W_ret (fin_shp rfl rfl rfl rfl (rcs_cons (rc_own rfl ?_) (rcs_cons (rc_own rfl ?_) (rcs_cons (rc_v ?_) (rcs_cons (rc_v ?_) rcs_nil)))))
    all_goals (first | rfl | (rw [ht]; done) | (rw [ht]; rfl) | (rw [ht, ht2]; done) | (rw [ht, ht2]; rfl))

theorem c_spec_l9Take (q : Que) (lim : Int) (hF : QF q) (hk : tkOK q.sl lim = true) : Ctr Tryz.prog 135 [.agg [.lst 3 (q.sl.map encSl), .lst 2 (q.wa.map encWa)], .v (.int .i64 lim)] (.shp false [some 2, none] [.fr 154 3 ((takQ q).sl.map encSl), .fr 183 2 ((takQ q).wa.map encWa), .v (.int .i64 (tkI q.sl))]) := by
  have hl4 := hF.sl.len
  have hwn := hF.wn
  have htl : (tkS q.sl).length = 4 := by unfold tkS; rw [List.length_set]; exact hl4
  refine Ctr.of (n := 24) G Tryz.func135 rfl (by kernel_rfl) rfl rfl rfl (fun w0 => ?_)
  refine W_pinS 0 rfl (fun _ => rfl) (fun u0 => ?_)
  refine W_seq (fun K1 hK1 => ?_)
  refine W_region (WL_cons rfl (WX_box 1 rfl rfl rfl rfl rfl rfl rfl (WL_cons rfl (WX_alloc_s G 2 rfl rfl rfl rfl rfl (WL_cons rfl (WX_q rfl rfl (q_assign rfl rfl) (?_)))))))
  refine WL_nil (hK1 _ ?_)
  clear hK1 K1
  refine W_seq (fun K2 hK2 => ?_)
  refine W_region (WL_cons rfl (WX_q rfl rfl (q_field_ptr G rfl rfl rfl rfl) (WL_cons rfl (WX_q rfl rfl (q_lst (q_load_box G rfl rfl rfl rfl rfl rfl rfl)) (WL_cons rfl (WX_q rfl rfl (q_move rfl rfl) (WL_cons rfl (?_))))))))
  refine WX_call 3 rfl rfl rfl (ArgsOK.of rfl) (c_spec_l8Take q.sl lim hF.sl hk) rfl rfl ?_
  refine WL_cons rfl (WX_q rfl rfl (q_move rfl rfl) (WL_cons rfl (WX_q rfl rfl (q_extract rfl rfl rfl) (WL_cons rfl (WX_q rfl rfl (q_extract rfl rfl rfl) (WL_cons rfl (WX_q rfl rfl (q_assign rfl rfl) (WL_cons rfl (WX_q rfl rfl (q_assign rfl rfl) (?_))))))))))
  refine WL_nil (hK2 _ ?_)
  clear hK2 K2
  refine W_seq (fun K3 hK3 => ?_)
  refine W_drawsH 11 [0, 2] mixed (by kernel_rfl) rfl rfl (fun r0 => ?_) (fun _ h => h)
  refine WA_take 1 rfl (by kernel_rfl) (by kernel_rfl) rfl rfl rfl rfl (q_move rfl rfl) (WA_take 4 rfl (by kernel_rfl) (by kernel_rfl) rfl rfl rfl rfl (q_field_ptr G rfl rfl rfl rfl) (WA_take 5 rfl (by kernel_rfl) (by kernel_rfl) rfl rfl rfl rfl (q_lst (q_load_box G rfl rfl rfl rfl rfl rfl rfl)) (WA_take 8 rfl (by kernel_rfl) (by kernel_rfl) rfl rfl rfl rfl (q_move rfl rfl) (?_))))
  refine WA_more (N := 5) rfl (WAV_startH (fuel := 5) [⟨0, 15, 3, false, .row 154 3 []⟩, ⟨3, 18, 4, false, .row 183 2 []⟩] (AllVOK.cons (VOK.lit G rfl rfl rfl rfl rfl) (AllVOK.cons (VOK.lit G rfl rfl rfl rfl rfl) (AllVOK.nil))) (fun hok => ?_))
  refine WAV_go [(2, [0])] (by kernel_rfl) (by kernel_rfl) (fun e he => hok e he) (by kernel_rfl) (AllVS.cons ?_ AllVS.nil)
  refine VStep.mk1 [0, 2] 15 (.own 3) 3 (.row 154 3 []) [⟨3, 18, 4, false, .row 183 2 []⟩] rfl rfl rfl rfl rfl (fun b1 _ hbn => WX_append G (by rw [hbn]; exact Nat.le_of_ble_eq_true rfl) rfl rfl rfl rfl rfl rfl rfl rfl rfl (by simp; omega) rfl rfl (WL_nil rfl)) (by kernel_rfl) (by kernel_rfl) (by kernel_rfl) (by kernel_rfl) ?_
  refine WAV_go [(6, [3])] (by kernel_rfl) (by kernel_rfl) (fun e he => hok e (vin (is := [0]) rfl he)) (by kernel_rfl) (AllVS.cons ?_ AllVS.nil)
  refine VStep.mk1 [0, 2] 18 (.own 4) 4 (.row 183 2 []) [] rfl rfl rfl rfl rfl (fun b1 _ hbn => WX_append G (by rw [hbn]; exact Nat.le_of_ble_eq_true rfl) rfl rfl rfl rfl rfl rfl rfl rfl rfl (by simp; omega) rfl rfl (WL_nil rfl)) (by kernel_rfl) (by kernel_rfl) (by kernel_rfl) (by kernel_rfl) ?_
  refine WAV_nil ?_
  clear hok
  refine WA_branch (rs := [7]) (by kernel_rfl) rfl (AllB.cons ?_ AllB.nil)
  refine WB_run [0, 2] rfl rfl (WX_q rfl rfl (q_build G rfl rfl rfl rfl) (WL_nil ⟨rfl, ?_⟩))
  refine WA_branch (rs := [9]) (by kernel_rfl) rfl (AllB.cons ?_ AllB.nil)
  refine WB_run [0, 2] rfl rfl (WX_store G rfl rfl rfl rfl rfl rfl rfl rfl rfl rfl rfl (WL_nil ⟨rfl, ?_⟩))
  refine WA_take 10 rfl (by kernel_rfl) (by kernel_rfl) rfl rfl rfl rfl (q_assign rfl rfl) (?_)
  refine WA_end (by kernel_rfl) (hK3 _ ?_)
  clear hK3 K3
  refine W_ret (fin_shp rfl rfl rfl rfl (rcs_cons (rc_own rfl ?_) (rcs_cons (rc_own rfl ?_) (rcs_cons (rc_v ?_) rcs_nil))))
  all_goals (first | rfl | simp | (simp [takQ]; done))

theorem c_impl_priorityIn (sl : List Slot) (irq : Int) (hl : sl.length ≤ 1048576) (h0 : 0 ≤ fndS sl irq) : Ctr Tryz.prog 171 [.lst 3 (sl.map encSl), .v (.int .i64 irq)] (.one (.v (.int .i64 (lvl sl irq)))) := by
  have hf := @fnd_bd sl irq
  refine Ctr.of (n := 12) G Tryz.func171 rfl (by kernel_rfl) rfl rfl rfl (fun w0 => ?_)
  refine W_seq (fun K1 hK1 => ?_)
  refine W_region (WL_cons rfl (WX_q rfl rfl (q_assign rfl rfl) (?_)))
  refine WL_nil (hK1 _ ?_)
  clear hK1 K1
  refine W_seq (fun K2 hK2 => ?_)
  refine W_region (WL_cons rfl (WX_q rfl rfl (q_move rfl rfl) (WL_cons rfl (WX_q rfl rfl (q_move rfl rfl) (WL_cons rfl (WX_q rfl rfl (q_move rfl rfl) (WL_cons rfl (?_))))))))
  refine WX_q rfl rfl (q_call rfl (ArgsOK.of rfl) (c_impl_findSlot sl irq hl) rfl) ?_
  refine WL_cons rfl (?_)
  first | refine WX_q rfl rfl (q_index_lst G rfl rfl rfl rfl (by omega) (getN (by omega))) ?_ | refine WX_q rfl rfl (q_index_lst G rfl rfl rfl rfl (by omega) (getNI (by omega) (by omega))) ?_ | refine WX_q rfl rfl (q_index_lst G rfl rfl rfl rfl (by omega) (getM (by omega) (by omega))) ?_
  refine WL_cons rfl (WX_q rfl rfl (q_field_ept G rfl rfl rfl rfl) (WL_cons rfl (WX_q rfl rfl (q_load_ept G rfl rfl rfl rfl rfl) (WL_cons rfl (WX_q rfl rfl (q_assign rfl rfl) (?_))))))
  refine WL_nil (hK2 _ ?_)
  clear hK2 K2
  refine W_ret (fin_one rfl (rc_v ?_))
  all_goals (rfl)

theorem c_spec_l10Level (q : Que) (irq : Int) (hl : q.sl.length ≤ 1048576) (h0 : 0 ≤ fndS q.sl irq) : Ctr Tryz.prog 182 [.agg [.lst 3 (q.sl.map encSl), .lst 2 (q.wa.map encWa)], .v (.int .i64 irq)] (.one (.v (.int .i64 (lvl q.sl irq)))) := by
  have hf := @fnd_bd q.sl irq
  refine Ctr.of (n := 14) G Tryz.func182 rfl (by kernel_rfl) rfl rfl rfl (fun w0 => ?_)
  refine W_pinS 0 rfl (fun _ => rfl) (fun u0 => ?_)
  refine W_seq (fun K1 hK1 => ?_)
  refine W_region (WL_cons rfl (WX_box 1 rfl rfl rfl rfl rfl rfl rfl (WL_cons rfl (WX_q rfl rfl (q_assign rfl rfl) (?_)))))
  refine WL_nil (hK1 _ ?_)
  clear hK1 K1
  refine W_seq (fun K2 hK2 => ?_)
  refine W_draws mixed (by kernel_rfl) (QL_cons rfl (QX_q rfl rfl (q_field_ptr G rfl rfl rfl rfl) (QL_cons rfl (QX_q rfl rfl (q_lst (q_load_box G rfl rfl rfl rfl rfl rfl rfl)) (QL_cons rfl (QX_q rfl rfl (q_field_ptr G rfl rfl rfl rfl) (QL_cons rfl (QX_q rfl rfl (q_lst (q_load_box G rfl rfl rfl rfl rfl rfl rfl)) (QL_cons rfl (QX_q rfl rfl (q_move rfl rfl) (QL_cons rfl (?_))))))))))))
  refine QX_q rfl rfl (q_call rfl (ArgsOK.of rfl) (c_spec_l8Find q.sl irq hl) rfl) ?_
  refine QL_cons rfl (?_)
  first | refine QX_q rfl rfl (q_index_lst G rfl rfl rfl rfl (by omega) (getN (by omega))) ?_ | refine QX_q rfl rfl (q_index_lst G rfl rfl rfl rfl (by omega) (getNI (by omega) (by omega))) ?_ | refine QX_q rfl rfl (q_index_lst G rfl rfl rfl rfl (by omega) (getM (by omega) (by omega))) ?_
  refine QL_cons rfl (QX_q rfl rfl (q_field_ept G rfl rfl rfl rfl) (QL_cons rfl (QX_q rfl rfl (q_load_ept G rfl rfl rfl rfl rfl) (QL_cons rfl (QX_q rfl rfl (q_assign rfl rfl) (?_))))))
  refine QL_nil (hK2 _ ?_)
  clear hK2 K2
  refine W_ret (fin_one rfl (rc_v ?_))
  all_goals (rfl)

theorem c_impl_runningPriority (x : Ifc) (hF : IfF x) : Ctr Tryz.prog 140 [.agg [.v (.int .i64 x.ma), .lst 1 (x.st.map encI), .lst 3 (x.qu.sl.map encSl), .lst 2 (x.qu.wa.map encWa)]] (.one (.v (.int .i64 (runP x)))) := by
  have hl4 := hF.qu.sl.len
  have hwn := hF.qu.wn
  have hsn := hF.sn
  refine Ctr.of (n := 19) G Tryz.func140 rfl (by kernel_rfl) rfl rfl rfl (fun w0 => ?_)
  refine W_pinS 0 rfl (fun _ => rfl) (fun u0 => ?_)
  refine W_seq (fun K1 hK1 => ?_)
  refine W_region (WL_cons rfl (WX_box 1 rfl rfl rfl rfl rfl rfl rfl (WL_cons rfl (WX_q rfl rfl (q_assign rfl rfl) (?_)))))
  refine WL_nil (hK1 _ ?_)
  clear hK1 K1
  refine W_seq (fun K2 hK2 => ?_)
  refine W_seq (fun K3 hK3 => ?_)
  refine W_region (WL_cons rfl (WX_q rfl rfl (q_field_ptr G rfl rfl rfl rfl) (WL_cons rfl (WX_q rfl rfl (q_lst (q_load_box G rfl rfl rfl rfl rfl rfl rfl)) (WL_cons rfl (?_))))))
  first | refine WX_q rfl rfl (q_len' G rfl rfl rfl rfl (List.length_map _)) ?_ | refine WX_q rfl rfl (q_len G rfl rfl rfl rfl) ?_
  refine WL_cons rfl (WX_q rfl rfl (q_cmp rfl rfl rfl rfl) (?_))
  refine WL_nil (hK3 _ ?_)
  clear hK3 K3
  refine W_cond rfl (fun h1 => ?_) (fun h1 => ?_)
  · try rw [h1]
    try simp only [rfb] at h1
    refine W_seq (fun K4 hK4 => ?_)
    refine W_region (WL_cons rfl (WX_q rfl rfl (q_assign rfl rfl) (?_)))
    refine WL_nil (hK4 _ ?_)
    clear hK4 K4
    refine W_ret (fin_one rfl (rc_v ?_))
    all_goals clear hK2 K2
    all_goals (first | (rw [runP_0 (by omega)]; done) | (rw [runP_1 (by omega), htn]; done) | (rw [runP_1 (by omega), ← htn]; done))
  · try rw [h1]
    try simp only [rfb] at h1
    have htn : ((x.st.length : Int) - 1).toNat = x.st.length - 1 := (by omega)
    have htp := hF.top (show x.st.length - 1 < x.st.length by omega)
    refine W_skip (hK2 _ ?_)
    clear hK2 K2
    refine W_seq (fun K5 hK5 => ?_)
    refine W_draws mixed (by kernel_rfl) (QL_cons rfl (QX_q rfl rfl (q_field_ptr G rfl rfl rfl rfl) (QL_cons rfl (QX_q rfl rfl (q_field_ptr G rfl rfl rfl rfl) (QL_cons rfl (QX_q rfl rfl (q_lst (q_load_box G rfl rfl rfl rfl rfl rfl rfl)) (QL_cons rfl (QX_q rfl rfl (q_field_ptr G rfl rfl rfl rfl) (QL_cons rfl (QX_q rfl rfl (q_lst (q_load_box G rfl rfl rfl rfl rfl rfl rfl)) (QL_cons rfl (QX_q rfl rfl (q_field_ptr G rfl rfl rfl rfl) (QL_cons rfl (QX_q rfl rfl (q_lst (q_load_box G rfl rfl rfl rfl rfl rfl rfl)) (QL_cons rfl (?_))))))))))))))))
    first | refine QX_q rfl rfl (q_len' G rfl rfl rfl rfl (List.length_map _)) ?_ | refine QX_q rfl rfl (q_len G rfl rfl rfl rfl) ?_
    refine QL_cons rfl (?_)
    first | refine QX_q rfl rfl (q_arith rfl rfl rfl rfl (by omega) (by omega)) ?_ | refine QX_q rfl rfl (q_wrap rfl rfl rfl rfl) ?_
    refine QL_cons rfl (?_)
    first | refine QX_q rfl rfl (q_index_lst G rfl rfl rfl rfl (by omega) (getN (by omega))) ?_ | refine QX_q rfl rfl (q_index_lst G rfl rfl rfl rfl (by omega) (getNI (by omega) (by omega))) ?_ | refine QX_q rfl rfl (q_index_lst G rfl rfl rfl rfl (by omega) (getM (by omega) (by omega))) ?_
    refine QL_cons rfl (QX_q rfl rfl (q_load_ept G rfl rfl rfl rfl rfl) (QL_cons rfl (?_)))
    refine QX_q rfl rfl (q_call rfl (ArgsOK.of rfl) (c_impl_priorityIn x.qu.sl _ (by omega) (by first | assumption | (rw [htn]; assumption))) rfl) ?_
    refine QL_cons rfl (QX_q rfl rfl (q_assign rfl rfl) (?_))
    refine QL_nil (hK5 _ ?_)
    clear hK5 K5
    refine W_ret (fin_one rfl (rc_v ?_))
    all_goals (first | (rw [runP_0 (by omega)]; done) | (rw [runP_1 (by omega), htn]; done) | (rw [runP_1 (by omega), ← htn]; done))

theorem c_spec_l10Running (x : Ifc) (hF : IfF x) : Ctr Tryz.prog 137 [.agg [.v (.int .i64 x.ma), .lst 1 (x.st.map encI), .lst 3 (x.qu.sl.map encSl), .lst 2 (x.qu.wa.map encWa)]] (.one (.v (.int .i64 (runP x)))) := by
  have hl4 := hF.qu.sl.len
  have hwn := hF.qu.wn
  have hsn := hF.sn
  refine Ctr.of (n := 18) G Tryz.func137 rfl (by kernel_rfl) rfl rfl rfl (fun w0 => ?_)
  refine W_pinS 0 rfl (fun _ => rfl) (fun u0 => ?_)
  refine W_seq (fun K1 hK1 => ?_)
  refine W_region (WL_cons rfl (WX_box 1 rfl rfl rfl rfl rfl rfl rfl (WL_cons rfl (WX_q rfl rfl (q_assign rfl rfl) (?_)))))
  refine WL_nil (hK1 _ ?_)
  clear hK1 K1
  refine W_seq (fun K2 hK2 => ?_)
  refine W_seq (fun K3 hK3 => ?_)
  refine W_region (WL_cons rfl (WX_q rfl rfl (q_field_ptr G rfl rfl rfl rfl) (WL_cons rfl (WX_q rfl rfl (q_lst (q_load_box G rfl rfl rfl rfl rfl rfl rfl)) (WL_cons rfl (?_))))))
  first | refine WX_q rfl rfl (q_len' G rfl rfl rfl rfl (List.length_map _)) ?_ | refine WX_q rfl rfl (q_len G rfl rfl rfl rfl) ?_
  refine WL_cons rfl (WX_q rfl rfl (q_assign rfl rfl) (?_))
  refine WL_nil (hK3 _ ?_)
  clear hK3 K3
  refine W_seq (fun K4 hK4 => ?_)
  refine W_region (WL_cons rfl (WX_q rfl rfl (q_move rfl rfl) (WL_cons rfl (WX_q rfl rfl (q_cmp rfl rfl rfl rfl) (?_)))))
  refine WL_nil (hK4 _ ?_)
  clear hK4 K4
  refine W_cond rfl (fun h1 => ?_) (fun h1 => ?_)
  · try rw [h1]
    try simp only [rfb] at h1
    have htn : ((x.st.length : Int) - 1).toNat = x.st.length - 1 := (by omega)
    have htp := hF.top (show x.st.length - 1 < x.st.length by omega)
    refine W_seq (fun K5 hK5 => ?_)
    refine W_draws mixed (by kernel_rfl) (QL_cons rfl (QX_q rfl rfl (q_field_ptr G rfl rfl rfl rfl) (QL_cons rfl (QX_q rfl rfl (q_load_box_struct G rfl rfl rfl rfl rfl rfl) (QL_cons rfl (QX_q rfl rfl (q_field_ptr G rfl rfl rfl rfl) (QL_cons rfl (QX_q rfl rfl (q_lst (q_load_box G rfl rfl rfl rfl rfl rfl rfl)) (QL_cons rfl (QX_q rfl rfl (q_move rfl rfl) (QL_cons rfl (?_))))))))))))
    first | refine QX_q rfl rfl (q_arith rfl rfl rfl rfl (by omega) (by omega)) ?_ | refine QX_q rfl rfl (q_wrap rfl rfl rfl rfl) ?_
    refine QL_cons rfl (?_)
    first | refine QX_q rfl rfl (q_index_lst G rfl rfl rfl rfl (by omega) (getN (by omega))) ?_ | refine QX_q rfl rfl (q_index_lst G rfl rfl rfl rfl (by omega) (getNI (by omega) (by omega))) ?_ | refine QX_q rfl rfl (q_index_lst G rfl rfl rfl rfl (by omega) (getM (by omega) (by omega))) ?_
    refine QL_cons rfl (QX_q rfl rfl (q_load_ept G rfl rfl rfl rfl rfl) (QL_cons rfl (?_)))
    refine QX_q rfl rfl (q_call rfl (ArgsOK.of rfl) (c_spec_l10Level x.qu _ (by omega) (by first | assumption | (rw [htn]; assumption))) rfl) ?_
    refine QL_cons rfl (QX_q rfl rfl (q_assign rfl rfl) (?_))
    refine QL_nil (hK5 _ ?_)
    clear hK5 K5
    refine W_ret (fin_one rfl (rc_v ?_))
    all_goals clear hK2 K2
    all_goals (first | (rw [runP_0 (by omega)]; done) | (rw [runP_1 (by omega), htn]; done) | (rw [runP_1 (by omega), ← htn]; done))
  · try rw [h1]
    try simp only [rfb] at h1
    refine W_skip (hK2 _ ?_)
    clear hK2 K2
    refine W_seq (fun K6 hK6 => ?_)
    refine W_region (WL_cons rfl (WX_q rfl rfl (q_assign rfl rfl) (?_)))
    refine WL_nil (hK6 _ ?_)
    clear hK6 K6
    refine W_ret (fin_one rfl (rc_v ?_))
    all_goals (first | (rw [runP_0 (by omega)]; done) | (rw [runP_1 (by omega), htn]; done) | (rw [runP_1 (by omega), ← htn]; done))

theorem c_impl_newInterface (x : Ifc) (hn : x.st.length ≤ 1048576) (hl : x.qu.sl.length ≤ 1048576) (hw : x.qu.wa.length ≤ 1048576) : Ctr Tryz.prog 141 [.agg [.v (.int .i64 x.ma), .lst 1 (x.st.map encI), .lst 3 (x.qu.sl.map encSl), .lst 2 (x.qu.wa.map encWa)]] (.shp true [some 4] [.v (.int .i64 x.ma), .fr 3 1 (x.st.map encI), .fr 154 3 (x.qu.sl.map encSl), .fr 183 2 (x.qu.wa.map encWa)]) := by
  refine Ctr.of (n := 12) G Tryz.func141 rfl (by kernel_rfl) rfl rfl rfl (fun w0 => ?_)
  refine W_pinS 0 rfl (fun _ => rfl) (fun u0 => ?_)
  refine W_seq (fun K1 hK1 => ?_)
  refine W_region (WL_cons rfl (WX_box 1 rfl rfl rfl rfl rfl rfl rfl (WL_cons rfl (WX_alloc_s G 2 rfl rfl rfl rfl rfl (?_)))))
  refine WL_nil (hK1 _ ?_)
  clear hK1 K1
  refine W_seq (fun K2 hK2 => ?_)
  refine W_drawsH 10 [0] mixed (by kernel_rfl) rfl rfl (fun r0 => ?_) (fun _ h => h)
  refine WA_take 0 rfl (by kernel_rfl) (by kernel_rfl) rfl rfl rfl rfl (q_field_ptr G rfl rfl rfl rfl) (WA_take 1 rfl (by kernel_rfl) (by kernel_rfl) rfl rfl rfl rfl (q_load_box G rfl rfl rfl rfl rfl rfl rfl) (WA_take 2 rfl (by kernel_rfl) (by kernel_rfl) rfl rfl rfl rfl (q_field_ptr G rfl rfl rfl rfl) (WA_take 3 rfl (by kernel_rfl) (by kernel_rfl) rfl rfl rfl rfl (q_lst (q_load_box G rfl rfl rfl rfl rfl rfl rfl)) (WA_take 5 rfl (by kernel_rfl) (by kernel_rfl) rfl rfl rfl rfl (q_field_ptr G rfl rfl rfl rfl) (WA_take 6 rfl (by kernel_rfl) (by kernel_rfl) rfl rfl rfl rfl (q_load_box_struct G rfl rfl rfl rfl rfl rfl) (?_))))))
  refine WA_branch (rs := [4]) (by kernel_rfl) rfl (AllB.cons ?_ AllB.nil)
  refine WB_run [0] rfl rfl (WX_call 3 rfl rfl rfl (ArgsOK.of rfl) (c_impl_copyInts x.st hn) rfl rfl (WL_nil ⟨rfl, ?_⟩))
  refine WA_branch (rs := [7]) (by kernel_rfl) rfl (AllB.cons ?_ AllB.nil)
  refine WB_run [0] rfl rfl (WX_call 5 rfl rfl rfl (ArgsOK.of rfl) (c_impl_newQueue_n x.qu hl hw) rfl rfl (WL_nil ⟨rfl, ?_⟩))
  refine WA_branch (rs := [8]) (by kernel_rfl) rfl (AllB.cons ?_ AllB.nil)
  refine WB_run [0] rfl rfl (WX_q rfl rfl (q_build G rfl rfl rfl rfl) (WL_nil ⟨rfl, ?_⟩))
  refine WA_branch (rs := [9]) (by kernel_rfl) rfl (AllB.cons ?_ AllB.nil)
  refine WB_run [0] rfl rfl (WX_store G rfl rfl rfl rfl rfl rfl rfl rfl rfl rfl rfl (WL_nil ⟨rfl, ?_⟩))
  refine WA_end (by kernel_rfl) (hK2 _ ?_)
  clear hK2 K2
  refine W_ret (fin_shp rfl rfl rfl rfl (rcs_cons (rc_v ?_) (rcs_cons (rc_own rfl ?_) (rcs_cons (rc_own rfl ?_) (rcs_cons (rc_own rfl ?_) rcs_nil)))))
  all_goals (rfl)

theorem c_impl_raiseIrq (x : Ifc) (irq p : Int) (hF : IfF x) (hi : 0 ≤ irq ∧ irq ≤ 7) (hp : 0 ≤ p ∧ p ≤ 15) : Ctr Tryz.prog 81 [.agg [.v (.int .i64 x.ma), .lst 1 (x.st.map encI), .lst 3 (x.qu.sl.map encSl), .lst 2 (x.qu.wa.map encWa)], .v (.int .i64 irq), .v (.int .i64 p)] (.shp true [some 4] [.v (.int .i64 x.ma), .fr 3 1 (x.st.map encI), .fr 154 3 ((offr x.qu irq p).sl.map encSl), .fr 183 2 ((offr x.qu irq p).wa.map encWa) true]) := by
  have hl4 := hF.qu.sl.len
  have hwn := hF.qu.wn
  have hsn := hF.sn
  refine Ctr.of (n := 17) G Tryz.func81 rfl (by kernel_rfl) rfl rfl rfl (fun w0 => ?_)
  refine W_pinS 0 rfl (fun _ => rfl) (fun u0 => ?_)
  refine W_seq (fun K1 hK1 => ?_)
  refine W_region (WL_cons rfl (WX_box 1 rfl rfl rfl rfl rfl rfl rfl (WL_cons rfl (WX_alloc_s G 2 rfl rfl rfl rfl rfl (?_)))))
  refine WL_nil (hK1 _ ?_)
  clear hK1 K1
  refine W_seq (fun K2 hK2 => ?_)
  refine W_region (WL_cons rfl (WX_q rfl rfl (q_load_box_struct G rfl rfl rfl rfl rfl rfl) (WL_cons rfl (?_))))
  refine WX_call 5 rfl rfl rfl (ArgsOK.of rfl) (c_impl_newInterface x (by omega) (by omega) (by omega)) rfl rfl ?_
  refine WL_cons rfl (WX_alloc_s G 6 rfl rfl rfl rfl rfl (WL_cons rfl (WX_store G rfl rfl rfl rfl rfl rfl rfl rfl rfl rfl rfl (?_))))
  refine WL_nil (hK2 _ ?_)
  clear hK2 K2
  refine W_seq (fun K3 hK3 => ?_)
  refine W_region (WL_cons rfl (WX_q rfl rfl (q_field_ptr G rfl rfl rfl rfl) (WL_cons rfl (WX_q rfl rfl (q_load_box_struct G rfl rfl rfl rfl rfl rfl) (WL_cons rfl (WX_q rfl rfl (q_move rfl rfl) (WL_cons rfl (WX_q rfl rfl (q_move rfl rfl) (WL_cons rfl (?_))))))))))
  refine WX_call 8 rfl rfl rfl (ArgsOK.of rfl) (c_impl_offerIrq x.qu irq p hF.qu hi hp) rfl rfl ?_
  refine WL_cons rfl (WX_q rfl rfl (q_field_ptr G rfl rfl rfl rfl) (WL_cons rfl (WX_store G rfl rfl rfl rfl rfl rfl rfl rfl rfl rfl rfl (?_))))
  refine WL_nil (hK3 _ ?_)
  clear hK3 K3
  refine W_seq (fun K4 hK4 => ?_)
  refine W_region (WL_cons rfl (WX_q rfl rfl (q_load_box_struct G rfl rfl rfl rfl rfl rfl) (WL_cons rfl (WX_store G rfl rfl rfl rfl rfl rfl rfl rfl rfl rfl rfl (?_)))))
  refine WL_nil (hK4 _ ?_)
  clear hK4 K4
  refine W_ret (fin_shp rfl rfl rfl rfl (rcs_cons (rc_v ?_) (rcs_cons (rc_own rfl ?_) (rcs_cons (rc_own rfl ?_) (rcs_cons (rc_own rfl ?_) rcs_nil)))))
  all_goals (rfl)

theorem c_spec_l10Raise (x : Ifc) (irq p : Int) (hF : IfF x) (hi : 0 ≤ irq ∧ irq ≤ 7) (hp : 0 ≤ p ∧ p ≤ 15) : Ctr Tryz.prog 74 [.agg [.v (.int .i64 x.ma), .lst 1 (x.st.map encI), .lst 3 (x.qu.sl.map encSl), .lst 2 (x.qu.wa.map encWa)], .v (.int .i64 irq), .v (.int .i64 p)] (.shp true [some 4] [.v (.int .i64 x.ma), .fr 3 1 (x.st.map encI), .fr 154 3 ((offr x.qu irq p).sl.map encSl), .fr 183 2 ((offr x.qu irq p).wa.map encWa)]) := by
  have hl4 := hF.qu.sl.len
  have hwn := hF.qu.wn
  have hsn := hF.sn
  refine Ctr.of (n := 18) G Tryz.func74 rfl (by kernel_rfl) rfl rfl rfl (fun w0 => ?_)
  refine W_pinS 0 rfl (fun _ => rfl) (fun u0 => ?_)
  refine W_seq (fun K1 hK1 => ?_)
  refine W_region (WL_cons rfl (WX_box 1 rfl rfl rfl rfl rfl rfl rfl (WL_cons rfl (WX_alloc_s G 2 rfl rfl rfl rfl rfl (?_)))))
  refine WL_nil (hK1 _ ?_)
  clear hK1 K1
  refine W_seq (fun K2 hK2 => ?_)
  refine W_drawsH 12 [0] mixed (by kernel_rfl) rfl rfl (fun r0 => ?_) (fun _ h => h)
  refine WA_take 0 rfl (by kernel_rfl) (by kernel_rfl) rfl rfl rfl rfl (q_field_ptr G rfl rfl rfl rfl) (WA_take 1 rfl (by kernel_rfl) (by kernel_rfl) rfl rfl rfl rfl (q_load_box G rfl rfl rfl rfl rfl rfl rfl) (WA_take 2 rfl (by kernel_rfl) (by kernel_rfl) rfl rfl rfl rfl (q_field_ptr G rfl rfl rfl rfl) (WA_take 3 rfl (by kernel_rfl) (by kernel_rfl) rfl rfl rfl rfl (q_lst (q_load_box G rfl rfl rfl rfl rfl rfl rfl)) (WA_take 5 rfl (by kernel_rfl) (by kernel_rfl) rfl rfl rfl rfl (q_field_ptr G rfl rfl rfl rfl) (WA_take 6 rfl (by kernel_rfl) (by kernel_rfl) rfl rfl rfl rfl (q_load_box_struct G rfl rfl rfl rfl rfl rfl) (WA_take 7 rfl (by kernel_rfl) (by kernel_rfl) rfl rfl rfl rfl (q_move rfl rfl) (WA_take 8 rfl (by kernel_rfl) (by kernel_rfl) rfl rfl rfl rfl (q_move rfl rfl) (?_))))))))
  refine WA_branch (rs := [4]) (by kernel_rfl) rfl (AllB.cons ?_ AllB.nil)
  refine WB_run [0] rfl rfl (WX_call 3 rfl rfl rfl (ArgsOK.of rfl) (c_spec_l1Own x.st (by omega)) rfl rfl (WL_nil ⟨rfl, ?_⟩))
  refine WA_branch (rs := [9]) (by kernel_rfl) rfl (AllB.cons ?_ AllB.nil)
  refine WB_run [0] rfl rfl (WX_call 5 rfl rfl rfl (ArgsOK.of rfl) (c_spec_l9Offer x.qu irq p hF.qu hi hp) rfl rfl (WL_nil ⟨rfl, ?_⟩))
  refine WA_branch (rs := [10]) (by kernel_rfl) rfl (AllB.cons ?_ AllB.nil)
  refine WB_run [0] rfl rfl (WX_q rfl rfl (q_build G rfl rfl rfl rfl) (WL_nil ⟨rfl, ?_⟩))
  refine WA_branch (rs := [11]) (by kernel_rfl) rfl (AllB.cons ?_ AllB.nil)
  refine WB_run [0] rfl rfl (WX_store G rfl rfl rfl rfl rfl rfl rfl rfl rfl rfl rfl (WL_nil ⟨rfl, ?_⟩))
  refine WA_end (by kernel_rfl) (hK2 _ ?_)
  clear hK2 K2
  refine W_ret (fin_shp rfl rfl rfl rfl (rcs_cons (rc_v ?_) (rcs_cons (rc_own rfl ?_) (rcs_cons (rc_own rfl ?_) (rcs_cons (rc_own rfl ?_) rcs_nil)))))
  all_goals (rfl)

theorem c_impl_takeIrq (x : Ifc) (hF : IfF x) : Ctr Tryz.prog 80 [.agg [.v (.int .i64 x.ma), .lst 1 (x.st.map encI), .lst 3 (x.qu.sl.map encSl), .lst 2 (x.qu.wa.map encWa)]] (.shp false [some 4, none, none] [.v (.int .i64 (takIT x).1.ma), .fr 3 1 ((takIT x).1.st.map encI), .fr 154 3 ((takIT x).1.qu.sl.map encSl), .fr 183 2 ((takIT x).1.qu.wa.map encWa), .v (.int .i64 (takIT x).2.1), .v (.bool (takIT x).2.2)]) := by
  have hl4 := hF.qu.sl.len
  have hwn := hF.qu.wn
  have hsn := hF.sn
  refine Ctr.of (n := 34) G Tryz.func80 rfl (by kernel_rfl) rfl rfl rfl (fun w0 => ?_)
  refine W_pinS 0 rfl (fun _ => rfl) (fun u0 => ?_)
  refine W_seq (fun K1 hK1 => ?_)
  refine W_region (WL_cons rfl (WX_box 1 rfl rfl rfl rfl rfl rfl rfl (WL_cons rfl (WX_alloc_s G 2 rfl rfl rfl rfl rfl (WL_cons rfl (WX_q rfl rfl (q_assign rfl rfl) (WL_cons rfl (WX_q rfl rfl (q_assign rfl rfl) (?_)))))))))
  refine WL_nil (hK1 _ ?_)
  clear hK1 K1
  refine W_seq (fun K2 hK2 => ?_)
  refine W_drawsH 16 [0, 1] mixed (by kernel_rfl) rfl rfl (fun r0 => ?_) (fun _ h => h)
  refine WA_take 0 rfl (by kernel_rfl) (by kernel_rfl) rfl rfl rfl rfl (q_field_ptr G rfl rfl rfl rfl) (WA_take 1 rfl (by kernel_rfl) (by kernel_rfl) rfl rfl rfl rfl (q_load_box_struct G rfl rfl rfl rfl rfl rfl) (WA_take 2 rfl (by kernel_rfl) (by kernel_rfl) rfl rfl rfl rfl (q_field_ptr G rfl rfl rfl rfl) (WA_take 3 rfl (by kernel_rfl) (by kernel_rfl) rfl rfl rfl rfl (q_load_box G rfl rfl rfl rfl rfl rfl rfl) (WA_take 4 rfl (by kernel_rfl) (by kernel_rfl) rfl rfl rfl rfl (q_load_box_struct G rfl rfl rfl rfl rfl rfl) (?_)))))
  refine WA_more (N := 3) rfl (WAV_startH (fuel := 10) [⟨12, 5, 2, true, .box (avR [.slice none 0 0, .slice none 0 0] [])⟩] (AllVOK.cons (VOK.boxS G rfl rfl rfl rfl rfl) (AllVOK.nil)) (fun hok => ?_))
  refine WAV_go [(5, [])] (by kernel_rfl) (by kernel_rfl) (fun e he => hok e he) (by kernel_rfl) (AllVS.cons ?_ AllVS.nil)
  refine VStep.mk0 [0, 1] rfl rfl (fun b1 _ hbn => WX_q rfl rfl (q_call rfl (ArgsOK.of rfl) (c_impl_runningPriority x hF) rfl) (WL_nil rfl)) (by kernel_rfl) (by kernel_rfl) (by kernel_rfl) (by kernel_rfl) ?_
  refine WAV_take 6 rfl (by kernel_rfl) rfl rfl rfl rfl (q_min' rfl rfl rfl) (by kernel_rfl) (by kernel_rfl) (by kernel_rfl) ?_
  refine WAV_go [(7, [])] (by kernel_rfl) (by kernel_rfl) (fun e he => hok e he) (by kernel_rfl) (AllVS.cons ?_ AllVS.nil)
  refine VStep.mk0 [0, 1] rfl rfl (fun b1 _ hbn => WX_call 5 rfl rfl rfl (ArgsOK.of rfl) (c_impl_takeQueue x.qu (limI x) hF.qu) rfl rfl (WL_nil rfl)) (by kernel_rfl) (by kernel_rfl) (by kernel_rfl) (by kernel_rfl) ?_
  refine WAV_take 8 rfl (by kernel_rfl) rfl rfl rfl rfl (q_move rfl rfl) (by kernel_rfl) (by kernel_rfl) (by kernel_rfl) ?_
  refine WAV_take 9 rfl (by kernel_rfl) rfl rfl rfl rfl (q_extract rfl rfl rfl) (by kernel_rfl) (by kernel_rfl) (by kernel_rfl) ?_
  refine WAV_take 10 rfl (by kernel_rfl) rfl rfl rfl rfl (q_extract rfl rfl rfl) (by kernel_rfl) (by kernel_rfl) (by kernel_rfl) ?_
  refine WAV_take 11 rfl (by kernel_rfl) rfl rfl rfl rfl (q_extract rfl rfl rfl) (by kernel_rfl) (by kernel_rfl) (by kernel_rfl) ?_
  refine WAV_go [(13, [12])] (by kernel_rfl) (by kernel_rfl) (fun e he => hok e he) (by kernel_rfl) (AllVS.cons ?_ AllVS.nil)
  refine VStep.mk1 [0, 1] 5 (.ptr 2 0) 2 (.box (avR [.slice none 0 0, .slice none 0 0] [])) [] rfl rfl rfl rfl rfl (fun b1 _ hbn => WX_store G rfl rfl rfl rfl rfl rfl rfl rfl rfl rfl rfl (WL_nil rfl)) (by kernel_rfl) (by kernel_rfl) (by kernel_rfl) (by kernel_rfl) ?_
  refine WAV_nil ?_
  clear hok
  refine WA_take 14 rfl (by kernel_rfl) (by kernel_rfl) rfl rfl rfl rfl (q_assign rfl rfl) (WA_take 15 rfl (by kernel_rfl) (by kernel_rfl) rfl rfl rfl rfl (q_assign rfl rfl) (?_))
  refine WA_end (by kernel_rfl) (hK2 _ ?_)
  clear hK2 K2
  refine W_seq (fun K3 hK3 => ?_)
  refine W_seq (fun K4 hK4 => ?_)
  refine W_region (WL_cons rfl (WX_q rfl rfl (q_move rfl rfl) (WL_cons rfl (WX_q rfl rfl (q_not rfl rfl) (?_)))))
  refine WL_nil (hK4 _ ?_)
  clear hK4 K4
  refine W_cond rfl (fun h1 => ?_) (fun h1 => ?_)
  · try rw [h1]
    try simp only [rfb] at h1
    rw [takT_2] at h1
    have ht := takIT_f (x := x) h1
    refine W_seq (fun K5 hK5 => ?_)
    refine W_region (WL_cons rfl (WX_q rfl rfl (q_build G rfl rfl rfl rfl) (WL_cons rfl (WX_store G rfl rfl rfl rfl rfl rfl rfl rfl rfl rfl rfl (WL_cons rfl (WX_q rfl rfl (q_assign rfl rfl) (WL_cons rfl (WX_q rfl rfl (q_assign rfl rfl) (?_)))))))))
    refine WL_nil (hK5 _ ?_)
    clear hK5 K5
    refine W_ret (fin_shp rfl rfl rfl rfl (rcs_cons (rc_v ?_) (rcs_cons (rc_nil ?_) (rcs_cons (rc_nil ?_) (rcs_cons (rc_nil ?_) (rcs_cons (rc_v ?_) (rcs_cons (rc_v ?_) rcs_nil)))))))
    all_goals clear hK3 K3
    all_goals (first | rfl | (rw [ht]; done) | (rw [ht]; rfl) | (rw [ht, ht2]; done) | (rw [ht, ht2]; rfl) | (rw [ht, ht2]; simp [takI, encI]; done))
  · try rw [h1]
    try simp only [rfb] at h1
    rw [takT_2] at h1
    have ht := takIT_t (x := x) h1
    have ht2 := takT_t h1
    refine W_skip (hK3 _ ?_)
    clear hK3 K3
    refine W_seq (fun K6 hK6 => ?_)
    apply W_drawsJ [2, 3, 4] [1, 3, 4, 5] 7 14 [0, 2, 3, 4] mixed (by kernel_rfl) rfl rfl hK6
    · intro r0
      refine WA_take 0 rfl (by kernel_rfl) (by kernel_rfl) rfl rfl rfl rfl (q_field_ptr G rfl rfl rfl rfl) (WA_take 1 rfl (by kernel_rfl) (by kernel_rfl) rfl rfl rfl rfl (q_load_box G rfl rfl rfl rfl rfl rfl rfl) (WA_take 2 rfl (by kernel_rfl) (by kernel_rfl) rfl rfl rfl rfl (q_field_ptr G rfl rfl rfl rfl) (WA_take 3 rfl (by kernel_rfl) (by kernel_rfl) rfl rfl rfl rfl (q_lst (q_load_box G rfl rfl rfl rfl rfl rfl rfl)) (WA_take 5 rfl (by kernel_rfl) (by kernel_rfl) rfl rfl rfl rfl (q_move rfl rfl) (WA_take 8 rfl (by kernel_rfl) (by kernel_rfl) rfl rfl rfl rfl (q_load_box_struct G rfl rfl rfl rfl rfl rfl) (WA_take 10 rfl (by kernel_rfl) (by kernel_rfl) rfl rfl rfl rfl (q_move rfl rfl) (?_)))))))
      refine WA_branch (rs := [4, 6]) (by kernel_rfl) rfl (AllB.cons ?_ (AllB.cons ?_ AllB.nil))
      · refine WB_run [0, 2, 3, 4] rfl rfl (WX_call 6 rfl rfl rfl (ArgsOK.of rfl) (c_impl_copyInts x.st (by omega)) rfl rfl (WL_nil ⟨rfl, ?_⟩))
        refine WA_branch (rs := [6]) (by kernel_rfl) rfl (AllB.cons ?_ AllB.nil)
        refine WB_run [0, 2, 3, 4] rfl rfl (WX_lit G 7 rfl rfl rfl rfl rfl rfl rfl rfl (WL_nil ⟨rfl, ?_⟩))
        refine WA_branch (rs := [7]) (by kernel_rfl) rfl (AllB.cons ?_ AllB.nil)
        refine WB_run [0, 2, 3, 4] rfl rfl (WX_append G (by exact Nat.le_of_ble_eq_true rfl) rfl rfl rfl rfl rfl rfl rfl rfl rfl (by first | (simp only [List.length_map, List.length_cons, List.length_nil]; omega) | (simp; omega)) rfl rfl (WL_nil ⟨rfl, ?_⟩))
        refine WA_branch (rs := [9]) (by kernel_rfl) rfl (AllB.cons ?_ AllB.nil)
        refine WB_run [0, 2, 3, 4] rfl rfl (WX_q rfl rfl (q_build G rfl rfl rfl rfl) (WL_nil ⟨rfl, ?_⟩))
        refine WA_branch (rs := [11]) (by kernel_rfl) rfl (AllB.cons ?_ AllB.nil)
        refine WB_run [0, 2, 3, 4] rfl rfl (WX_store G rfl rfl rfl rfl rfl rfl rfl rfl rfl rfl rfl (WL_nil ⟨rfl, ?_⟩))
        refine WA_take 12 rfl (by kernel_rfl) (by kernel_rfl) rfl rfl rfl rfl (q_assign rfl rfl) (WA_take 13 rfl (by kernel_rfl) (by kernel_rfl) rfl rfl rfl rfl (q_assign rfl rfl) (?_))
        exact WA_end (by kernel_rfl) (Meet.mk rfl rfl rfl rfl)
      · refine WB_run [0, 2, 3, 4] rfl rfl (WX_lit G 6 rfl rfl rfl rfl rfl rfl rfl rfl (WL_nil ⟨rfl, ?_⟩))
        refine WA_branch (rs := [4]) (by kernel_rfl) rfl (AllB.cons ?_ AllB.nil)
        refine WB_run [0, 2, 3, 4] rfl rfl (WX_call 7 rfl rfl rfl (ArgsOK.of rfl) (c_impl_copyInts x.st (by omega)) rfl rfl (WL_nil ⟨rfl, ?_⟩))
        refine WA_branch (rs := [7]) (by kernel_rfl) rfl (AllB.cons ?_ AllB.nil)
        refine WB_run [0, 2, 3, 4] rfl rfl (WX_append G (by exact Nat.le_of_ble_eq_true rfl) rfl rfl rfl rfl rfl rfl rfl rfl rfl (by first | (simp only [List.length_map, List.length_cons, List.length_nil]; omega) | (simp; omega)) rfl rfl (WL_nil ⟨rfl, ?_⟩))
        refine WA_branch (rs := [9]) (by kernel_rfl) rfl (AllB.cons ?_ AllB.nil)
        refine WB_run [0, 2, 3, 4] rfl rfl (WX_q rfl rfl (q_build G rfl rfl rfl rfl) (WL_nil ⟨rfl, ?_⟩))
        refine WA_branch (rs := [11]) (by kernel_rfl) rfl (AllB.cons ?_ AllB.nil)
        refine WB_run [0, 2, 3, 4] rfl rfl (WX_store G rfl rfl rfl rfl rfl rfl rfl rfl rfl rfl rfl (WL_nil ⟨rfl, ?_⟩))
        refine WA_take 12 rfl (by kernel_rfl) (by kernel_rfl) rfl rfl rfl rfl (q_assign rfl rfl) (WA_take 13 rfl (by kernel_rfl) (by kernel_rfl) rfl rfl rfl rfl (q_assign rfl rfl) (?_))
        refine WA_gh (Gh.sub 6 5 (by exact Nat.le_of_ble_eq_true rfl) rfl rfl rfl) ?_
        exact WA_end (by kernel_rfl) (Meet.mk rfl rfl rfl rfl)
    · clear hK6 K6
      refine W_ret (fin_shp rfl rfl rfl rfl (rcs_cons (rc_v ?_) (rcs_cons (rc_own rfl ?_) (rcs_cons (rc_own rfl ?_) (rcs_cons (rc_own rfl ?_) (rcs_cons (rc_v ?_) (rcs_cons (rc_v ?_) rcs_nil)))))))
      all_goals (first | rfl | (rw [ht]; done) | (rw [ht]; rfl) | (rw [ht, ht2]; done) | (rw [ht, ht2]; rfl) | (rw [ht, ht2]; simp [takI, encI]; done))

theorem c_spec_l10Take (x : Ifc) (hF : IfF x) (hk : okT x = true) : Ctr Tryz.prog 73 [.agg [.v (.int .i64 x.ma), .lst 1 (x.st.map encI), .lst 3 (x.qu.sl.map encSl), .lst 2 (x.qu.wa.map encWa)]] (.shp false [some 4, none] [.v (.int .i64 (takI x).ma), .fr 3 1 ((takI x).st.map encI), .fr 154 3 ((takI x).qu.sl.map encSl), .fr 183 2 ((takI x).qu.wa.map encWa), .v (.int .i64 (tkI x.qu.sl))]) := by
  have hl4 := hF.qu.sl.len
  have hwn := hF.qu.wn
  have hsn := hF.sn
  have hkk := tkOK_iff.mp hk
  have htb := tkI_bd hF.qu.sl hkk.1
  refine Ctr.of (n := 35) G Tryz.func73 rfl (by kernel_rfl) rfl rfl rfl (fun w0 => ?_)
  refine W_pinS 0 rfl (fun _ => rfl) (fun u0 => ?_)
  refine W_seq (fun K1 hK1 => ?_)
  refine W_region (WL_cons rfl (WX_box 1 rfl rfl rfl rfl rfl rfl rfl (WL_cons rfl (WX_alloc_s G 2 rfl rfl rfl rfl rfl (WL_cons rfl (WX_q rfl rfl (q_assign rfl rfl) (?_)))))))
  refine WL_nil (hK1 _ ?_)
  clear hK1 K1
  refine W_seq (fun K2 hK2 => ?_)
  refine W_drawsH 14 [0, 1] mixed (by kernel_rfl) rfl rfl (fun r0 => ?_) (fun _ h => h)
  refine WA_take 0 rfl (by kernel_rfl) (by kernel_rfl) rfl rfl rfl rfl (q_field_ptr G rfl rfl rfl rfl) (WA_take 1 rfl (by kernel_rfl) (by kernel_rfl) rfl rfl rfl rfl (q_load_box_struct G rfl rfl rfl rfl rfl rfl) (WA_take 2 rfl (by kernel_rfl) (by kernel_rfl) rfl rfl rfl rfl (q_field_ptr G rfl rfl rfl rfl) (WA_take 3 rfl (by kernel_rfl) (by kernel_rfl) rfl rfl rfl rfl (q_load_box G rfl rfl rfl rfl rfl rfl rfl) (WA_take 4 rfl (by kernel_rfl) (by kernel_rfl) rfl rfl rfl rfl (q_load_box_struct G rfl rfl rfl rfl rfl rfl) (?_)))))
  refine WA_more (N := 3) rfl (WAV_startH (fuel := 8) [⟨11, 4, 2, true, .box (avR [.slice none 0 0, .slice none 0 0] [])⟩] (AllVOK.cons (VOK.boxS G rfl rfl rfl rfl rfl) (AllVOK.nil)) (fun hok => ?_))
  refine WAV_go [(5, [])] (by kernel_rfl) (by kernel_rfl) (fun e he => hok e he) (by kernel_rfl) (AllVS.cons ?_ AllVS.nil)
  refine VStep.mk0 [0, 1] rfl rfl (fun b1 _ hbn => WX_q rfl rfl (q_call rfl (ArgsOK.of rfl) (c_spec_l10Running x hF) rfl) (WL_nil rfl)) (by kernel_rfl) (by kernel_rfl) (by kernel_rfl) (by kernel_rfl) ?_
  refine WAV_go [(6, [])] (by kernel_rfl) (by kernel_rfl) (fun e he => hok e he) (by kernel_rfl) (AllVS.cons ?_ AllVS.nil)
  refine VStep.mk0 [0, 1] rfl rfl (fun b1 _ hbn => WX_q rfl rfl (q_call rfl (ArgsOK.of rfl) (c_spec_l1Least _ _) rfl) (WL_nil rfl)) (by kernel_rfl) (by kernel_rfl) (by kernel_rfl) (by kernel_rfl) ?_
  refine WAV_go [(7, [])] (by kernel_rfl) (by kernel_rfl) (fun e he => hok e he) (by kernel_rfl) (AllVS.cons ?_ AllVS.nil)
  refine VStep.mk0 [0, 1] rfl rfl (fun b1 _ hbn => WX_call 5 rfl rfl rfl (ArgsOK.of rfl) (c_spec_l9Take x.qu (limI x) hF.qu hk) rfl rfl (WL_nil rfl)) (by kernel_rfl) (by kernel_rfl) (by kernel_rfl) (by kernel_rfl) ?_
  refine WAV_take 8 rfl (by kernel_rfl) rfl rfl rfl rfl (q_move rfl rfl) (by kernel_rfl) (by kernel_rfl) (by kernel_rfl) ?_
  refine WAV_take 9 rfl (by kernel_rfl) rfl rfl rfl rfl (q_extract rfl rfl rfl) (by kernel_rfl) (by kernel_rfl) (by kernel_rfl) ?_
  refine WAV_take 10 rfl (by kernel_rfl) rfl rfl rfl rfl (q_extract rfl rfl rfl) (by kernel_rfl) (by kernel_rfl) (by kernel_rfl) ?_
  refine WAV_go [(12, [11])] (by kernel_rfl) (by kernel_rfl) (fun e he => hok e he) (by kernel_rfl) (AllVS.cons ?_ AllVS.nil)
  refine VStep.mk1 [0, 1] 4 (.ptr 2 0) 2 (.box (avR [.slice none 0 0, .slice none 0 0] [])) [] rfl rfl rfl rfl rfl (fun b1 _ hbn => WX_store G rfl rfl rfl rfl rfl rfl rfl rfl rfl rfl rfl (WL_nil rfl)) (by kernel_rfl) (by kernel_rfl) (by kernel_rfl) (by kernel_rfl) ?_
  refine WAV_nil ?_
  clear hok
  refine WA_take 13 rfl (by kernel_rfl) (by kernel_rfl) rfl rfl rfl rfl (q_assign rfl rfl) (?_)
  refine WA_end (by kernel_rfl) (hK2 _ ?_)
  clear hK2 K2
  refine W_seq (fun K3 hK3 => ?_)
  refine W_drawsH 9 [0, 1, 2, 3, 4] mixed (by kernel_rfl) rfl rfl (fun r0 => ?_) (fun _ h => h)
  refine WA_take 0 rfl (by kernel_rfl) (by kernel_rfl) rfl rfl rfl rfl (q_field_ptr G rfl rfl rfl rfl) (WA_take 1 rfl (by kernel_rfl) (by kernel_rfl) rfl rfl rfl rfl (q_load_box G rfl rfl rfl rfl rfl rfl rfl) (WA_take 2 rfl (by kernel_rfl) (by kernel_rfl) rfl rfl rfl rfl (q_field_ptr G rfl rfl rfl rfl) (WA_take 3 rfl (by kernel_rfl) (by kernel_rfl) rfl rfl rfl rfl (q_lst (q_load_box G rfl rfl rfl rfl rfl rfl rfl)) (WA_take 5 rfl (by kernel_rfl) (by kernel_rfl) rfl rfl rfl rfl (q_load_box_struct G rfl rfl rfl rfl rfl rfl) (?_)))))
  refine WA_more (N := 6) rfl (WAV_startH (fuel := 3) [⟨7, 6, 5, true, .box (avR [.int .i64 0, .slice none 0 0, .slice none 0 0, .slice none 0 0] [])⟩] (AllVOK.cons (VOK.boxS G rfl rfl rfl rfl rfl) (AllVOK.nil)) (fun hok => ?_))
  refine WAV_go [(4, [])] (by kernel_rfl) (by kernel_rfl) (fun e he => hok e he) (by kernel_rfl) (AllVS.cons ?_ AllVS.nil)
  refine VStep.mk0 [0, 1, 2, 3, 4] rfl rfl (fun b1 _ hbn => WX_call 7 rfl rfl rfl (ArgsOK.of rfl) (c_spec_l1Own x.st (by omega)) rfl rfl (WL_nil rfl)) (by kernel_rfl) (by kernel_rfl) (by kernel_rfl) (by kernel_rfl) ?_
  refine WAV_go [(6, [])] (by kernel_rfl) (by kernel_rfl) (fun e he => hok e he) (by kernel_rfl) (AllVS.cons ?_ AllVS.nil)
  refine VStep.mk0 [0, 1, 2, 3, 4] rfl rfl (fun b1 _ hbn => WX_q rfl rfl (q_build G rfl rfl rfl rfl) (WL_nil rfl)) (by kernel_rfl) (by kernel_rfl) (by kernel_rfl) (by kernel_rfl) ?_
  refine WAV_go [(8, [7])] (by kernel_rfl) (by kernel_rfl) (fun e he => hok e he) (by kernel_rfl) (AllVS.cons ?_ AllVS.nil)
  refine VStep.mk1 [0, 1, 2, 3, 4] 6 (.ptr 5 0) 5 (.box (avR [.int .i64 0, .slice none 0 0, .slice none 0 0, .slice none 0 0] [])) [] rfl rfl rfl rfl rfl (fun b1 _ hbn => WX_store G rfl rfl rfl rfl rfl rfl rfl rfl rfl rfl rfl (WL_nil rfl)) (by kernel_rfl) (by kernel_rfl) (by kernel_rfl) (by kernel_rfl) ?_
  refine WAV_nil ?_
  clear hok
  refine WA_end (by kernel_rfl) (hK3 _ ?_)
  clear hK3 K3
  refine W_seq (fun K4 hK4 => ?_)
  refine W_seq (fun K5 hK5 => ?_)
  refine W_region (WL_cons rfl (WX_q rfl rfl (q_move rfl rfl) (WL_cons rfl (WX_q rfl rfl (q_cmp rfl rfl rfl rfl) (?_)))))
  refine WL_nil (hK5 _ ?_)
  clear hK5 K5
  refine W_cond rfl (fun h1 => ?_) (fun h1 => ?_)
  · try rw [h1]
    try simp only [rfb] at h1
    refine W_region (WL_cons rfl (WX_q rfl rfl (q_field_ptr G rfl rfl rfl rfl) (WL_cons rfl (WX_q rfl rfl (q_load_box G rfl rfl rfl rfl rfl rfl rfl) (WL_cons rfl (WX_q rfl rfl (q_move rfl rfl) (WL_cons rfl (WX_lit G 8 rfl rfl rfl rfl rfl rfl rfl rfl (WL_cons rfl (?_))))))))))
    refine WX_gh (Gh.forget (id := 5) (k := 1) rfl rfl) <| WX_gh (Gh.keep [0, 1, 2, 3, 4, 5, 6, 7] rfl) <| WX_append G np rfl rfl rfl rfl rfl rfl rfl rfl rfl (by first | (simp only [List.length_map, List.length_cons, List.length_nil]; omega) | (simp; omega)) rfl rfl ?_
    refine WL_cons rfl (WX_q rfl rfl (q_field_ptr G rfl rfl rfl rfl) (WL_cons rfl (WX_store G rfl rfl rfl rfl rfl rfl rfl rfl rfl rfl rfl (?_))))
    refine WL_nil (hK4 _ ?_)
    clear hK4 K4
    refine W_seq (fun K6 hK6 => ?_)
    refine W_region (WL_cons rfl (WX_q rfl rfl (q_load_box_struct G rfl rfl rfl rfl rfl rfl) (WL_cons rfl (WX_q rfl rfl (q_move rfl rfl) (WL_cons rfl (WX_store G rfl rfl rfl rfl rfl rfl rfl rfl rfl rfl rfl (WL_cons rfl (WX_q rfl rfl (q_assign rfl rfl) (?_)))))))))
    refine WL_nil (hK6 _ ?_)
    clear hK6 K6
    refine W_ret (fin_shp rfl rfl rfl rfl (rcs_cons (rc_v ?_) (rcs_cons (rc_own rfl ?_) (rcs_cons (rc_own rfl ?_) (rcs_cons (rc_own rfl ?_) (rcs_cons (rc_v ?_) rcs_nil))))))
    all_goals (first | rfl | (simp [takI, encI]; done))
  · try rw [h1]
    try simp only [rfb] at h1
    exfalso; omega

theorem c_impl_setMask (x : Ifc) (k : Int) (hn : x.st.length ≤ 1048576) (hl : x.qu.sl.length ≤ 1048576) (hw : x.qu.wa.length ≤ 1048576) : Ctr Tryz.prog 82 [.agg [.v (.int .i64 x.ma), .lst 1 (x.st.map encI), .lst 3 (x.qu.sl.map encSl), .lst 2 (x.qu.wa.map encWa)], .v (.int .i64 k)] (.shp true [some 4] [.v (.int .i64 k), .fr 3 1 (x.st.map encI), .fr 154 3 (x.qu.sl.map encSl), .fr 183 2 (x.qu.wa.map encWa)]) := by
  refine Ctr.of (n := 11) G Tryz.func82 rfl (by kernel_rfl) rfl rfl rfl (fun w0 => ?_)
  refine W_pinS 0 rfl (fun _ => rfl) (fun u0 => ?_)
  refine W_seq (fun K1 hK1 => ?_)
  refine W_region (WL_cons rfl (WX_box 1 rfl rfl rfl rfl rfl rfl rfl (WL_cons rfl (WX_alloc_s G 2 rfl rfl rfl rfl rfl (?_)))))
  refine WL_nil (hK1 _ ?_)
  clear hK1 K1
  refine W_seq (fun K2 hK2 => ?_)
  refine W_region (WL_cons rfl (WX_q rfl rfl (q_load_box_struct G rfl rfl rfl rfl rfl rfl) (WL_cons rfl (?_))))
  refine WX_call 5 rfl rfl rfl (ArgsOK.of rfl) (c_impl_newInterface x hn hl hw) rfl rfl ?_
  refine WL_cons rfl (WX_alloc_s G 6 rfl rfl rfl rfl rfl (WL_cons rfl (WX_store G rfl rfl rfl rfl rfl rfl rfl rfl rfl rfl rfl (?_))))
  refine WL_nil (hK2 _ ?_)
  clear hK2 K2
  refine W_seq (fun K3 hK3 => ?_)
  refine W_region (WL_cons rfl (WX_q rfl rfl (q_move rfl rfl) (WL_cons rfl (WX_q rfl rfl (q_field_ptr G rfl rfl rfl rfl) (WL_cons rfl (WX_store G rfl rfl rfl rfl rfl rfl rfl rfl rfl rfl rfl (?_)))))))
  refine WL_nil (hK3 _ ?_)
  clear hK3 K3
  refine W_seq (fun K4 hK4 => ?_)
  refine W_region (WL_cons rfl (WX_q rfl rfl (q_load_box_struct G rfl rfl rfl rfl rfl rfl) (WL_cons rfl (WX_store G rfl rfl rfl rfl rfl rfl rfl rfl rfl rfl rfl (?_)))))
  refine WL_nil (hK4 _ ?_)
  clear hK4 K4
  refine W_ret (fin_shp rfl rfl rfl rfl (rcs_cons (rc_v ?_) (rcs_cons (rc_own rfl ?_) (rcs_cons (rc_own rfl ?_) (rcs_cons (rc_own rfl ?_) rcs_nil)))))
  all_goals (rfl)

end Go.Proofs.YtcnodpipinlpcaaGreat

/- Walks through functions of the program, one contract each (written by gen.py). -/
set_option maxRecDepth 20000
set_option linter.unusedVariables false
set_option linter.unusedSimpArgs false
namespace Go.Proofs.YtcnodpipinlpcaaGreat
open Go Go.Rf

set_option maxHeartbeats 2000000 in
theorem c_spec_MachineOf (rs : List Route) (a : Abs) (hs : SmallA a) (hn : rs.length ≤ 1048576) : Ctr Tryz.prog 22 [.lst 2 (rs.map encRo), .agg [.lst 1 (a.en.map encO), .lst 1 (a.ra.map encO), .lst 1 (a.po.map encO), .lst 1 (a.ma.map encI), .nst none 1 (a.st.map encSt)]] (.shp false [some 4, none] [.fr 118 2 ((moT rs a).1.rs.map encRo), .fr 4 1 ((moT rs a).1.en.map encO), .fr 4 1 ((moT rs a).1.ra.map encO), .ne 113 4 ((moT rs a).1.cp.map (encIf 154 183)), .v (.bool (moT rs a).2)]) := by
  refine Ctr.of (n := 116) G Tryz.func22 rfl (by kernel_rfl) rfl rfl rfl (fun w0 => ?_)
  refine W_pinS 1 rfl (fun _ => rfl) (fun u1 => ?_)
  refine W_seq (fun K1 hK1 => ?_)
  refine W_region (WL_cons rfl (WX_box 1 rfl rfl rfl rfl rfl rfl rfl (WL_cons rfl (WX_alloc_s G 2 rfl rfl rfl rfl rfl (WL_cons rfl (WX_q rfl rfl (q_assign rfl rfl) (?_)))))))
  refine WL_nil (hK1 _ ?_)
  clear hK1 K1
  refine W_seq (fun K2 hK2 => ?_)
  refine W_seq (fun K3 hK3 => ?_)
  refine W_region (WL_cons rfl (WX_q rfl rfl (q_move rfl rfl) (WL_cons rfl (WX_q rfl rfl (q_load_box_struct G rfl rfl rfl rfl rfl rfl) (WL_cons rfl (?_))))))
  refine WX_q rfl rfl (q_call rfl (ArgsOK.of rfl) (c_spec_l25Good rs a hs hn) rfl) ?_
  refine WL_cons rfl (WX_q rfl rfl (q_not rfl rfl) (?_))
  refine WL_nil (hK3 _ ?_)
  clear hK3 K3
  refine W_cond rfl (fun h1 => ?_) (fun h1 => ?_)
  · try rw [h1]
    try simp only [rfb] at h1
    refine W_seq (fun K4 hK4 => ?_)
    refine W_region (WL_cons rfl (WX_q rfl rfl (q_build G rfl rfl rfl rfl) (WL_cons rfl (WX_store G rfl rfl rfl rfl rfl rfl rfl rfl rfl rfl rfl (WL_cons rfl (WX_q rfl rfl (q_assign rfl rfl) (?_)))))))
    refine WL_nil (hK4 _ ?_)
    clear hK4 K4
    refine W_ret (fin_shp rfl rfl rfl rfl (rcs_cons (rc_nil ?_) (rcs_cons (rc_nil ?_) (rcs_cons (rc_nil ?_) (rcs_cons (rc_niln ?_) (rcs_cons (rc_v ?_) rcs_nil))))))
    all_goals clear hK2 K2
    all_goals (first | (rw [moT_f h1]; done) | (rw [moT_f h1]; rfl) | (rw [hM]; done) | (rw [hM]; rfl) | (have ek : k = a.ma.length := (by omega); subst ek; rw [hM, ovI_all]; rfl))
  · try rw [h1]
    try simp only [rfb] at h1
    have hM := moT_t h1
    have hF := absF h1
    have hor : okRts rs a.ma.length = true := (by simp only [absOK, Bool.and_eq_true] at h1; exact h1.1)
    have hr8 := okRts_iff.mp hor
    have hN := newMT_t (rs := rs) (c := (a.ma.length : Int)) hor
    have cN := c_spec_NewMachine rs (a.ma.length : Int) hn
    rw [hN] at cN
    dsimp only at cN
    have hNl : (newM rs ((a.ma.length : Int)).toNat).cp.length = a.ma.length := (by simp [newM])
    have f0 := hF.n
    have f1 := hF.rn
    have f2 := hF.st
    have f3 := hF.en
    have f4 := hF.ra
    have f5 := hF.po
    refine W_skip (hK2 _ ?_)
    clear hK2 K2
    refine W_seq (fun K5 hK5 => ?_)
    refine W_region (WL_cons rfl (WX_q rfl rfl (q_move rfl rfl) (WL_cons rfl (WX_q rfl rfl (q_field_ptr G rfl rfl rfl rfl) (WL_cons rfl (WX_q rfl rfl (q_lst (q_load_box G rfl rfl rfl rfl rfl rfl rfl)) (WL_cons rfl (?_))))))))
    first | refine WX_q rfl rfl (q_len' G rfl rfl rfl rfl (List.length_map _)) ?_ | refine WX_q rfl rfl (q_len G rfl rfl rfl rfl) ?_
    refine WL_cons rfl (?_)
    refine WX_call 6 rfl rfl rfl (ArgsOK.of rfl) cN rfl rfl ?_
    refine WL_cons rfl (WX_q rfl rfl (q_move rfl rfl) (WL_cons rfl (WX_q rfl rfl (q_extract rfl rfl rfl) (WL_cons rfl (WX_q rfl rfl (q_extract rfl rfl rfl) (WL_cons rfl (WX_alloc_s G 7 rfl rfl rfl rfl rfl (WL_cons rfl (WX_store G rfl rfl rfl rfl rfl rfl rfl rfl rfl rfl rfl (WL_cons rfl (WX_q rfl rfl (q_assign rfl rfl) (?_))))))))))))
    refine WL_nil (hK5 _ ?_)
    clear hK5 K5
    refine W_seq (fun K6 hK6 => ?_)
    refine W_region (WL_cons rfl (WX_lit G 8 rfl rfl rfl rfl rfl rfl rfl rfl (WL_cons rfl (WX_q rfl rfl (q_field_ptr G rfl rfl rfl rfl) (WL_cons rfl (WX_q rfl rfl (q_lst (q_load_box G rfl rfl rfl rfl rfl rfl rfl)) (WL_cons rfl (?_))))))))
    refine WX_append G np rfl rfl rfl rfl rfl rfl rfl rfl rfl (by simp; omega) rfl rfl ?_
    refine WL_cons rfl (WX_q rfl rfl (q_field_ptr G rfl rfl rfl rfl) (WL_cons rfl (WX_store G rfl rfl rfl rfl rfl rfl rfl rfl rfl rfl rfl (?_))))
    refine WL_nil (hK6 _ ?_)
    clear hK6 K6
    refine W_seq (fun K7 hK7 => ?_)
    refine W_region (WL_cons rfl (WX_lit G 9 rfl rfl rfl rfl rfl rfl rfl rfl (WL_cons rfl (WX_q rfl rfl (q_field_ptr G rfl rfl rfl rfl) (WL_cons rfl (WX_q rfl rfl (q_lst (q_load_box G rfl rfl rfl rfl rfl rfl rfl)) (WL_cons rfl (?_))))))))
    refine WX_append G np rfl rfl rfl rfl rfl rfl rfl rfl rfl (by simp; omega) rfl rfl ?_
    refine WL_cons rfl (WX_q rfl rfl (q_field_ptr G rfl rfl rfl rfl) (WL_cons rfl (WX_store G rfl rfl rfl rfl rfl rfl rfl rfl rfl rfl rfl (?_))))
    refine WL_nil (hK7 _ ?_)
    clear hK7 K7
    refine W_seq (fun K8 hK8 => ?_)
    refine W_seq (fun K9 hK9 => ?_)
    refine W_region (WL_cons rfl (WX_q rfl rfl (q_assign rfl rfl) (?_)))
    refine WL_nil (hK9 _ ?_)
    clear hK9 K9
    refine W_block ?_
    refine W_loopK [0, 3, 4, 6] [0, 1, 2, 6, 7, 8] (fun (k : Nat) => [(8, .v (.int .i64 (k : Int)))]) (fun (k : Nat) => [(5, some (.nest 113 4 ((over (moI rs a) (List.replicate a.ma.length ifc0) k).map (encIf 154 183)) []))]) (fun (k : Nat) => k ≤ a.ma.length) (fun (k : Nat) => a.ma.length - k) 0 rfl rfl ?_ ?_ ?_ ?_
    · exact Nat.zero_le _
    · exact ⟨⟨_, rfl, by rfl⟩, rfl, trivial⟩
    · exact ⟨⟨_, rfl, by rfl⟩, rfl, rfl, trivial⟩
    · intro k hk
      have hkl := @ovI_len _ _ _ (moI rs a) (encIf 154 183) a.ma.length k ifc0 hk
      simp only [List.cons_append, List.nil_append]
      refine W_seq (fun K10 hK10 => ?_)
      refine W_seq (fun K11 hK11 => ?_)
      refine W_region (WL_cons rfl (WX_q rfl rfl (q_move rfl rfl) (WL_cons rfl (WX_q rfl rfl (q_field_ptr G rfl rfl rfl rfl) (WL_cons rfl (WX_q rfl rfl (q_lst (q_load_box G rfl rfl rfl rfl rfl rfl rfl)) (WL_cons rfl (?_))))))))
      first | refine WX_q rfl rfl (q_len' G rfl rfl rfl rfl (List.length_map _)) ?_ | refine WX_q rfl rfl (q_len G rfl rfl rfl rfl) ?_
      refine WL_cons rfl (WX_q rfl rfl (q_cmp rfl rfl rfl rfl) (?_))
      refine WL_nil (hK11 _ ?_)
      clear hK11 K11
      refine W_cond rfl (fun h2 => ?_) (fun h2 => ?_)
      · try rw [h2]
        try simp only [rfb] at h2
        have hS := abs_stk h1 (k := k) (by omega)
        have hX0 : IfF (stkI rs (a.st.getD k default)) := (by have := hS.take (n := (a.st.getD k default).length) (Nat.le_refl _); rw [List.take_length] at this; exact this)
        refine W_skip (hK10 _ ?_)
        clear hK10 K10
        refine W_seq (fun K12 hK12 => ?_)
        refine W_block ?_
        refine W_seq (fun K13 hK13 => ?_)
        refine W_gh (Gh.open (id := 5) (i := k) (k := 1) 10 rfl rfl (ovI_get (by omega)) rfl rfl) ?_
        refine W_gh (Gh.open (id := 5) (i := k) (k := 2) 11 rfl rfl (setX (by (try simp only [List.length_set]); omega) rfl) rfl rfl) ?_
        refine W_gh (Gh.open (id := 5) (i := k) (k := 3) 12 rfl rfl (setX (by (try simp only [List.length_set]); omega) rfl) rfl rfl) ?_
        refine W_region (WL_cons rfl (WX_q rfl rfl (q_field_ptr G rfl rfl rfl rfl) (WL_cons rfl (WX_q rfl rfl (q_load_box G rfl rfl rfl rfl rfl rfl rfl) (WL_cons rfl (WX_q rfl rfl (q_move rfl rfl) (WL_cons rfl (?_))))))))
        first | refine WX_q rfl rfl (q_index_nest G rfl rfl rfl rfl rfl (by omega) (by omega)) ?_ | refine WX_q rfl rfl (q_index_nest G rfl rfl rfl rfl rfl (by omega) (by simp only [List.length_set]; omega)) ?_
        refine WL_cons rfl (?_)
        refine WX_q rfl rfl (q_load_nest_struct G rfl rfl rfl rfl (setX (by (try simp only [List.length_set]); omega) rfl) rfl (.v (.own (by first | exact List.Mem.head _ | exact List.Mem.tail _ (List.Mem.head _) | exact List.Mem.tail _ (List.Mem.tail _ (List.Mem.head _)) | simp) (.own (by first | exact List.Mem.head _ | exact List.Mem.tail _ (List.Mem.head _) | exact List.Mem.tail _ (List.Mem.tail _ (List.Mem.head _)) | simp) (.own (by first | exact List.Mem.head _ | exact List.Mem.tail _ (List.Mem.head _) | exact List.Mem.tail _ (List.Mem.tail _ (List.Mem.head _)) | simp) .nil))))) ?_
        refine WL_cons rfl (WX_alloc_s G 13 rfl rfl rfl rfl rfl (WL_cons rfl (WX_store G rfl rfl rfl rfl rfl rfl rfl rfl rfl rfl rfl (?_))))
        refine WL_nil (hK13 _ ?_)
        clear hK13 K13
        refine W_seq (fun K14 hK14 => ?_)
        refine W_seq (fun K15 hK15 => ?_)
        refine W_gh (Gh.detach (id := 5) rfl) ?_
        refine W_gh (Gh.detach (id := 5) rfl) ?_
        refine W_gh (Gh.detach (id := 5) rfl) ?_
        refine W_region (WL_cons rfl (WX_q rfl rfl (q_assign rfl rfl) (?_)))
        refine WL_nil (hK15 _ ?_)
        clear hK15 K15
        refine W_block ?_
        refine W_loopK [0, 3, 4, 6, 8, 9] [0, 1, 2, 5, 6, 7, 8] (fun (i : Nat) => [(10, .v (.int .i64 (i : Int)))]) (fun (i : Nat) => [(9, some (.row 3 1 ((stkI rs ((a.st.getD k default).take i)).st.map encI))), (10, some (.row 154 3 ((stkI rs ((a.st.getD k default).take i)).qu.sl.map encSl))), (11, some (.row 183 2 ((stkI rs ((a.st.getD k default).take i)).qu.wa.map encWa))), (12, some (.box [.v (.int .i64 (stkI rs ((a.st.getD k default).take i)).ma), .own 9, .own 10, .own 11]))]) (fun (i : Nat) => i ≤ (a.st.getD k default).length) (fun (i : Nat) => (a.st.getD k default).length - i) 0 rfl rfl ?_ ?_ ?_ ?_
        · exact Nat.zero_le _
        · exact ⟨⟨_, rfl, by rfl⟩, rfl, trivial⟩
        · exact ⟨⟨_, rfl, by rfl⟩, rfl, rfl, ⟨⟨_, rfl, by rfl⟩, rfl, rfl, ⟨⟨_, rfl, by rfl⟩, rfl, rfl, ⟨⟨_, rfl, by rfl⟩, rfl, rfl, trivial⟩⟩⟩⟩
        · intro i hi
          have hX := hS.take hi
          have hLn := hS.n
          simp only [List.cons_append, List.nil_append]
          refine W_seq (fun K16 hK16 => ?_)
          refine W_seq (fun K17 hK17 => ?_)
          refine W_region (WL_cons rfl (WX_q rfl rfl (q_move rfl rfl) (WL_cons rfl (WX_q rfl rfl (q_field_ptr G rfl rfl rfl rfl) (WL_cons rfl (WX_q rfl rfl (q_nst (q_load_box G rfl rfl rfl rfl rfl rfl rfl)) (WL_cons rfl (WX_q rfl rfl (q_move rfl rfl) (WL_cons rfl (?_))))))))))
          first | refine WX_q rfl rfl (q_index_nst G rfl rfl rfl rfl (by omega) (getN (by omega)) rfl) ?_ | refine WX_q rfl rfl (q_index_nst G rfl rfl rfl rfl (by omega) (getNI (by omega) (by omega)) rfl) ?_
          refine WL_cons rfl (WX_q rfl rfl (q_load_eptN G rfl rfl rfl rfl) (WL_cons rfl (?_)))
          first | refine WX_q rfl rfl (q_len' G rfl rfl rfl rfl (List.length_map _)) ?_ | refine WX_q rfl rfl (q_len G rfl rfl rfl rfl) ?_
          refine WL_cons rfl (WX_q rfl rfl (q_cmp rfl rfl rfl rfl) (?_))
          refine WL_nil (hK17 _ ?_)
          clear hK17 K17
          refine W_cond rfl (fun h3 => ?_) (fun h3 => ?_)
          · try rw [h3]
            try simp only [rfb] at h3
            obtain ⟨hR1, hR2, hR3, hs4⟩ := hS.step (i := i) (by omega)
            have hel := hS.el i (by omega)
            have hs4i := takIT_t hR3
            refine W_skip (hK16 _ ?_)
            clear hK16 K16
            refine W_seq (fun K18 hK18 => ?_)
            refine W_block ?_
            refine W_seq (fun K19 hK19 => ?_)
            refine W_region (WL_cons rfl (WX_q rfl rfl (q_field_ptr G rfl rfl rfl rfl) (WL_cons rfl (WX_q rfl rfl (q_nst (q_load_box G rfl rfl rfl rfl rfl rfl rfl)) (WL_cons rfl (WX_q rfl rfl (q_move rfl rfl) (WL_cons rfl (?_))))))))
            first | refine WX_q rfl rfl (q_index_nst G rfl rfl rfl rfl (by omega) (getN (by omega)) rfl) ?_ | refine WX_q rfl rfl (q_index_nst G rfl rfl rfl rfl (by omega) (getNI (by omega) (by omega)) rfl) ?_
            refine WL_cons rfl (WX_q rfl rfl (q_load_eptN G rfl rfl rfl rfl) (WL_cons rfl (WX_q rfl rfl (q_move rfl rfl) (WL_cons rfl (?_)))))
            first | refine WX_q rfl rfl (q_index_lst G rfl rfl rfl rfl (by omega) (getN (by omega))) ?_ | refine WX_q rfl rfl (q_index_lst G rfl rfl rfl rfl (by omega) (getNI (by omega) (by omega))) ?_
            refine WL_cons rfl (WX_q rfl rfl (q_load_ept G rfl rfl rfl rfl rfl) (WL_cons rfl (WX_q rfl rfl (q_assign rfl rfl) (?_))))
            refine WL_nil (hK19 _ ?_)
            clear hK19 K19
            refine W_drawsH 13 [0, 1, 2, 5, 6, 7, 8, 9, 10, 11] mixed (by kernel_rfl) rfl rfl (fun r0 => ?_) (fun _ h => h)
            refine WA_take 1 rfl (by kernel_rfl) (by kernel_rfl) rfl rfl rfl rfl (q_move rfl rfl) (WA_take 2 rfl (by kernel_rfl) (by kernel_rfl) rfl rfl rfl rfl (q_move rfl rfl) (WA_take 3 rfl (by kernel_rfl) (by kernel_rfl) rfl rfl rfl rfl (q_move rfl rfl) (?_)))
            first | refine WA_take 4 rfl (by kernel_rfl) (by kernel_rfl) rfl rfl rfl rfl (q_index_lst G rfl rfl rfl rfl (by omega) (getN (by omega))) ?_ | refine WA_take 4 rfl (by kernel_rfl) (by kernel_rfl) rfl rfl rfl rfl (q_index_lst G rfl rfl rfl rfl (by omega) (getNI (by omega) (by omega))) ?_
            refine WA_take 5 rfl (by kernel_rfl) (by kernel_rfl) rfl rfl rfl rfl (q_field_ept G rfl rfl rfl rfl) (WA_take 6 rfl (by kernel_rfl) (by kernel_rfl) rfl rfl rfl rfl (q_load_ept G rfl rfl rfl rfl rfl) (?_))
            refine WA_branch (rs := [0]) (by kernel_rfl) rfl (AllB.cons ?_ AllB.nil)
            refine WB_run [0, 1, 2, 5, 6, 7, 8, 9, 10, 11] rfl rfl (WX_q rfl rfl (q_load_box_struct G rfl rfl rfl rfl rfl rfl) (WL_nil ⟨rfl, ?_⟩))
            refine WA_branch (rs := [7]) (by kernel_rfl) rfl (AllB.cons ?_ AllB.nil)
            refine WB_run [0, 1, 2, 5, 6, 7, 8, 9, 10, 11] rfl rfl (WX_call 16 rfl rfl rfl (ArgsOK.of rfl) (c_spec_l10Raise _ _ _ hX hel.1 hel.2) rfl rfl (WL_nil ⟨rfl, ?_⟩))
            refine WA_branch (rs := [8]) (by kernel_rfl) rfl (AllB.cons ?_ AllB.nil)
            refine WB_run [0, 1, 2, 5, 6, 7, 8, 9, 10, 11] rfl rfl (WX_call 19 rfl rfl rfl (ArgsOK.of rfl) (c_spec_l10Take _ hR1 hR3) rfl rfl (WL_nil ⟨rfl, ?_⟩))
            refine WA_take 9 rfl (by kernel_rfl) (by kernel_rfl) rfl rfl rfl rfl (q_move rfl rfl) (WA_take 10 rfl (by kernel_rfl) (by kernel_rfl) rfl rfl rfl rfl (q_extract rfl rfl rfl) (WA_take 11 rfl (by kernel_rfl) (by kernel_rfl) rfl rfl rfl rfl (q_extract rfl rfl rfl) (?_)))
            refine WA_branch (rs := [12]) (by kernel_rfl) rfl (AllB.cons ?_ AllB.nil)
            refine WB_run [0, 1, 2, 5, 6, 7, 8, 9, 10, 11] rfl rfl (WX_store G rfl rfl rfl rfl rfl rfl rfl rfl rfl rfl rfl (WL_nil ⟨rfl, ?_⟩))
            refine WA_end (by kernel_rfl) (hK18 _ ?_)
            clear hK18 K18
            refine W_region (WL_cons rfl (WX_q rfl rfl (q_move rfl rfl) (WL_cons rfl (?_))))
            first | refine WX_q rfl rfl (q_arith rfl rfl rfl rfl (by omega) (by omega)) ?_ | refine WX_q rfl rfl (q_wrap rfl rfl rfl rfl) ?_
            refine WL_cons rfl (WX_q rfl rfl (q_assign rfl rfl) (?_))
            refine WL_gh (Gh.sub 16 9 np rfl rfl rfl) ?_
            refine WL_gh (Gh.sub 17 10 np rfl rfl rfl) ?_
            refine WL_gh (Gh.sub 18 11 np rfl rfl rfl) ?_
            refine WL_nil ⟨(i + 1), ?_, ?_, ⟨⟨_, rfl, by rfl⟩, rfl, trivial⟩, ⟨⟨_, rfl, by (first | rfl | (rw [hs4]; done) | (rw [hs4]; rfl) | (rw [hs4i, hs4]; done) | (rw [hs4i, hs4]; rfl))⟩, rfl, rfl, ⟨⟨_, rfl, by (first | rfl | (rw [hs4]; done) | (rw [hs4]; rfl) | (rw [hs4i, hs4]; done) | (rw [hs4i, hs4]; rfl))⟩, rfl, rfl, ⟨⟨_, rfl, by (first | rfl | (rw [hs4]; done) | (rw [hs4]; rfl) | (rw [hs4i, hs4]; done) | (rw [hs4i, hs4]; rfl))⟩, rfl, rfl, ⟨⟨_, rfl, by (first | rfl | (rw [hs4]; done) | (rw [hs4]; rfl) | (rw [hs4i, hs4]; done) | (rw [hs4i, hs4]; rfl))⟩, rfl, rfl, trivial⟩⟩⟩⟩, rfl, rfl, rfl⟩
            · omega
            · omega
          · try rw [h3]
            try simp only [rfb] at h3
            have hXe : stkI rs ((a.st.getD k default).take i) = stkI rs (a.st.getD k default) := (by rw [List.take_of_length_le (by omega)])
            refine W_exit (hK14 _ ?_)
            clear hK16 K16 hK14 K14
            refine W_seq (fun K20 hK20 => ?_)
            refine W_seq (fun K21 hK21 => ?_)
            refine W_region (WL_cons rfl (WX_q rfl rfl (q_assign rfl rfl) (?_)))
            refine WL_nil (hK21 _ ?_)
            clear hK21 K21
            refine W_block ?_
            refine W_loopK [0, 3, 4, 6, 8, 9] [0, 1, 2, 5, 6, 7, 8] (fun (i : Nat) => [(12, .v (.int .i64 (i : Int)))]) (fun (i : Nat) => [(9, some (.row 3 1 ((pstI rs a.po k (stkI rs (a.st.getD k default)) i).st.map encI))), (10, some (.row 154 3 ((pstI rs a.po k (stkI rs (a.st.getD k default)) i).qu.sl.map encSl))), (11, some (.row 183 2 ((pstI rs a.po k (stkI rs (a.st.getD k default)) i).qu.wa.map encWa))), (12, some (.box [.v (.int .i64 (pstI rs a.po k (stkI rs (a.st.getD k default)) i).ma), .own 9, .own 10, .own 11]))]) (fun (i : Nat) => i ≤ 8) (fun (i : Nat) => 8 - i) 0 rfl rfl ?_ ?_ ?_ ?_
            · exact Nat.zero_le _
            · exact ⟨⟨_, rfl, by rfl⟩, rfl, trivial⟩
            · exact ⟨⟨_, rfl, by (first | rfl | (rw [hXe]; done) | (rw [hXe]; rfl))⟩, rfl, rfl, ⟨⟨_, rfl, by (first | rfl | (rw [hXe]; done) | (rw [hXe]; rfl))⟩, rfl, rfl, ⟨⟨_, rfl, by (first | rfl | (rw [hXe]; done) | (rw [hXe]; rfl))⟩, rfl, rfl, ⟨⟨_, rfl, by (first | rfl | (rw [hXe]; done) | (rw [hXe]; rfl))⟩, rfl, rfl, trivial⟩⟩⟩⟩
            · intro i hi
              have hY := pstI_F (po := a.po) (k := k) hX0 (fun i hi => (hr8.2.2 i hi).1) i hi
              have hpr := fun h => (hr8.2.2 i h).1
              simp only [List.cons_append, List.nil_append]
              refine W_seq (fun K22 hK22 => ?_)
              refine W_seq (fun K23 hK23 => ?_)
              refine W_region (WL_cons rfl (WX_q rfl rfl (q_move rfl rfl) (WL_cons rfl (WX_q rfl rfl (q_cmp rfl rfl rfl rfl) (?_)))))
              refine WL_nil (hK23 _ ?_)
              clear hK23 K23
              refine W_cond rfl (fun h4 => ?_) (fun h4 => ?_)
              · try rw [h4]
                try simp only [rfb] at h4
                refine W_skip (hK22 _ ?_)
                clear hK22 K22
                refine W_seq (fun K24 hK24 => ?_)
                refine W_block ?_
                refine W_seq (fun K25 hK25 => ?_)
                refine W_region (WL_cons rfl (WX_q rfl rfl (q_field_ptr G rfl rfl rfl rfl) (WL_cons rfl (WX_q rfl rfl (q_lst (q_load_box G rfl rfl rfl rfl rfl rfl rfl)) (WL_cons rfl (WX_q rfl rfl (q_move rfl rfl) (WL_cons rfl (?_))))))))
                first | refine WX_q rfl rfl (q_index_lst G rfl rfl rfl rfl (by omega) (getN (by omega))) ?_ | refine WX_q rfl rfl (q_index_lst G rfl rfl rfl rfl (by omega) (getNI (by omega) (by omega))) ?_
                refine WL_cons rfl (WX_q rfl rfl (q_load_ept G rfl rfl rfl rfl rfl) (WL_cons rfl (WX_q rfl rfl (q_move rfl rfl) (WL_part rfl rfl rfl (fun h5 => ?_) (fun h5 => ?_)))))
                · try rw [h5]
                  try simp only [rfb] at h5
                  refine WL_run rfl rfl rfl (WX_q rfl rfl (q_move rfl rfl) (WL_run rfl rfl rfl (WX_q rfl rfl (q_move rfl rfl) (WL_run rfl rfl rfl (?_)))))
                  first | refine WX_q rfl rfl (q_index_lst G rfl rfl rfl rfl (by omega) (getN (by omega))) ?_ | refine WX_q rfl rfl (q_index_lst G rfl rfl rfl rfl (by omega) (getNI (by omega) (by omega))) ?_
                  refine WL_run rfl rfl rfl (WX_q rfl rfl (q_field_ept G rfl rfl rfl rfl) (WL_run rfl rfl rfl (WX_q rfl rfl (q_load_ept G rfl rfl rfl rfl rfl) (WL_run rfl rfl rfl (WX_q rfl rfl (q_move rfl rfl) (WL_run rfl rfl rfl (WX_q rfl rfl (q_cmp rfl rfl rfl rfl) (WL_cons rfl (WX_q rfl rfl (q_pick_t rfl rfl rfl) (?_))))))))))
                  refine WL_nil (hK25 _ ?_)
                  clear hK25 K25
                  refine W_cond rfl (fun h6 => ?_) (fun h6 => ?_)
                  · try rw [h6]
                    try simp only [rfb] at h6
                    refine W_drawsH 9 [0, 1, 2, 5, 6, 7, 8, 9, 10, 11] mixed (by kernel_rfl) rfl rfl (fun r0 => ?_) (fun _ h => h)
                    refine WA_take 1 rfl (by kernel_rfl) (by kernel_rfl) rfl rfl rfl rfl (q_move rfl rfl) (WA_take 2 rfl (by kernel_rfl) (by kernel_rfl) rfl rfl rfl rfl (q_move rfl rfl) (WA_take 3 rfl (by kernel_rfl) (by kernel_rfl) rfl rfl rfl rfl (q_move rfl rfl) (?_)))
                    first | refine WA_take 4 rfl (by kernel_rfl) (by kernel_rfl) rfl rfl rfl rfl (q_index_lst G rfl rfl rfl rfl (by omega) (getN (by omega))) ?_ | refine WA_take 4 rfl (by kernel_rfl) (by kernel_rfl) rfl rfl rfl rfl (q_index_lst G rfl rfl rfl rfl (by omega) (getNI (by omega) (by omega))) ?_
                    refine WA_take 5 rfl (by kernel_rfl) (by kernel_rfl) rfl rfl rfl rfl (q_field_ept G rfl rfl rfl rfl) (WA_take 6 rfl (by kernel_rfl) (by kernel_rfl) rfl rfl rfl rfl (q_load_ept G rfl rfl rfl rfl rfl) (?_))
                    refine WA_branch (rs := [0]) (by kernel_rfl) rfl (AllB.cons ?_ AllB.nil)
                    refine WB_run [0, 1, 2, 5, 6, 7, 8, 9, 10, 11] rfl rfl (WX_q rfl rfl (q_load_box_struct G rfl rfl rfl rfl rfl rfl) (WL_nil ⟨rfl, ?_⟩))
                    refine WA_branch (rs := [7]) (by kernel_rfl) rfl (AllB.cons ?_ AllB.nil)
                    refine WB_run [0, 1, 2, 5, 6, 7, 8, 9, 10, 11] rfl rfl (WX_call 16 rfl rfl rfl (ArgsOK.of rfl) (c_spec_l10Raise _ _ _ hY (by omega) (hpr (by omega))) rfl rfl (WL_nil ⟨rfl, ?_⟩))
                    refine WA_branch (rs := [8]) (by kernel_rfl) rfl (AllB.cons ?_ AllB.nil)
                    refine WB_run [0, 1, 2, 5, 6, 7, 8, 9, 10, 11] rfl rfl (WX_store G rfl rfl rfl rfl rfl rfl rfl rfl rfl rfl rfl (WL_nil ⟨rfl, ?_⟩))
                    refine WA_end (by kernel_rfl) (hK24 _ ?_)
                    clear hK24 K24
                    refine W_region (WL_cons rfl (WX_q rfl rfl (q_move rfl rfl) (WL_cons rfl (?_))))
                    first | refine WX_q rfl rfl (q_arith rfl rfl rfl rfl (by omega) (by omega)) ?_ | refine WX_q rfl rfl (q_wrap rfl rfl rfl rfl) ?_
                    refine WL_cons rfl (WX_q rfl rfl (q_assign rfl rfl) (?_))
                    refine WL_gh (Gh.sub 13 9 np rfl rfl rfl) ?_
                    refine WL_gh (Gh.sub 14 10 np rfl rfl rfl) ?_
                    refine WL_gh (Gh.sub 15 11 np rfl rfl rfl) ?_
                    refine WL_nil ⟨(i + 1), ?_, ?_, ⟨⟨_, rfl, by rfl⟩, rfl, trivial⟩, ⟨⟨_, rfl, by (first | rfl | (rw [pstI_t (by assumption) (by omega)]; done) | (rw [pstI_t (by assumption) (by omega)]; rfl) | (rw [pstI_f (by simp_all)]; done) | (rw [pstI_f (by simp_all)]; rfl))⟩, rfl, rfl, ⟨⟨_, rfl, by (first | rfl | (rw [pstI_t (by assumption) (by omega)]; done) | (rw [pstI_t (by assumption) (by omega)]; rfl) | (rw [pstI_f (by simp_all)]; done) | (rw [pstI_f (by simp_all)]; rfl))⟩, rfl, rfl, ⟨⟨_, rfl, by (first | rfl | (rw [pstI_t (by assumption) (by omega)]; done) | (rw [pstI_t (by assumption) (by omega)]; rfl) | (rw [pstI_f (by simp_all)]; done) | (rw [pstI_f (by simp_all)]; rfl))⟩, rfl, rfl, ⟨⟨_, rfl, by (first | rfl | (rw [pstI_t (by assumption) (by omega)]; done) | (rw [pstI_t (by assumption) (by omega)]; rfl) | (rw [pstI_f (by simp_all)]; done) | (rw [pstI_f (by simp_all)]; rfl))⟩, rfl, rfl, trivial⟩⟩⟩⟩, rfl, rfl, rfl⟩
                    · omega
                    · omega
                  · try rw [h6]
                    try simp only [rfb] at h6
                    refine W_skip (hK24 _ ?_)
                    clear hK24 K24
                    refine W_region (WL_cons rfl (WX_q rfl rfl (q_move rfl rfl) (WL_cons rfl (?_))))
                    first | refine WX_q rfl rfl (q_arith rfl rfl rfl rfl (by omega) (by omega)) ?_ | refine WX_q rfl rfl (q_wrap rfl rfl rfl rfl) ?_
                    refine WL_cons rfl (WX_q rfl rfl (q_assign rfl rfl) (?_))
                    refine WL_nil ⟨(i + 1), ?_, ?_, ⟨⟨_, rfl, by rfl⟩, rfl, trivial⟩, ⟨⟨_, rfl, by (first | rfl | (rw [pstI_t (by assumption) (by omega)]; done) | (rw [pstI_t (by assumption) (by omega)]; rfl) | (rw [pstI_f (by simp_all)]; done) | (rw [pstI_f (by simp_all)]; rfl))⟩, rfl, rfl, ⟨⟨_, rfl, by (first | rfl | (rw [pstI_t (by assumption) (by omega)]; done) | (rw [pstI_t (by assumption) (by omega)]; rfl) | (rw [pstI_f (by simp_all)]; done) | (rw [pstI_f (by simp_all)]; rfl))⟩, rfl, rfl, ⟨⟨_, rfl, by (first | rfl | (rw [pstI_t (by assumption) (by omega)]; done) | (rw [pstI_t (by assumption) (by omega)]; rfl) | (rw [pstI_f (by simp_all)]; done) | (rw [pstI_f (by simp_all)]; rfl))⟩, rfl, rfl, ⟨⟨_, rfl, by (first | rfl | (rw [pstI_t (by assumption) (by omega)]; done) | (rw [pstI_t (by assumption) (by omega)]; rfl) | (rw [pstI_f (by simp_all)]; done) | (rw [pstI_f (by simp_all)]; rfl))⟩, rfl, rfl, trivial⟩⟩⟩⟩, rfl, rfl, rfl⟩
                    · omega
                    · omega
                · try rw [h5]
                  try simp only [rfb] at h5
                  refine WL_skip rfl rfl rfl rfl rfl rfl (WL_skip rfl rfl rfl rfl rfl rfl (WL_skip rfl rfl rfl rfl rfl rfl (WL_skip rfl rfl rfl rfl rfl rfl (WL_skip rfl rfl rfl rfl rfl rfl (WL_skip rfl rfl rfl rfl rfl rfl (WL_skip rfl rfl rfl rfl rfl rfl (WL_cons rfl (WX_q rfl rfl (q_pick_f rfl rfl rfl) (?_)))))))))
                  refine WL_nil (hK25 _ ?_)
                  clear hK25 K25
                  refine W_false rfl ?_
                  refine W_skip (hK24 _ ?_)
                  clear hK24 K24
                  refine W_region (WL_cons rfl (WX_q rfl rfl (q_move rfl rfl) (WL_cons rfl (?_))))
                  first | refine WX_q rfl rfl (q_arith rfl rfl rfl rfl (by omega) (by omega)) ?_ | refine WX_q rfl rfl (q_wrap rfl rfl rfl rfl) ?_
                  refine WL_cons rfl (WX_q rfl rfl (q_assign rfl rfl) (?_))
                  refine WL_nil ⟨(i + 1), ?_, ?_, ⟨⟨_, rfl, by rfl⟩, rfl, trivial⟩, ⟨⟨_, rfl, by (first | rfl | (rw [pstI_t (by assumption) (by omega)]; done) | (rw [pstI_t (by assumption) (by omega)]; rfl) | (rw [pstI_f (by simp_all)]; done) | (rw [pstI_f (by simp_all)]; rfl))⟩, rfl, rfl, ⟨⟨_, rfl, by (first | rfl | (rw [pstI_t (by assumption) (by omega)]; done) | (rw [pstI_t (by assumption) (by omega)]; rfl) | (rw [pstI_f (by simp_all)]; done) | (rw [pstI_f (by simp_all)]; rfl))⟩, rfl, rfl, ⟨⟨_, rfl, by (first | rfl | (rw [pstI_t (by assumption) (by omega)]; done) | (rw [pstI_t (by assumption) (by omega)]; rfl) | (rw [pstI_f (by simp_all)]; done) | (rw [pstI_f (by simp_all)]; rfl))⟩, rfl, rfl, ⟨⟨_, rfl, by (first | rfl | (rw [pstI_t (by assumption) (by omega)]; done) | (rw [pstI_t (by assumption) (by omega)]; rfl) | (rw [pstI_f (by simp_all)]; done) | (rw [pstI_f (by simp_all)]; rfl))⟩, rfl, rfl, trivial⟩⟩⟩⟩, rfl, rfl, rfl⟩
                  · omega
                  · omega
              · try rw [h4]
                try simp only [rfb] at h4
                obtain rfl : i = 8 := (by omega)
                refine W_exit (hK20 _ ?_)
                clear hK22 K22 hK20 K20
                refine W_seq (fun K26 hK26 => ?_)
                refine W_region (WL_cons rfl (WX_q rfl rfl (q_field_ptr G rfl rfl rfl rfl) (WL_cons rfl (WX_q rfl rfl (q_lst (q_load_box G rfl rfl rfl rfl rfl rfl rfl)) (WL_cons rfl (WX_q rfl rfl (q_move rfl rfl) (WL_cons rfl (?_))))))))
                first | refine WX_q rfl rfl (q_index_lst G rfl rfl rfl rfl (by omega) (getN (by omega))) ?_ | refine WX_q rfl rfl (q_index_lst G rfl rfl rfl rfl (by omega) (getNI (by omega) (by omega))) ?_
                refine WL_cons rfl (WX_q rfl rfl (q_load_ept G rfl rfl rfl rfl rfl) (WL_cons rfl (WX_q rfl rfl (q_field_ptr G rfl rfl rfl rfl) (WL_cons rfl (WX_store G rfl rfl rfl rfl rfl rfl rfl rfl rfl rfl rfl (?_))))))
                refine WL_nil (hK26 _ ?_)
                clear hK26 K26
                refine W_region (WL_cons rfl (WX_q rfl rfl (q_field_ptr G rfl rfl rfl rfl) (WL_cons rfl (WX_q rfl rfl (q_load_box G rfl rfl rfl rfl rfl rfl rfl) (WL_cons rfl (WX_q rfl rfl (q_move rfl rfl) (WL_cons rfl (WX_q rfl rfl (q_load_box_struct G rfl rfl rfl rfl rfl rfl) (WL_cons rfl (?_))))))))))
                first | refine WX_q rfl rfl (q_index_nest G rfl rfl rfl rfl rfl (by omega) (by omega)) ?_ | refine WX_q rfl rfl (q_index_nest G rfl rfl rfl rfl rfl (by omega) (by simp only [List.length_set]; omega)) ?_
                refine WL_cons rfl (?_)
                refine WX_store_nest G rfl rfl rfl rfl rfl (setX (by (try simp only [List.length_set]); omega) rfl) rfl rfl (.v rfl (.own rfl (.own rfl (.own rfl .nil)))) rfl rfl rfl (Nat.le_of_ble_eq_true rfl) (fun q h => by cases h) rfl ?_
                refine WL_nil (hK12 _ ?_)
                clear hK12 K12
                refine W_region (WL_cons rfl (WX_q rfl rfl (q_move rfl rfl) (WL_cons rfl (?_))))
                first | refine WX_q rfl rfl (q_arith rfl rfl rfl rfl (by omega) (by omega)) ?_ | refine WX_q rfl rfl (q_wrap rfl rfl rfl rfl) ?_
                refine WL_cons rfl (WX_q rfl rfl (q_assign rfl rfl) (?_))
                refine WL_nil ⟨(k + 1), ?_, ?_, ⟨⟨_, rfl, by rfl⟩, rfl, trivial⟩, ⟨⟨_, rfl, by (exact congrArg (fun z => Row.nest _ _ z []) (by simp only [List.set_set, Int.toNat_natCast]; exact ovI_set (by omega) rfl))⟩, rfl, rfl, trivial⟩, rfl, rfl, rfl⟩
                · omega
                · omega
      · try rw [h2]
        try simp only [rfb] at h2
        refine W_exit (hK8 _ ?_)
        clear hK10 K10 hK8 K8
        refine W_seq (fun K27 hK27 => ?_)
        refine W_region (WL_cons rfl (WX_q rfl rfl (q_load_box_struct G rfl rfl rfl rfl rfl rfl) (WL_cons rfl (WX_store G rfl rfl rfl rfl rfl rfl rfl rfl rfl rfl rfl (WL_cons rfl (WX_q rfl rfl (q_assign rfl rfl) (?_)))))))
        refine WL_nil (hK27 _ ?_)
        clear hK27 K27
        refine W_ret (fin_shp rfl rfl rfl rfl (rcs_cons (rc_own rfl ?_) (rcs_cons (rc_own rfl ?_) (rcs_cons (rc_own rfl ?_) (rcs_cons (rc_ne rfl ?_) (rcs_cons (rc_v ?_) rcs_nil))))))
        all_goals (first | (rw [moT_f h1]; done) | (rw [moT_f h1]; rfl) | (rw [hM]; done) | (rw [hM]; rfl) | (have ek : k = a.ma.length := (by omega); subst ek; rw [hM, ovI_all]; rfl))

set_option maxHeartbeats 2000000 in
theorem c_impl_MachineOf (rs : List Route) (a : Abs) (hs : SmallA a) (hn : rs.length ≤ 1048576) : Ctr Tryz.prog 25 [.lst 2 (rs.map encRo), .agg [.lst 1 (a.en.map encO), .lst 1 (a.ra.map encO), .lst 1 (a.po.map encO), .lst 1 (a.ma.map encI), .nst none 1 (a.st.map encSt)]] (.shp false [some 4, none] [.fr 118 2 ((moT rs a).1.rs.map encRo), .fr 4 1 ((moT rs a).1.en.map encO), .fr 4 1 ((moT rs a).1.ra.map encO), .ne 113 4 ((moT rs a).1.cp.map (encIf 154 183)), .v (.bool (moT rs a).2)]) := by
  refine Ctr.of (n := 109) G Tryz.func25 rfl (by kernel_rfl) rfl rfl rfl (fun w0 => ?_)
  refine W_pinS 1 rfl (fun _ => rfl) (fun u1 => ?_)
  refine W_seq (fun K1 hK1 => ?_)
  refine W_region (WL_cons rfl (WX_box 1 rfl rfl rfl rfl rfl rfl rfl (WL_cons rfl (WX_alloc_s G 2 rfl rfl rfl rfl rfl (WL_cons rfl (WX_q rfl rfl (q_assign rfl rfl) (?_)))))))
  refine WL_nil (hK1 _ ?_)
  clear hK1 K1
  refine W_seq (fun K2 hK2 => ?_)
  refine W_seq (fun K3 hK3 => ?_)
  refine W_region (WL_cons rfl (WX_q rfl rfl (q_move rfl rfl) (WL_cons rfl (WX_q rfl rfl (q_load_box_struct G rfl rfl rfl rfl rfl rfl) (WL_cons rfl (?_))))))
  refine WX_q rfl rfl (q_call rfl (ArgsOK.of rfl) (c_impl_IsAbstract rs a hs hn) rfl) ?_
  refine WL_cons rfl (WX_q rfl rfl (q_not rfl rfl) (?_))
  refine WL_nil (hK3 _ ?_)
  clear hK3 K3
  refine W_cond rfl (fun h1 => ?_) (fun h1 => ?_)
  · try rw [h1]
    try simp only [rfb] at h1
    refine W_seq (fun K4 hK4 => ?_)
    refine W_region (WL_cons rfl (WX_q rfl rfl (q_build G rfl rfl rfl rfl) (WL_cons rfl (WX_store G rfl rfl rfl rfl rfl rfl rfl rfl rfl rfl rfl (WL_cons rfl (WX_q rfl rfl (q_assign rfl rfl) (?_)))))))
    refine WL_nil (hK4 _ ?_)
    clear hK4 K4
    refine W_ret (fin_shp rfl rfl rfl rfl (rcs_cons (rc_nil ?_) (rcs_cons (rc_nil ?_) (rcs_cons (rc_nil ?_) (rcs_cons (rc_niln ?_) (rcs_cons (rc_v ?_) rcs_nil))))))
    all_goals clear hK2 K2
    all_goals (first | (rw [moT_f h1]; done) | (rw [moT_f h1]; rfl) | (rw [hM]; done) | (rw [hM]; rfl) | (have ek : k = a.ma.length := (by omega); subst ek; rw [hM, ovI_all]; rfl))
  · try rw [h1]
    try simp only [rfb] at h1
    have hM := moT_t h1
    have hF := absF h1
    have hor : okRts rs a.ma.length = true := (by simp only [absOK, Bool.and_eq_true] at h1; exact h1.1)
    have hr8 := okRts_iff.mp hor
    have hN := newMT_t (rs := rs) (c := (a.ma.length : Int)) hor
    have cN := c_impl_NewMachine rs (a.ma.length : Int) hn
    rw [hN] at cN
    dsimp only at cN
    have hNl : (newM rs ((a.ma.length : Int)).toNat).cp.length = a.ma.length := (by simp [newM])
    have f0 := hF.n
    have f1 := hF.rn
    have f2 := hF.st
    have f3 := hF.en
    have f4 := hF.ra
    have f5 := hF.po
    refine W_skip (hK2 _ ?_)
    clear hK2 K2
    refine W_seq (fun K5 hK5 => ?_)
    refine W_region (WL_cons rfl (WX_q rfl rfl (q_move rfl rfl) (WL_cons rfl (WX_q rfl rfl (q_field_ptr G rfl rfl rfl rfl) (WL_cons rfl (WX_q rfl rfl (q_lst (q_load_box G rfl rfl rfl rfl rfl rfl rfl)) (WL_cons rfl (?_))))))))
    first | refine WX_q rfl rfl (q_len' G rfl rfl rfl rfl (List.length_map _)) ?_ | refine WX_q rfl rfl (q_len G rfl rfl rfl rfl) ?_
    refine WL_cons rfl (?_)
    refine WX_call 6 rfl rfl rfl (ArgsOK.of rfl) cN rfl rfl ?_
    refine WL_cons rfl (WX_q rfl rfl (q_move rfl rfl) (WL_cons rfl (WX_q rfl rfl (q_extract rfl rfl rfl) (WL_cons rfl (WX_q rfl rfl (q_extract rfl rfl rfl) (WL_cons rfl (WX_alloc_s G 7 rfl rfl rfl rfl rfl (WL_cons rfl (WX_store G rfl rfl rfl rfl rfl rfl rfl rfl rfl rfl rfl (WL_cons rfl (WX_q rfl rfl (q_assign rfl rfl) (?_))))))))))))
    refine WL_nil (hK5 _ ?_)
    clear hK5 K5
    refine W_seq (fun K6 hK6 => ?_)
    refine W_drawsH 12 [0, 1, 2, 3, 4, 5] mixed (by kernel_rfl) rfl rfl (fun r0 => ?_) (fun _ h => h)
    refine WA_take 1 rfl (by kernel_rfl) (by kernel_rfl) rfl rfl rfl rfl (q_field_ptr G rfl rfl rfl rfl) (WA_take 2 rfl (by kernel_rfl) (by kernel_rfl) rfl rfl rfl rfl (q_lst (q_load_box G rfl rfl rfl rfl rfl rfl rfl)) (WA_take 5 rfl (by kernel_rfl) (by kernel_rfl) rfl rfl rfl rfl (q_field_ptr G rfl rfl rfl rfl) (WA_take 6 rfl (by kernel_rfl) (by kernel_rfl) rfl rfl rfl rfl (q_lst (q_load_box G rfl rfl rfl rfl rfl rfl rfl)) (?_))))
    refine WA_more (N := 9) rfl (WAV_startH (fuel := 6) [⟨0, 27, 7, false, .row 4 1 []⟩, ⟨4, 31, 8, false, .row 4 1 []⟩] (AllVOK.cons (VOK.lit G rfl rfl rfl rfl rfl) (AllVOK.cons (VOK.lit G rfl rfl rfl rfl rfl) (AllVOK.nil))) (fun hok => ?_))
    refine WAV_go [(3, [0])] (by kernel_rfl) (by kernel_rfl) (fun e he => hok e he) (by kernel_rfl) (AllVS.cons ?_ AllVS.nil)
    refine VStep.mk1 [0, 1, 2, 3, 4, 5] 27 (.own 7) 7 (.row 4 1 []) [⟨4, 31, 8, false, .row 4 1 []⟩] rfl rfl rfl rfl rfl (fun b1 _ hbn => WX_append G (by rw [hbn]; exact Nat.le_of_ble_eq_true rfl) rfl rfl rfl rfl rfl rfl rfl rfl rfl (by simp; omega) rfl rfl (WL_nil rfl)) (by kernel_rfl) (by kernel_rfl) (by kernel_rfl) (by kernel_rfl) ?_
    refine WAV_take 8 rfl (by kernel_rfl) rfl rfl rfl rfl (q_field_ptr G rfl rfl rfl rfl) (by kernel_rfl) (by kernel_rfl) (by kernel_rfl) ?_
    refine WAV_go [(7, [4])] (by kernel_rfl) (by kernel_rfl) (fun e he => hok e (vin (is := [0]) rfl he)) (by kernel_rfl) (AllVS.cons ?_ AllVS.nil)
    refine VStep.mk1 [0, 1, 2, 3, 4, 5] 31 (.own 8) 8 (.row 4 1 []) [] rfl rfl rfl rfl rfl (fun b1 _ hbn => WX_append G (by rw [hbn]; exact Nat.le_of_ble_eq_true rfl) rfl rfl rfl rfl rfl rfl rfl rfl rfl (by simp; omega) rfl rfl (WL_nil rfl)) (by kernel_rfl) (by kernel_rfl) (by kernel_rfl) (by kernel_rfl) ?_
    refine WAV_nil ?_
    clear hok
    refine WA_branch (rs := [9]) (by kernel_rfl) rfl (AllB.cons ?_ AllB.nil)
    refine WB_run [0, 1, 2, 3, 4, 5] rfl rfl (WX_store G rfl rfl rfl rfl rfl rfl rfl rfl rfl rfl rfl (WL_nil ⟨rfl, ?_⟩))
    refine WA_take 10 rfl (by kernel_rfl) (by kernel_rfl) rfl rfl rfl rfl (q_field_ptr G rfl rfl rfl rfl) (?_)
    refine WA_branch (rs := [11]) (by kernel_rfl) rfl (AllB.cons ?_ AllB.nil)
    refine WB_run [0, 1, 2, 3, 4, 5] rfl rfl (WX_store G rfl rfl rfl rfl rfl rfl rfl rfl rfl rfl rfl (WL_nil ⟨rfl, ?_⟩))
    refine WA_end (by kernel_rfl) (hK6 _ ?_)
    clear hK6 K6
    refine W_seq (fun K7 hK7 => ?_)
    refine W_seq (fun K8 hK8 => ?_)
    refine W_region (WL_cons rfl (WX_q rfl rfl (q_field_ptr G rfl rfl rfl rfl) (WL_cons rfl (WX_q rfl rfl (q_load_box G rfl rfl rfl rfl rfl rfl rfl) (WL_cons rfl (?_))))))
    first | refine WX_q rfl rfl (q_len' G rfl rfl rfl rfl (List.length_map _)) ?_ | refine WX_q rfl rfl (q_len G rfl rfl rfl rfl) ?_
    refine WL_cons rfl (WX_q rfl rfl (q_move rfl rfl) (?_))
    refine WL_nil (hK8 _ ?_)
    clear hK8 K8
    refine W_block ?_
    refine W_loopK [0, 3, 4, 6, 39] [0, 1, 2, 6, 7, 8] (fun (k : Nat) => [(40, .v (.int .i64 (k : Int)))]) (fun (k : Nat) => [(5, some (.nest 113 4 ((over (moI rs a) (List.replicate a.ma.length ifc0) k).map (encIf 154 183)) []))]) (fun (k : Nat) => k ≤ a.ma.length) (fun (k : Nat) => a.ma.length - k) 0 rfl rfl ?_ ?_ ?_ ?_
    · exact Nat.zero_le _
    · exact ⟨⟨_, rfl, by rfl⟩, rfl, trivial⟩
    · exact ⟨⟨_, rfl, by rfl⟩, rfl, rfl, trivial⟩
    · intro k hk
      have hkl := @ovI_len _ _ _ (moI rs a) (encIf 154 183) a.ma.length k ifc0 hk
      simp only [List.cons_append, List.nil_append]
      refine W_seq (fun K9 hK9 => ?_)
      refine W_region (WL_cons rfl (WX_q rfl rfl (q_cmp rfl rfl rfl rfl) (?_)))
      refine WL_nil (hK9 _ ?_)
      clear hK9 K9
      refine W_seq (fun K10 hK10 => ?_)
      refine W_cond rfl (fun h2 => ?_) (fun h2 => ?_)
      · try rw [h2]
        try simp only [rfb] at h2
        have hS := abs_stk h1 (k := k) (by omega)
        have hX0 : IfF (stkI rs (a.st.getD k default)) := (by have := hS.take (n := (a.st.getD k default).length) (Nat.le_refl _); rw [List.take_length] at this; exact this)
        refine W_skip (hK10 _ ?_)
        clear hK10 K10
        refine W_seq (fun K11 hK11 => ?_)
        refine W_block ?_
        refine W_seq (fun K12 hK12 => ?_)
        refine W_region (WL_cons rfl (WX_q rfl rfl (q_move rfl rfl) (WL_cons rfl (WX_q rfl rfl (q_assign rfl rfl) (?_)))))
        refine WL_nil (hK12 _ ?_)
        clear hK12 K12
        refine W_seq (fun K13 hK13 => ?_)
        refine W_gh (Gh.open (id := 5) (i := k) (k := 1) 10 rfl rfl (ovI_get (by omega)) rfl rfl) ?_
        refine W_gh (Gh.open (id := 5) (i := k) (k := 2) 11 rfl rfl (setX (by (try simp only [List.length_set]); omega) rfl) rfl rfl) ?_
        refine W_gh (Gh.open (id := 5) (i := k) (k := 3) 12 rfl rfl (setX (by (try simp only [List.length_set]); omega) rfl) rfl rfl) ?_
        refine W_region (WL_cons rfl (WX_q rfl rfl (q_field_ptr G rfl rfl rfl rfl) (WL_cons rfl (WX_q rfl rfl (q_load_box G rfl rfl rfl rfl rfl rfl rfl) (WL_cons rfl (WX_q rfl rfl (q_move rfl rfl) (WL_cons rfl (?_))))))))
        first | refine WX_q rfl rfl (q_index_nest G rfl rfl rfl rfl rfl (by omega) (by omega)) ?_ | refine WX_q rfl rfl (q_index_nest G rfl rfl rfl rfl rfl (by omega) (by simp only [List.length_set]; omega)) ?_
        refine WL_cons rfl (?_)
        refine WX_q rfl rfl (q_load_nest_struct G rfl rfl rfl rfl (setX (by (try simp only [List.length_set]); omega) rfl) rfl (.v (.own (by first | exact List.Mem.head _ | exact List.Mem.tail _ (List.Mem.head _) | exact List.Mem.tail _ (List.Mem.tail _ (List.Mem.head _)) | simp) (.own (by first | exact List.Mem.head _ | exact List.Mem.tail _ (List.Mem.head _) | exact List.Mem.tail _ (List.Mem.tail _ (List.Mem.head _)) | simp) (.own (by first | exact List.Mem.head _ | exact List.Mem.tail _ (List.Mem.head _) | exact List.Mem.tail _ (List.Mem.tail _ (List.Mem.head _)) | simp) .nil))))) ?_
        refine WL_cons rfl (WX_alloc_s G 13 rfl rfl rfl rfl rfl (WL_cons rfl (WX_store G rfl rfl rfl rfl rfl rfl rfl rfl rfl rfl rfl (?_))))
        refine WL_nil (hK13 _ ?_)
        clear hK13 K13
        refine W_seq (fun K14 hK14 => ?_)
        refine W_seq (fun K15 hK15 => ?_)
        refine W_gh (Gh.detach (id := 5) rfl) ?_
        refine W_gh (Gh.detach (id := 5) rfl) ?_
        refine W_gh (Gh.detach (id := 5) rfl) ?_
        refine W_region (WL_cons rfl (WX_q rfl rfl (q_field_ptr G rfl rfl rfl rfl) (WL_cons rfl (WX_q rfl rfl (q_nst (q_load_box G rfl rfl rfl rfl rfl rfl rfl)) (WL_cons rfl (WX_q rfl rfl (q_move rfl rfl) (WL_cons rfl (?_))))))))
        first | refine WX_q rfl rfl (q_index_nst G rfl rfl rfl rfl (by omega) (getN (by omega)) rfl) ?_ | refine WX_q rfl rfl (q_index_nst G rfl rfl rfl rfl (by omega) (getNI (by omega) (by omega)) rfl) ?_
        refine WL_cons rfl (WX_q rfl rfl (q_load_eptN G rfl rfl rfl rfl) (WL_cons rfl (?_)))
        first | refine WX_q rfl rfl (q_len' G rfl rfl rfl rfl (List.length_map _)) ?_ | refine WX_q rfl rfl (q_len G rfl rfl rfl rfl) ?_
        refine WL_cons rfl (WX_q rfl rfl (q_move rfl rfl) (?_))
        refine WL_nil (hK15 _ ?_)
        clear hK15 K15
        refine W_block ?_
        refine W_loopK [0, 3, 4, 6, 8, 9, 39, 40, 52, 53] [0, 1, 2, 5, 6, 7, 8] (fun (i : Nat) => [(54, .v (.int .i64 (i : Int)))]) (fun (i : Nat) => [(9, some (.row 3 1 ((stkI rs ((a.st.getD k default).take i)).st.map encI))), (10, some (.row 154 3 ((stkI rs ((a.st.getD k default).take i)).qu.sl.map encSl))), (11, some (.row 183 2 ((stkI rs ((a.st.getD k default).take i)).qu.wa.map encWa))), (12, some (.box [.v (.int .i64 (stkI rs ((a.st.getD k default).take i)).ma), .own 9, .own 10, .own 11]))]) (fun (i : Nat) => i ≤ (a.st.getD k default).length) (fun (i : Nat) => (a.st.getD k default).length - i) 0 rfl rfl ?_ ?_ ?_ ?_
        · exact Nat.zero_le _
        · exact ⟨⟨_, rfl, by rfl⟩, rfl, trivial⟩
        · exact ⟨⟨_, rfl, by rfl⟩, rfl, rfl, ⟨⟨_, rfl, by rfl⟩, rfl, rfl, ⟨⟨_, rfl, by rfl⟩, rfl, rfl, ⟨⟨_, rfl, by rfl⟩, rfl, rfl, trivial⟩⟩⟩⟩
        · intro i hi
          have hX := hS.take hi
          have hLn := hS.n
          simp only [List.cons_append, List.nil_append]
          refine W_seq (fun K16 hK16 => ?_)
          refine W_region (WL_cons rfl (WX_q rfl rfl (q_cmp rfl rfl rfl rfl) (?_)))
          refine WL_nil (hK16 _ ?_)
          clear hK16 K16
          refine W_seq (fun K17 hK17 => ?_)
          refine W_cond rfl (fun h3 => ?_) (fun h3 => ?_)
          · try rw [h3]
            try simp only [rfb] at h3
            obtain ⟨hR1, hR2, hR3, hs4⟩ := hS.step (i := i) (by omega)
            have hel := hS.el i (by omega)
            have hs4i := takIT_t hR3
            refine W_skip (hK17 _ ?_)
            clear hK17 K17
            refine W_seq (fun K18 hK18 => ?_)
            refine W_block ?_
            refine W_seq (fun K19 hK19 => ?_)
            refine W_region (WL_cons rfl (?_))
            first | refine WX_q rfl rfl (q_index_lst G rfl rfl rfl rfl (by omega) (getN (by omega))) ?_ | refine WX_q rfl rfl (q_index_lst G rfl rfl rfl rfl (by omega) (getNI (by omega) (by omega))) ?_
            refine WL_cons rfl (WX_q rfl rfl (q_load_ept G rfl rfl rfl rfl rfl) (WL_cons rfl (WX_q rfl rfl (q_assign rfl rfl) (?_))))
            refine WL_nil (hK19 _ ?_)
            clear hK19 K19
            refine W_drawsH 14 [0, 1, 2, 5, 6, 7, 8, 9, 10, 11] mixed (by kernel_rfl) rfl rfl (fun r0 => ?_) (fun _ h => h)
            refine WA_take 1 rfl (by kernel_rfl) (by kernel_rfl) rfl rfl rfl rfl (q_move rfl rfl) (WA_take 2 rfl (by kernel_rfl) (by kernel_rfl) rfl rfl rfl rfl (q_move rfl rfl) (WA_take 3 rfl (by kernel_rfl) (by kernel_rfl) rfl rfl rfl rfl (q_move rfl rfl) (?_)))
            first | refine WA_take 4 rfl (by kernel_rfl) (by kernel_rfl) rfl rfl rfl rfl (q_index_lst G rfl rfl rfl rfl (by omega) (getN (by omega))) ?_ | refine WA_take 4 rfl (by kernel_rfl) (by kernel_rfl) rfl rfl rfl rfl (q_index_lst G rfl rfl rfl rfl (by omega) (getNI (by omega) (by omega))) ?_
            refine WA_take 5 rfl (by kernel_rfl) (by kernel_rfl) rfl rfl rfl rfl (q_field_ept G rfl rfl rfl rfl) (WA_take 6 rfl (by kernel_rfl) (by kernel_rfl) rfl rfl rfl rfl (q_load_ept G rfl rfl rfl rfl rfl) (?_))
            refine WA_branch (rs := [0]) (by kernel_rfl) rfl (AllB.cons ?_ AllB.nil)
            refine WB_run [0, 1, 2, 5, 6, 7, 8, 9, 10, 11] rfl rfl (WX_q rfl rfl (q_load_box_struct G rfl rfl rfl rfl rfl rfl) (WL_nil ⟨rfl, ?_⟩))
            refine WA_branch (rs := [7]) (by kernel_rfl) rfl (AllB.cons ?_ AllB.nil)
            refine WB_run [0, 1, 2, 5, 6, 7, 8, 9, 10, 11] rfl rfl (WX_call 16 rfl rfl rfl (ArgsOK.of rfl) (c_impl_raiseIrq _ _ _ hX hel.1 hel.2) rfl rfl (WL_nil ⟨rfl, ?_⟩))
            refine WA_branch (rs := [8]) (by kernel_rfl) rfl (AllB.cons ?_ AllB.nil)
            refine WB_run [0, 1, 2, 5, 6, 7, 8, 9, 10, 11] rfl rfl (WX_call 19 rfl rfl rfl (ArgsOK.of rfl) (c_impl_takeIrq _ hR1) rfl rfl (WL_nil ⟨rfl, ?_⟩))
            refine WA_take 9 rfl (by kernel_rfl) (by kernel_rfl) rfl rfl rfl rfl (q_move rfl rfl) (WA_take 10 rfl (by kernel_rfl) (by kernel_rfl) rfl rfl rfl rfl (q_extract rfl rfl rfl) (WA_take 11 rfl (by kernel_rfl) (by kernel_rfl) rfl rfl rfl rfl (q_extract rfl rfl rfl) (WA_take 12 rfl (by kernel_rfl) (by kernel_rfl) rfl rfl rfl rfl (q_extract rfl rfl rfl) (?_))))
            refine WA_branch (rs := [13]) (by kernel_rfl) rfl (AllB.cons ?_ AllB.nil)
            refine WB_run [0, 1, 2, 5, 6, 7, 8, 9, 10, 11] rfl rfl (WX_store G rfl rfl rfl rfl rfl rfl rfl rfl rfl rfl rfl (WL_nil ⟨rfl, ?_⟩))
            refine WA_end (by kernel_rfl) (hK18 _ ?_)
            clear hK18 K18
            refine W_region (WL_cons rfl (?_))
            first | refine WX_q rfl rfl (q_arith rfl rfl rfl rfl (by omega) (by omega)) ?_ | refine WX_q rfl rfl (q_wrap rfl rfl rfl rfl) ?_
            refine WL_cons rfl (WX_q rfl rfl (q_move rfl rfl) (?_))
            refine WL_gh (Gh.sub 16 9 np rfl rfl rfl) ?_
            refine WL_gh (Gh.sub 17 10 np rfl rfl rfl) ?_
            refine WL_gh (Gh.sub 18 11 np rfl rfl rfl) ?_
            refine WL_nil ⟨(i + 1), ?_, ?_, ⟨⟨_, rfl, by rfl⟩, rfl, trivial⟩, ⟨⟨_, rfl, by (first | rfl | (rw [hs4]; done) | (rw [hs4]; rfl) | (rw [hs4i, hs4]; done) | (rw [hs4i, hs4]; rfl))⟩, rfl, rfl, ⟨⟨_, rfl, by (first | rfl | (rw [hs4]; done) | (rw [hs4]; rfl) | (rw [hs4i, hs4]; done) | (rw [hs4i, hs4]; rfl))⟩, rfl, rfl, ⟨⟨_, rfl, by (first | rfl | (rw [hs4]; done) | (rw [hs4]; rfl) | (rw [hs4i, hs4]; done) | (rw [hs4i, hs4]; rfl))⟩, rfl, rfl, ⟨⟨_, rfl, by (first | rfl | (rw [hs4]; done) | (rw [hs4]; rfl) | (rw [hs4i, hs4]; done) | (rw [hs4i, hs4]; rfl))⟩, rfl, rfl, trivial⟩⟩⟩⟩, rfl, rfl, rfl⟩
            · omega
            · omega
          · try rw [h3]
            try simp only [rfb] at h3
            have hXe : stkI rs ((a.st.getD k default).take i) = stkI rs (a.st.getD k default) := (by rw [List.take_of_length_le (by omega)])
            refine W_exit (hK14 _ ?_)
            clear hK17 K17 hK14 K14
            refine W_seq (fun K20 hK20 => ?_)
            refine W_seq (fun K21 hK21 => ?_)
            refine W_gh (Gh.tl (id := 11) rfl) ?_
            refine W_region (WL_cons rfl (WX_q rfl rfl (q_move rfl rfl) (WL_cons rfl (?_))))
            first | refine WX_q rfl rfl (q_len' G rfl rfl rfl rfl (List.length_map _)) ?_ | refine WX_q rfl rfl (q_len G rfl rfl rfl rfl) ?_
            refine WL_cons rfl (WX_q rfl rfl (q_move rfl rfl) (?_))
            refine WL_nil (hK21 _ ?_)
            clear hK21 K21
            refine W_block ?_
            refine W_loopK [0, 3, 4, 6, 8, 9, 39, 40, 72, 73] [0, 1, 2, 5, 6, 7, 8] (fun (i : Nat) => [(74, .v (.int .i64 (i : Int)))]) (fun (i : Nat) => [(9, some (.row 3 1 ((pstI rs a.po k (stkI rs (a.st.getD k default)) i).st.map encI))), (10, some (.row 154 3 ((pstI rs a.po k (stkI rs (a.st.getD k default)) i).qu.sl.map encSl))), (11, some (.row 183 2 ((pstI rs a.po k (stkI rs (a.st.getD k default)) i).qu.wa.map encWa) true)), (12, some (.box [.v (.int .i64 (pstI rs a.po k (stkI rs (a.st.getD k default)) i).ma), .own 9, .own 10, .own 11]))]) (fun (i : Nat) => i ≤ 8) (fun (i : Nat) => 8 - i) 0 rfl rfl ?_ ?_ ?_ ?_
            · exact Nat.zero_le _
            · exact ⟨⟨_, rfl, by rfl⟩, rfl, trivial⟩
            · exact ⟨⟨_, rfl, by (first | rfl | (rw [hXe]; done) | (rw [hXe]; rfl))⟩, rfl, rfl, ⟨⟨_, rfl, by (first | rfl | (rw [hXe]; done) | (rw [hXe]; rfl))⟩, rfl, rfl, ⟨⟨_, rfl, by (first | rfl | (rw [hXe]; done) | (rw [hXe]; rfl))⟩, rfl, rfl, ⟨⟨_, rfl, by (first | rfl | (rw [hXe]; done) | (rw [hXe]; rfl))⟩, rfl, rfl, trivial⟩⟩⟩⟩
            · intro i hi
              have hY := pstI_F (po := a.po) (k := k) hX0 (fun i hi => (hr8.2.2 i hi).1) i hi
              have hpr := fun h => (hr8.2.2 i h).1
              simp only [List.cons_append, List.nil_append]
              refine W_seq (fun K22 hK22 => ?_)
              refine W_region (WL_cons rfl (WX_q rfl rfl (q_cmp rfl rfl rfl rfl) (?_)))
              refine WL_nil (hK22 _ ?_)
              clear hK22 K22
              refine W_seq (fun K23 hK23 => ?_)
              refine W_cond rfl (fun h4 => ?_) (fun h4 => ?_)
              · try rw [h4]
                try simp only [rfb] at h4
                refine W_skip (hK23 _ ?_)
                clear hK23 K23
                refine W_seq (fun K24 hK24 => ?_)
                refine W_block ?_
                refine W_seq (fun K25 hK25 => ?_)
                refine W_region (WL_cons rfl (WX_q rfl rfl (q_move rfl rfl) (WL_cons rfl (?_))))
                first | refine WX_q rfl rfl (q_index_lst G rfl rfl rfl rfl (by omega) (getN (by omega))) ?_ | refine WX_q rfl rfl (q_index_lst G rfl rfl rfl rfl (by omega) (getNI (by omega) (by omega))) ?_
                refine WL_cons rfl (WX_q rfl rfl (q_load_ept_struct G rfl rfl rfl rfl) (WL_cons rfl (WX_alloc_s G 14 rfl rfl rfl rfl rfl (WL_cons rfl (WX_q rfl rfl (q_assign rfl rfl) (WL_cons rfl (WX_store G rfl rfl rfl rfl rfl rfl rfl rfl rfl rfl rfl (?_))))))))
                refine WL_nil (hK25 _ ?_)
                clear hK25 K25
                refine W_seq (fun K26 hK26 => ?_)
                refine W_region (WL_cons rfl (WX_q rfl rfl (q_field_ptr G rfl rfl rfl rfl) (WL_cons rfl (WX_q rfl rfl (q_lst (q_load_box G rfl rfl rfl rfl rfl rfl rfl)) (WL_cons rfl (WX_q rfl rfl (q_move rfl rfl) (WL_cons rfl (?_))))))))
                first | refine WX_q rfl rfl (q_index_lst G rfl rfl rfl rfl (by omega) (getN (by omega))) ?_ | refine WX_q rfl rfl (q_index_lst G rfl rfl rfl rfl (by omega) (getNI (by omega) (by omega))) ?_
                refine WL_cons rfl (WX_q rfl rfl (q_load_ept G rfl rfl rfl rfl rfl) (WL_cons rfl (WX_q rfl rfl (q_move rfl rfl) (WL_part rfl rfl rfl (fun h5 => ?_) (fun h5 => ?_)))))
                · try rw [h5]
                  try simp only [rfb] at h5
                  refine WL_run rfl rfl rfl (WX_q rfl rfl (q_field_ptr G rfl rfl rfl rfl) (WL_run rfl rfl rfl (WX_q rfl rfl (q_load_box G rfl rfl rfl rfl rfl rfl rfl) (WL_run rfl rfl rfl (WX_q rfl rfl (q_move rfl rfl) (WL_run rfl rfl rfl (WX_q rfl rfl (q_cmp rfl rfl rfl rfl) (WL_cons rfl (WX_q rfl rfl (q_pick_t rfl rfl rfl) (?_))))))))))
                  refine WL_nil (hK26 _ ?_)
                  clear hK26 K26
                  refine W_cond rfl (fun h6 => ?_) (fun h6 => ?_)
                  · try rw [h6]
                    try simp only [rfb] at h6
                    refine W_region (WL_cons rfl (WX_q rfl rfl (q_load_box_struct G rfl rfl rfl rfl rfl rfl) (WL_cons rfl (WX_q rfl rfl (q_move rfl rfl) (WL_cons rfl (WX_q rfl rfl (q_field_ptr G rfl rfl rfl rfl) (WL_cons rfl (WX_q rfl rfl (q_load_box G rfl rfl rfl rfl rfl rfl rfl) (WL_cons rfl (?_))))))))))
                    refine WX_call 17 rfl rfl rfl (ArgsOK.of rfl) (c_impl_raiseIrq _ _ _ hY (by omega) (hpr (by omega))) rfl rfl ?_
                    refine WL_cons rfl (WX_store G rfl rfl rfl rfl rfl rfl rfl rfl rfl rfl rfl (?_))
                    refine WL_nil (hK24 _ ?_)
                    clear hK24 K24
                    refine W_region (WL_cons rfl (?_))
                    first | refine WX_q rfl rfl (q_arith rfl rfl rfl rfl (by omega) (by omega)) ?_ | refine WX_q rfl rfl (q_wrap rfl rfl rfl rfl) ?_
                    refine WL_cons rfl (WX_q rfl rfl (q_move rfl rfl) (?_))
                    refine WL_gh (Gh.sub 14 9 np rfl rfl rfl) ?_
                    refine WL_gh (Gh.sub 15 10 np rfl rfl rfl) ?_
                    refine WL_gh (Gh.sub 16 11 np rfl rfl rfl) ?_
                    refine WL_nil ⟨(i + 1), ?_, ?_, ⟨⟨_, rfl, by rfl⟩, rfl, trivial⟩, ⟨⟨_, rfl, by (first | rfl | (rw [pstI_t (by assumption) (by omega)]; done) | (rw [pstI_t (by assumption) (by omega)]; rfl) | (rw [pstI_f (by simp_all)]; done) | (rw [pstI_f (by simp_all)]; rfl))⟩, rfl, rfl, ⟨⟨_, rfl, by (first | rfl | (rw [pstI_t (by assumption) (by omega)]; done) | (rw [pstI_t (by assumption) (by omega)]; rfl) | (rw [pstI_f (by simp_all)]; done) | (rw [pstI_f (by simp_all)]; rfl))⟩, rfl, rfl, ⟨⟨_, rfl, by (first | rfl | (rw [pstI_t (by assumption) (by omega)]; done) | (rw [pstI_t (by assumption) (by omega)]; rfl) | (rw [pstI_f (by simp_all)]; done) | (rw [pstI_f (by simp_all)]; rfl))⟩, rfl, rfl, ⟨⟨_, rfl, by (first | rfl | (rw [pstI_t (by assumption) (by omega)]; done) | (rw [pstI_t (by assumption) (by omega)]; rfl) | (rw [pstI_f (by simp_all)]; done) | (rw [pstI_f (by simp_all)]; rfl))⟩, rfl, rfl, trivial⟩⟩⟩⟩, rfl, rfl, rfl⟩
                    · omega
                    · omega
                  · try rw [h6]
                    try simp only [rfb] at h6
                    refine W_skip (hK24 _ ?_)
                    clear hK24 K24
                    refine W_region (WL_cons rfl (?_))
                    first | refine WX_q rfl rfl (q_arith rfl rfl rfl rfl (by omega) (by omega)) ?_ | refine WX_q rfl rfl (q_wrap rfl rfl rfl rfl) ?_
                    refine WL_cons rfl (WX_q rfl rfl (q_move rfl rfl) (?_))
                    refine WL_nil ⟨(i + 1), ?_, ?_, ⟨⟨_, rfl, by rfl⟩, rfl, trivial⟩, ⟨⟨_, rfl, by (first | rfl | (rw [pstI_t (by assumption) (by omega)]; done) | (rw [pstI_t (by assumption) (by omega)]; rfl) | (rw [pstI_f (by simp_all)]; done) | (rw [pstI_f (by simp_all)]; rfl))⟩, rfl, rfl, ⟨⟨_, rfl, by (first | rfl | (rw [pstI_t (by assumption) (by omega)]; done) | (rw [pstI_t (by assumption) (by omega)]; rfl) | (rw [pstI_f (by simp_all)]; done) | (rw [pstI_f (by simp_all)]; rfl))⟩, rfl, rfl, ⟨⟨_, rfl, by (first | rfl | (rw [pstI_t (by assumption) (by omega)]; done) | (rw [pstI_t (by assumption) (by omega)]; rfl) | (rw [pstI_f (by simp_all)]; done) | (rw [pstI_f (by simp_all)]; rfl))⟩, rfl, rfl, ⟨⟨_, rfl, by (first | rfl | (rw [pstI_t (by assumption) (by omega)]; done) | (rw [pstI_t (by assumption) (by omega)]; rfl) | (rw [pstI_f (by simp_all)]; done) | (rw [pstI_f (by simp_all)]; rfl))⟩, rfl, rfl, trivial⟩⟩⟩⟩, rfl, rfl, rfl⟩
                    · omega
                    · omega
                · try rw [h5]
                  try simp only [rfb] at h5
                  refine WL_skip rfl rfl rfl rfl rfl rfl (WL_skip rfl rfl rfl rfl rfl rfl (WL_skip rfl rfl rfl rfl rfl rfl (WL_skip rfl rfl rfl rfl rfl rfl (WL_cons rfl (WX_q rfl rfl (q_pick_f rfl rfl rfl) (?_))))))
                  refine WL_nil (hK26 _ ?_)
                  clear hK26 K26
                  refine W_false rfl ?_
                  refine W_skip (hK24 _ ?_)
                  clear hK24 K24
                  refine W_region (WL_cons rfl (?_))
                  first | refine WX_q rfl rfl (q_arith rfl rfl rfl rfl (by omega) (by omega)) ?_ | refine WX_q rfl rfl (q_wrap rfl rfl rfl rfl) ?_
                  refine WL_cons rfl (WX_q rfl rfl (q_move rfl rfl) (?_))
                  refine WL_nil ⟨(i + 1), ?_, ?_, ⟨⟨_, rfl, by rfl⟩, rfl, trivial⟩, ⟨⟨_, rfl, by (first | rfl | (rw [pstI_t (by assumption) (by omega)]; done) | (rw [pstI_t (by assumption) (by omega)]; rfl) | (rw [pstI_f (by simp_all)]; done) | (rw [pstI_f (by simp_all)]; rfl))⟩, rfl, rfl, ⟨⟨_, rfl, by (first | rfl | (rw [pstI_t (by assumption) (by omega)]; done) | (rw [pstI_t (by assumption) (by omega)]; rfl) | (rw [pstI_f (by simp_all)]; done) | (rw [pstI_f (by simp_all)]; rfl))⟩, rfl, rfl, ⟨⟨_, rfl, by (first | rfl | (rw [pstI_t (by assumption) (by omega)]; done) | (rw [pstI_t (by assumption) (by omega)]; rfl) | (rw [pstI_f (by simp_all)]; done) | (rw [pstI_f (by simp_all)]; rfl))⟩, rfl, rfl, ⟨⟨_, rfl, by (first | rfl | (rw [pstI_t (by assumption) (by omega)]; done) | (rw [pstI_t (by assumption) (by omega)]; rfl) | (rw [pstI_f (by simp_all)]; done) | (rw [pstI_f (by simp_all)]; rfl))⟩, rfl, rfl, trivial⟩⟩⟩⟩, rfl, rfl, rfl⟩
                  · omega
                  · omega
              · try rw [h4]
                try simp only [rfb] at h4
                obtain rfl : i = 8 := (by omega)
                refine W_exit (hK20 _ ?_)
                clear hK23 K23 hK20 K20
                refine W_drawsH 12 [0, 1, 2, 6, 7, 8, 9, 10, 11, 12] mixed (by kernel_rfl) rfl rfl (fun r0 => ?_) (fun _ h => h)
                refine WA_take 0 rfl (by kernel_rfl) (by kernel_rfl) rfl rfl rfl rfl (q_field_ptr G rfl rfl rfl rfl) (WA_take 1 rfl (by kernel_rfl) (by kernel_rfl) rfl rfl rfl rfl (q_load_box G rfl rfl rfl rfl rfl rfl rfl) (WA_take 2 rfl (by kernel_rfl) (by kernel_rfl) rfl rfl rfl rfl (q_move rfl rfl) (WA_take 3 rfl (by kernel_rfl) (by kernel_rfl) rfl rfl rfl rfl (q_load_box_struct G rfl rfl rfl rfl rfl rfl) (WA_take 4 rfl (by kernel_rfl) (by kernel_rfl) rfl rfl rfl rfl (q_field_ptr G rfl rfl rfl rfl) (WA_take 5 rfl (by kernel_rfl) (by kernel_rfl) rfl rfl rfl rfl (q_lst (q_load_box G rfl rfl rfl rfl rfl rfl rfl)) (WA_take 6 rfl (by kernel_rfl) (by kernel_rfl) rfl rfl rfl rfl (q_move rfl rfl) (?_)))))))
                first | refine WA_take 7 rfl (by kernel_rfl) (by kernel_rfl) rfl rfl rfl rfl (q_index_lst G rfl rfl rfl rfl (by omega) (getN (by omega))) ?_ | refine WA_take 7 rfl (by kernel_rfl) (by kernel_rfl) rfl rfl rfl rfl (q_index_lst G rfl rfl rfl rfl (by omega) (getNI (by omega) (by omega))) ?_
                refine WA_take 8 rfl (by kernel_rfl) (by kernel_rfl) rfl rfl rfl rfl (q_load_ept G rfl rfl rfl rfl rfl) (?_)
                refine WA_branch (rs := [9]) (by kernel_rfl) rfl (AllB.cons ?_ AllB.nil)
                refine WB_run [0, 1, 2, 6, 7, 8, 9, 10, 11, 12] rfl rfl (WX_call 16 rfl rfl rfl (ArgsOK.of rfl) (c_impl_setMask _ _ (by have := hY.sn; omega) (by have := hY.qu.sl.len; omega) (by have := hY.qu.wn8; omega)) rfl rfl (WL_nil ⟨rfl, ?_⟩))
                refine WA_branch (rs := [10]) (by kernel_rfl) rfl (AllB.cons ?_ AllB.nil)
                first | refine WB_run [0, 1, 2, 6, 7, 8, 9, 10, 11, 12] rfl rfl (WX_q rfl rfl (q_index_nest G rfl rfl rfl rfl rfl (by omega) (by omega)) (WL_nil ⟨rfl, ?_⟩)) | refine WB_run [0, 1, 2, 6, 7, 8, 9, 10, 11, 12] rfl rfl (WX_q rfl rfl (q_index_nest G rfl rfl rfl rfl rfl (by omega) (by simp only [List.length_set]; omega)) (WL_nil ⟨rfl, ?_⟩))
                refine WA_branch (rs := [11]) (by kernel_rfl) rfl (AllB.cons ?_ AllB.nil)
                refine WB_run [0, 1, 2, 6, 7, 8, 9, 10, 11, 12] rfl rfl (WX_store_nest G rfl rfl rfl rfl rfl (setX (by (try simp only [List.length_set]); omega) rfl) rfl rfl (.v rfl (.own rfl (.own rfl (.own rfl .nil)))) rfl rfl rfl (Nat.le_of_ble_eq_true rfl) (fun q h => by cases h) rfl (WL_nil ⟨rfl, ?_⟩))
                refine WA_end (by kernel_rfl) (hK11 _ ?_)
                clear hK11 K11
                refine W_region (WL_cons rfl (?_))
                first | refine WX_q rfl rfl (q_arith rfl rfl rfl rfl (by omega) (by omega)) ?_ | refine WX_q rfl rfl (q_wrap rfl rfl rfl rfl) ?_
                refine WL_cons rfl (WX_q rfl rfl (q_move rfl rfl) (?_))
                refine WL_nil ⟨(k + 1), ?_, ?_, ⟨⟨_, rfl, by rfl⟩, rfl, trivial⟩, ⟨⟨_, rfl, by (exact congrArg (fun z => Row.nest _ _ z []) (by simp only [List.set_set, Int.toNat_natCast]; exact ovI_set (by omega) rfl))⟩, rfl, rfl, trivial⟩, rfl, rfl, rfl⟩
                · omega
                · omega
      · try rw [h2]
        try simp only [rfb] at h2
        refine W_exit (hK7 _ ?_)
        clear hK10 K10 hK7 K7
        refine W_seq (fun K27 hK27 => ?_)
        refine W_region (WL_cons rfl (WX_q rfl rfl (q_load_box_struct G rfl rfl rfl rfl rfl rfl) (WL_cons rfl (WX_store G rfl rfl rfl rfl rfl rfl rfl rfl rfl rfl rfl (WL_cons rfl (WX_q rfl rfl (q_assign rfl rfl) (?_)))))))
        refine WL_nil (hK27 _ ?_)
        clear hK27 K27
        refine W_ret (fin_shp rfl rfl rfl rfl (rcs_cons (rc_own rfl ?_) (rcs_cons (rc_own rfl ?_) (rcs_cons (rc_own rfl ?_) (rcs_cons (rc_ne rfl ?_) (rcs_cons (rc_v ?_) rcs_nil))))))
        all_goals (first | (rw [moT_f h1]; done) | (rw [moT_f h1]; rfl) | (rw [hM]; done) | (rw [hM]; rfl) | (have ek : k = a.ma.length := (by omega); subst ek; rw [hM, ovI_all]; rfl))

end Go.Proofs.YtcnodpipinlpcaaGreat

/- Walks through functions of the program, one contract each (written by gen.py). -/
set_option maxRecDepth 20000
set_option linter.unusedVariables false
set_option linter.unusedSimpArgs false
namespace Go.Proofs.YtcnodpipinlpcaaGreat
open Go Go.Rf

end Go.Proofs.YtcnodpipinlpcaaGreat

/- Walks through functions of the program, one contract each (written by gen.py). -/
set_option maxRecDepth 20000
set_option linter.unusedVariables false
set_option linter.unusedSimpArgs false
namespace Go.Proofs.YtcnodpipinlpcaaGreat
open Go Go.Rf

end Go.Proofs.YtcnodpipinlpcaaGreat
