/- Walks through functions of the program, one contract each (written by gen.py). -/
import Derived.Test.YteplehpcplbioaaX2
set_option maxRecDepth 20000
set_option linter.unusedVariables false
set_option linter.unusedSimpArgs false
namespace Go.Proofs.Yteplehpcplbioaa
open Go Go.Rf

theorem c_spec_DrawUseBucket (l : List Int) (hl : bytesOK l) : CtrX (α := Bucket × Int × Int) Try.prog 48 [.lst 1 (l.map encU)] [] (fun y => (bkIn y.1 ∧ (-2 ≤ y.2.1 ∧ y.2.1 ≤ 100101) ∧ (0 ≤ y.2.2 ∧ y.2.2 ≤ 1001)) ∧ True) (fun y => (.many [.v (encB y.1), .v (.int .i64 y.2.1), .v (.int .i64 y.2.2)])) (fun y => []) := by
  have h : okC 0 (⟨l, 0, 0⟩ : Cur) := ⟨hl, Int.le_refl _, Int.le_refl _⟩
  refine CtrX.of (n := 18) (k := 0) G Try.func48 rfl (by kernel_rfl) rfl rfl rfl rfl (fun _ => rfl) rfl rfl (fun w0 _ hpin => ?_)
  refine W_seq (fun K1 hK1 => ?_)
  refine W_region (WL_cons rfl (WX_alloc_s G 1 rfl rfl rfl rfl rfl (WL_cons rfl (WX_q rfl rfl (q_assign rfl rfl) (WL_cons rfl (WX_q rfl rfl (q_assign rfl rfl) (?_)))))))
  refine WL_nil (hK1 _ ?_)
  clear hK1 K1
  refine W_pinT (t := 0) rfl (fun y => ?_)
  refine W_seq (fun K2 hK2 => ?_)
  refine W_region (WL_cons rfl (WX_q rfl rfl (q_move rfl rfl) (WL_cons rfl (WX_q rfl rfl (q_build G rfl rfl rfl rfl) (WL_cons rfl (WX_box 2 rfl rfl rfl rfl rfl rfl rfl (WL_cons rfl (WX_q rfl rfl (q_assign rfl rfl) (?_)))))))))
  refine WL_nil (hK2 _ ?_)
  clear hK2 K2
  refine W_unpin (id := 1) rfl ?_
  refine W_seq (fun K3 hK3 => ?_)
  refine W_region (WL_cons rfl (WX_q rfl rfl (q_move rfl rfl) (WL_cons rfl (?_))))
  refine WX_callx 2 [1] rfl rfl rfl (c_spec_l1Cur_bucket h (by omega) 1 (by omega)) rfl (RowsIn.cons rfl RowsIn.nil) rfl (fun _ => rfl) rfl (fun x1 ⟨hv1, hc1⟩ => ?_)
  refine WL_cons rfl (WX_alloc_s G 3 rfl rfl rfl rfl rfl (WL_cons rfl (WX_store G rfl rfl rfl rfl rfl rfl rfl rfl rfl rfl rfl (?_))))
  refine WL_nil (hK3 _ ?_)
  clear hK3 K3
  refine W_seq (fun K4 hK4 => ?_)
  refine W_drawsH 9 [2] mixed (by kernel_rfl) rfl rfl (fun r0 => ?_) (fun _ h => h)
  refine WA_take 0 rfl (by kernel_rfl) (by kernel_rfl) rfl rfl rfl rfl (q_load_box_struct G rfl rfl rfl rfl rfl rfl) (WA_take 1 rfl (by kernel_rfl) (by kernel_rfl) rfl rfl rfl rfl (q_move rfl rfl) (WA_take 2 rfl (by kernel_rfl) (by kernel_rfl) rfl rfl rfl rfl (q_load_box_struct G rfl rfl rfl rfl rfl rfl) (WA_take 4 rfl (by kernel_rfl) (by kernel_rfl) rfl rfl rfl rfl (q_move rfl rfl) (?_))))
  refine WA_branch (rs := [3]) (by kernel_rfl) rfl (AllB.cons ?_ AllB.nil)
  refine WB_run [2] rfl rfl (WX_callx 3 [1] rfl rfl rfl (c_spec_l1Cur_tick23 hc1 (by omega) x1.1 (by simp only [bkIn] at *; omega)) rfl (RowsIn.cons rfl RowsIn.nil) rfl (fun _ => rfl) rfl (fun x2 ⟨hv2, hc2⟩ => WL_nil ⟨rfl, ?_⟩))
  refine WA_branch (rs := [5]) (by kernel_rfl) rfl (AllB.cons ?_ AllB.nil)
  refine WB_run [2] rfl rfl (WX_callx 3 [1] rfl rfl rfl (c_spec_l1Cur_cost hc2 (by omega)) rfl (RowsIn.cons rfl RowsIn.nil) rfl (fun _ => rfl) rfl (fun x3 ⟨hv3, hc3⟩ => WL_nil ⟨rfl, ?_⟩))
  refine WA_branch (rs := [6]) (by kernel_rfl) rfl (AllB.cons ?_ AllB.nil)
  refine WB_run [2] rfl rfl (WX_store G rfl rfl rfl rfl rfl rfl rfl rfl rfl rfl rfl (WL_nil ⟨rfl, ?_⟩))
  refine WA_take 7 rfl (by kernel_rfl) (by kernel_rfl) rfl rfl rfl rfl (q_assign rfl rfl) (WA_take 8 rfl (by kernel_rfl) (by kernel_rfl) rfl rfl rfl rfl (q_assign rfl rfl) (?_))
  refine WA_end (by kernel_rfl) (hK4 _ ?_)
  clear hK4 K4
  refine W_ret (finx ((x1.1, x2.1, x3.1)) (finm_many rfl rfl rfl rfl (rcs_cons (rc_agg rfl ?_) (rcs_cons (rc_v ?_) (rcs_cons (rc_v ?_) rcs_nil))) rfl AftOK.nil) (⟨?_, ?_⟩))
  all_goals (first | rfl | trivial | (simp only [bkIn] at *; omega) | (refine ⟨?_, ?_, ?_⟩ <;> first | assumption | omega) | (refine ⟨?_, ?_⟩ <;> first | assumption | omega))

theorem c_spec_DrawBringTo (l : List Int) (hl : bytesOK l) : CtrX (α := Bucket × Int) Try.prog 50 [.lst 1 (l.map encU)] [] (fun y => (bkIn y.1 ∧ (-2 ≤ y.2 ∧ y.2 ≤ 100101)) ∧ True) (fun y => (.many [.v (encB y.1), .v (.int .i64 y.2)])) (fun y => []) := by
  have h : okC 0 (⟨l, 0, 0⟩ : Cur) := ⟨hl, Int.le_refl _, Int.le_refl _⟩
  refine CtrX.of (n := 15) (k := 0) G Try.func50 rfl (by kernel_rfl) rfl rfl rfl rfl (fun _ => rfl) rfl rfl (fun w0 _ hpin => ?_)
  refine W_seq (fun K1 hK1 => ?_)
  refine W_region (WL_cons rfl (WX_alloc_s G 1 rfl rfl rfl rfl rfl (WL_cons rfl (WX_q rfl rfl (q_assign rfl rfl) (?_)))))
  refine WL_nil (hK1 _ ?_)
  clear hK1 K1
  refine W_pinT (t := 0) rfl (fun y => ?_)
  refine W_seq (fun K2 hK2 => ?_)
  refine W_region (WL_cons rfl (WX_q rfl rfl (q_move rfl rfl) (WL_cons rfl (WX_q rfl rfl (q_build G rfl rfl rfl rfl) (WL_cons rfl (WX_box 2 rfl rfl rfl rfl rfl rfl rfl (WL_cons rfl (WX_q rfl rfl (q_assign rfl rfl) (?_)))))))))
  refine WL_nil (hK2 _ ?_)
  clear hK2 K2
  refine W_unpin (id := 1) rfl ?_
  refine W_seq (fun K3 hK3 => ?_)
  refine W_region (WL_cons rfl (WX_q rfl rfl (q_move rfl rfl) (WL_cons rfl (?_))))
  refine WX_callx 2 [1] rfl rfl rfl (c_spec_l1Cur_bucket h (by omega) 1 (by omega)) rfl (RowsIn.cons rfl RowsIn.nil) rfl (fun _ => rfl) rfl (fun x1 ⟨hv1, hc1⟩ => ?_)
  refine WL_cons rfl (WX_alloc_s G 3 rfl rfl rfl rfl rfl (WL_cons rfl (WX_store G rfl rfl rfl rfl rfl rfl rfl rfl rfl rfl rfl (?_))))
  refine WL_nil (hK3 _ ?_)
  clear hK3 K3
  refine W_seq (fun K4 hK4 => ?_)
  refine W_drawsH 6 [2] mixed (by kernel_rfl) rfl rfl (fun r0 => ?_) (fun _ h => h)
  refine WA_take 0 rfl (by kernel_rfl) (by kernel_rfl) rfl rfl rfl rfl (q_load_box_struct G rfl rfl rfl rfl rfl rfl) (WA_take 1 rfl (by kernel_rfl) (by kernel_rfl) rfl rfl rfl rfl (q_move rfl rfl) (WA_take 2 rfl (by kernel_rfl) (by kernel_rfl) rfl rfl rfl rfl (q_load_box_struct G rfl rfl rfl rfl rfl rfl) (?_)))
  refine WA_branch (rs := [3]) (by kernel_rfl) rfl (AllB.cons ?_ AllB.nil)
  refine WB_run [2] rfl rfl (WX_callx 3 [1] rfl rfl rfl (c_spec_l1Cur_tick23 hc1 (by omega) x1.1 (by simp only [bkIn] at *; omega)) rfl (RowsIn.cons rfl RowsIn.nil) rfl (fun _ => rfl) rfl (fun x2 ⟨hv2, hc2⟩ => WL_nil ⟨rfl, ?_⟩))
  refine WA_branch (rs := [4]) (by kernel_rfl) rfl (AllB.cons ?_ AllB.nil)
  refine WB_run [2] rfl rfl (WX_store G rfl rfl rfl rfl rfl rfl rfl rfl rfl rfl rfl (WL_nil ⟨rfl, ?_⟩))
  refine WA_take 5 rfl (by kernel_rfl) (by kernel_rfl) rfl rfl rfl rfl (q_assign rfl rfl) (?_)
  refine WA_end (by kernel_rfl) (hK4 _ ?_)
  clear hK4 K4
  refine W_ret (finx ((x1.1, x2.1)) (finm_many rfl rfl rfl rfl (rcs_cons (rc_agg rfl ?_) (rcs_cons (rc_v ?_) rcs_nil)) rfl AftOK.nil) (⟨?_, ?_⟩))
  all_goals (first | rfl | trivial | (simp only [bkIn] at *; omega) | (refine ⟨?_, ?_, ?_⟩ <;> first | assumption | omega) | (refine ⟨?_, ?_⟩ <;> first | assumption | omega))

theorem c_spec_DrawNextAllowed (l : List Int) (hl : bytesOK l) : CtrX (α := Bucket × Int) Try.prog 51 [.lst 1 (l.map encU)] [] (fun y => (bkIn y.1 ∧ (0 ≤ y.2 ∧ y.2 ≤ 1001)) ∧ True) (fun y => (.many [.v (encB y.1), .v (.int .i64 y.2)])) (fun y => []) := by
  have h : okC 0 (⟨l, 0, 0⟩ : Cur) := ⟨hl, Int.le_refl _, Int.le_refl _⟩
  refine CtrX.of (n := 14) (k := 0) G Try.func51 rfl (by kernel_rfl) rfl rfl rfl rfl (fun _ => rfl) rfl rfl (fun w0 _ hpin => ?_)
  refine W_seq (fun K1 hK1 => ?_)
  refine W_region (WL_cons rfl (WX_alloc_s G 1 rfl rfl rfl rfl rfl (WL_cons rfl (WX_q rfl rfl (q_assign rfl rfl) (?_)))))
  refine WL_nil (hK1 _ ?_)
  clear hK1 K1
  refine W_pinT (t := 0) rfl (fun y => ?_)
  refine W_seq (fun K2 hK2 => ?_)
  refine W_region (WL_cons rfl (WX_q rfl rfl (q_move rfl rfl) (WL_cons rfl (WX_q rfl rfl (q_build G rfl rfl rfl rfl) (WL_cons rfl (WX_box 2 rfl rfl rfl rfl rfl rfl rfl (WL_cons rfl (WX_q rfl rfl (q_assign rfl rfl) (?_)))))))))
  refine WL_nil (hK2 _ ?_)
  clear hK2 K2
  refine W_unpin (id := 1) rfl ?_
  refine W_seq (fun K3 hK3 => ?_)
  refine W_region (WL_cons rfl (WX_q rfl rfl (q_move rfl rfl) (WL_cons rfl (?_))))
  refine WX_callx 2 [1] rfl rfl rfl (c_spec_l1Cur_bucket h (by omega) 1 (by omega)) rfl (RowsIn.cons rfl RowsIn.nil) rfl (fun _ => rfl) rfl (fun x1 ⟨hv1, hc1⟩ => ?_)
  refine WL_cons rfl (WX_alloc_s G 3 rfl rfl rfl rfl rfl (WL_cons rfl (WX_store G rfl rfl rfl rfl rfl rfl rfl rfl rfl rfl rfl (?_))))
  refine WL_nil (hK3 _ ?_)
  clear hK3 K3
  refine W_seq (fun K4 hK4 => ?_)
  refine W_drawsH 5 [2] mixed (by kernel_rfl) rfl rfl (fun r0 => ?_) (fun _ h => h)
  refine WA_take 0 rfl (by kernel_rfl) (by kernel_rfl) rfl rfl rfl rfl (q_load_box_struct G rfl rfl rfl rfl rfl rfl) (WA_take 1 rfl (by kernel_rfl) (by kernel_rfl) rfl rfl rfl rfl (q_move rfl rfl) (?_))
  refine WA_branch (rs := [2]) (by kernel_rfl) rfl (AllB.cons ?_ AllB.nil)
  refine WB_run [2] rfl rfl (WX_callx 3 [1] rfl rfl rfl (c_spec_l1Cur_cost hc1 (by omega)) rfl (RowsIn.cons rfl RowsIn.nil) rfl (fun _ => rfl) rfl (fun x2 ⟨hv2, hc2⟩ => WL_nil ⟨rfl, ?_⟩))
  refine WA_branch (rs := [3]) (by kernel_rfl) rfl (AllB.cons ?_ AllB.nil)
  refine WB_run [2] rfl rfl (WX_store G rfl rfl rfl rfl rfl rfl rfl rfl rfl rfl rfl (WL_nil ⟨rfl, ?_⟩))
  refine WA_take 4 rfl (by kernel_rfl) (by kernel_rfl) rfl rfl rfl rfl (q_assign rfl rfl) (?_)
  refine WA_end (by kernel_rfl) (hK4 _ ?_)
  clear hK4 K4
  refine W_ret (finx ((x1.1, x2.1)) (finm_many rfl rfl rfl rfl (rcs_cons (rc_agg rfl ?_) (rcs_cons (rc_v ?_) rcs_nil)) rfl AftOK.nil) (⟨?_, ?_⟩))
  all_goals (first | rfl | trivial | (simp only [bkIn] at *; omega) | (refine ⟨?_, ?_, ?_⟩ <;> first | assumption | omega) | (refine ⟨?_, ?_⟩ <;> first | assumption | omega))

theorem c_spec_DrawTokensBy (l : List Int) (hl : bytesOK l) : CtrX (α := Bucket × Int) Try.prog 60 [.lst 1 (l.map encU)] [] (fun y => (bkIn y.1 ∧ (-2 ≤ y.2 ∧ y.2 ≤ 100101)) ∧ True) (fun y => (.many [.v (encB y.1), .v (.int .i64 y.2)])) (fun y => []) := by
  have h : okC 0 (⟨l, 0, 0⟩ : Cur) := ⟨hl, Int.le_refl _, Int.le_refl _⟩
  refine CtrX.of (n := 8) (k := 0) G Try.func60 rfl (by kernel_rfl) rfl rfl rfl rfl (fun _ => rfl) rfl rfl (fun w0 _ hpin => ?_)
  refine W_seq (fun K1 hK1 => ?_)
  refine W_region (WL_cons rfl (WX_alloc_s G 1 rfl rfl rfl rfl rfl (WL_cons rfl (WX_q rfl rfl (q_assign rfl rfl) (?_)))))
  refine WL_nil (hK1 _ ?_)
  clear hK1 K1
  refine W_seq (fun K2 hK2 => ?_)
  refine W_region (WL_cons rfl (WX_q rfl rfl (q_move rfl rfl) (WL_cons rfl (?_))))
  refine WX_callx 1 [] rfl rfl rfl (c_spec_DrawBringTo l hl) rfl RowsIn.nil rfl (fun _ => rfl) rfl (fun x1 ⟨hv1, hc1⟩ => ?_)
  refine WL_cons rfl (WX_q rfl rfl (q_extract rfl rfl rfl) (WL_cons rfl (WX_q rfl rfl (q_extract rfl rfl rfl) (WL_cons rfl (WX_store G rfl rfl rfl rfl rfl rfl rfl rfl rfl rfl rfl (WL_cons rfl (WX_q rfl rfl (q_assign rfl rfl) (?_))))))))
  refine WL_nil (hK2 _ ?_)
  clear hK2 K2
  refine W_ret (finx ((x1.1, x1.2)) (finm_many rfl rfl rfl rfl (rcs_cons (rc_agg rfl ?_) (rcs_cons (rc_v ?_) rcs_nil)) rfl AftOK.nil) (⟨?_, ?_⟩))
  all_goals (first | rfl | trivial | (simp only [bkIn] at *; omega) | (refine ⟨?_, ?_, ?_⟩ <;> first | assumption | omega) | (refine ⟨?_, ?_⟩ <;> first | assumption | omega))

end Go.Proofs.Yteplehpcplbioaa
