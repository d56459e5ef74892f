/- Walks through functions of the program, one contract each (written by gen.py). -/
import Derived.Test.YteplehpcplbioaaX3
set_option maxRecDepth 20000
set_option linter.unusedVariables false
set_option linter.unusedSimpArgs false
namespace Go.Proofs.Yteplehpcplbioaa
open Go Go.Rf

theorem c_spec_DrawUseOf (l : List Int) (hl : bytesOK l) : CtrX (α := List Bucket × Int × Int × Int) Try.prog 57 [.lst 1 (l.map encU)] [] (fun y => (bksIn y.1) ∧ True) (fun y => (.many [.fr 26 5 (y.1.map encBc), .v (.int .i64 y.2.1), .v (.int .i64 y.2.2.1), .v (.int .i64 y.2.2.2)])) (fun y => []) := by
  have h : okC 0 (⟨l, 0, 0⟩ : Cur) := ⟨hl, Int.le_refl _, Int.le_refl _⟩
  refine CtrX.of (n := 22) (k := 0) G Try.func57 rfl (by kernel_rfl) rfl rfl rfl rfl (fun _ => rfl) rfl rfl (fun w0 _ hpin => ?_)
  refine W_seq (fun K1 hK1 => ?_)
  refine W_region (WL_cons rfl (WX_q rfl rfl (q_assign rfl rfl) (WL_cons rfl (WX_q rfl rfl (q_assign rfl rfl) (WL_cons rfl (WX_q rfl rfl (q_assign rfl rfl) (WL_cons rfl (WX_q rfl rfl (q_assign rfl rfl) (?_)))))))))
  refine WL_nil (hK1 _ ?_)
  clear hK1 K1
  refine W_pinT (t := 0) rfl (fun y => ?_)
  refine W_seq (fun K2 hK2 => ?_)
  refine W_region (WL_cons rfl (WX_q rfl rfl (q_move rfl rfl) (WL_cons rfl (WX_q rfl rfl (q_build G rfl rfl rfl rfl) (WL_cons rfl (WX_box 1 rfl rfl rfl rfl rfl rfl rfl (WL_cons rfl (WX_q rfl rfl (q_assign rfl rfl) (?_)))))))))
  refine WL_nil (hK2 _ ?_)
  clear hK2 K2
  refine W_unpin (id := 0) rfl ?_
  refine W_seq (fun K3 hK3 => ?_)
  refine W_region (WL_cons rfl (WX_q rfl rfl (q_move rfl rfl) (WL_cons rfl (?_))))
  refine WX_callx 2 [0] rfl rfl rfl (c_spec_l1Cur_buckets h (by omega)) rfl (RowsIn.cons rfl RowsIn.nil) rfl (fun _ => rfl) rfl (fun x1 ⟨hv1, hc1⟩ => ?_)
  refine WL_cons rfl (WX_q rfl rfl (q_assign rfl rfl) (?_))
  refine WL_nil (hK3 _ ?_)
  clear hK3 K3
  refine W_seq (fun K4 hK4 => ?_)
  refine W_region (WL_cons rfl (WX_q rfl rfl (q_move rfl rfl) (WL_cons rfl (WX_q rfl rfl (q_move rfl rfl) (WL_cons rfl (WX_lit G 3 rfl rfl rfl rfl rfl rfl rfl rfl (WL_cons rfl (?_))))))))
  refine WX_callx 3 [0, 2] rfl rfl rfl (x_among hc1 (by omega) [1, 2, 3, 4, 0] (0) (4) (by decide) (by decide)) rfl (RowsIn.cons rfl (RowsIn.cons rfl RowsIn.nil)) rfl (fun _ => rfl) rfl (fun x2 ⟨hv2, hc2⟩ => ?_)
  refine WL_cons rfl (WX_q rfl rfl (q_move rfl rfl) (WL_cons rfl (WX_lit G 4 rfl rfl rfl rfl rfl rfl rfl rfl (WL_cons rfl (?_)))))
  refine WX_callx 4 [0, 3] rfl rfl rfl (x_among hc2 (by omega) [0, 10, 11, 30, 100000] (0) (100000) (by decide) (by decide)) rfl (RowsIn.cons rfl (RowsIn.cons rfl RowsIn.nil)) rfl (fun _ => rfl) rfl (fun x3 ⟨hv3, hc3⟩ => ?_)
  refine WL_cons rfl (WX_q rfl rfl (q_move rfl rfl) (WL_cons rfl (?_)))
  refine WX_callx 4 [0] rfl rfl rfl (c_spec_l1Cur_cost hc3 (by omega)) rfl (RowsIn.cons rfl RowsIn.nil) rfl (fun _ => rfl) rfl (fun x4 ⟨hv4, hc4⟩ => ?_)
  refine WL_cons rfl (WX_q rfl rfl (q_assign rfl rfl) (WL_cons rfl (WX_q rfl rfl (q_assign rfl rfl) (WL_cons rfl (WX_q rfl rfl (q_assign rfl rfl) (WL_cons rfl (WX_q rfl rfl (q_assign rfl rfl) (?_))))))))
  refine WL_nil (hK4 _ ?_)
  clear hK4 K4
  refine W_ret (finx ((x1.1, x2.1, x3.1, x4.1)) (finm_many rfl rfl rfl rfl (rcs_cons (rc_own rfl ?_) (rcs_cons (rc_v ?_) (rcs_cons (rc_v ?_) (rcs_cons (rc_v ?_) rcs_nil)))) rfl AftOK.nil) (⟨?_, ?_⟩))
  all_goals (first | rfl | trivial | assumption)

theorem c_spec_DrawWaitingGuests (l : List Int) (hl : bytesOK l) : CtrX (α := List Bucket × Int × Int) Try.prog 54 [.lst 1 (l.map encU)] [] (fun y => (bksIn y.1) ∧ True) (fun y => (.many [.fr 26 5 (y.1.map encBc), .v (.int .i64 y.2.1), .v (.int .i64 y.2.2)])) (fun y => []) := by
  have h : okC 0 (⟨l, 0, 0⟩ : Cur) := ⟨hl, Int.le_refl _, Int.le_refl _⟩
  refine CtrX.of (n := 23) (k := 0) G Try.func54 rfl (by kernel_rfl) rfl rfl rfl rfl (fun _ => rfl) rfl rfl (fun w0 _ hpin => ?_)
  refine W_seq (fun K1 hK1 => ?_)
  refine W_region (WL_cons rfl (WX_q rfl rfl (q_assign rfl rfl) (WL_cons rfl (WX_q rfl rfl (q_assign rfl rfl) (WL_cons rfl (WX_q rfl rfl (q_assign rfl rfl) (?_)))))))
  refine WL_nil (hK1 _ ?_)
  clear hK1 K1
  refine W_pinT (t := 0) rfl (fun y => ?_)
  refine W_seq (fun K2 hK2 => ?_)
  refine W_region (WL_cons rfl (WX_q rfl rfl (q_move rfl rfl) (WL_cons rfl (WX_q rfl rfl (q_build G rfl rfl rfl rfl) (WL_cons rfl (WX_box 1 rfl rfl rfl rfl rfl rfl rfl (WL_cons rfl (WX_q rfl rfl (q_assign rfl rfl) (?_)))))))))
  refine WL_nil (hK2 _ ?_)
  clear hK2 K2
  refine W_unpin (id := 0) rfl ?_
  refine W_seq (fun K3 hK3 => ?_)
  refine W_region (WL_cons rfl (WX_q rfl rfl (q_move rfl rfl) (WL_cons rfl (?_))))
  refine WX_callx 2 [0] rfl rfl rfl (c_spec_l1Cur_buckets h (by omega)) rfl (RowsIn.cons rfl RowsIn.nil) rfl (fun _ => rfl) rfl (fun x1 ⟨hv1, hc1⟩ => ?_)
  refine WL_cons rfl (WX_q rfl rfl (q_assign rfl rfl) (?_))
  refine WL_nil (hK3 _ ?_)
  clear hK3 K3
  refine W_seq (fun K4 hK4 => ?_)
  refine W_region (WL_cons rfl (WX_q rfl rfl (q_move rfl rfl) (WL_cons rfl (WX_q rfl rfl (q_move rfl rfl) (WL_cons rfl (WX_lit G 3 rfl rfl rfl rfl rfl rfl rfl rfl (WL_cons rfl (WX_q rfl rfl (q_move rfl rfl) (WL_cons rfl (?_))))))))))
  refine WX_callx 3 [0] rfl rfl rfl (x_pick hc1 (by omega) (24)) rfl (RowsIn.cons rfl RowsIn.nil) rfl (fun _ => rfl) rfl (fun x2 ⟨hv2, hc2⟩ => ?_)
  refine WL_cons rfl (?_)
  first | refine WX_q rfl rfl (q_quo_pos rfl rfl rfl (by omega) (by omega) (by omega)) ?_ | refine WX_q rfl rfl (q_quo rfl rfl rfl (by omega)) ?_
  refine WL_cons rfl (?_)
  first | refine WX_q rfl rfl (q_arith rfl rfl rfl rfl (by omega) (by omega)) ?_ | refine WX_q rfl rfl (q_wrap rfl rfl rfl rfl) ?_
  refine WL_cons rfl (?_)
  refine WX_q rfl rfl (q_cut_own G rfl rfl rfl rfl rfl rfl (by omega) (by first | omega | (simp; done) | (simp; omega)) (by first | omega | (simp; done) | (simp; omega))) ?_
  refine WL_cons rfl (?_)
  refine WX_callx 3 [0, 2] rfl rfl rfl (x_amongs hc2 (by omega) [10, 12, 99991, 100000, -1, 100001] (-1) (100001) _ (by first | decide | (simp; omega)) (by decide)) rfl (RowsIn.cons rfl (RowsIn.cons rfl RowsIn.nil)) rfl (fun _ => rfl) rfl (fun x3 ⟨hv3, hc3⟩ => ?_)
  refine WL_cons rfl (WX_q rfl rfl (q_move rfl rfl) (WL_cons rfl (?_)))
  refine WX_callx 3 [0] rfl rfl rfl (c_spec_l1Cur_cost hc3 (by omega)) rfl (RowsIn.cons rfl RowsIn.nil) rfl (fun _ => rfl) rfl (fun x4 ⟨hv4, hc4⟩ => ?_)
  refine WL_cons rfl (WX_q rfl rfl (q_assign rfl rfl) (WL_cons rfl (WX_q rfl rfl (q_assign rfl rfl) (WL_cons rfl (WX_q rfl rfl (q_assign rfl rfl) (?_))))))
  refine WL_nil (hK4 _ ?_)
  clear hK4 K4
  refine W_ret (finx ((x1.1, x3.1, x4.1)) (finm_many rfl rfl rfl rfl (rcs_cons (rc_own rfl ?_) (rcs_cons (rc_v ?_) (rcs_cons (rc_v ?_) rcs_nil))) rfl AftOK.nil) (⟨?_, ?_⟩))
  all_goals (first | rfl | trivial | assumption)

theorem c_spec_DrawScaleRates (l : List Int) (hl : bytesOK l) : CtrX (α := List Bucket × Int × Int) Try.prog 59 [.lst 1 (l.map encU)] [] (fun y => (bksIn y.1 ∧ (-1 ≤ y.2.1 ∧ y.2.1 ≤ 101) ∧ (0 ≤ y.2.2 ∧ y.2.2 ≤ 101)) ∧ True) (fun y => (.many [.fr 26 5 (y.1.map encBc), .v (.int .i64 y.2.1), .v (.int .i64 y.2.2)])) (fun y => []) := by
  have h : okC 0 (⟨l, 0, 0⟩ : Cur) := ⟨hl, Int.le_refl _, Int.le_refl _⟩
  refine CtrX.of (n := 29) (k := 0) G Try.func59 rfl (by kernel_rfl) rfl rfl rfl rfl (fun _ => rfl) rfl rfl (fun w0 _ hpin => ?_)
  refine W_seq (fun K1 hK1 => ?_)
  refine W_region (WL_cons rfl (WX_q rfl rfl (q_assign rfl rfl) (WL_cons rfl (WX_q rfl rfl (q_assign rfl rfl) (WL_cons rfl (WX_q rfl rfl (q_assign rfl rfl) (?_)))))))
  refine WL_nil (hK1 _ ?_)
  clear hK1 K1
  refine W_pinT (t := 0) rfl (fun y => ?_)
  refine W_seq (fun K2 hK2 => ?_)
  refine W_region (WL_cons rfl (WX_q rfl rfl (q_move rfl rfl) (WL_cons rfl (WX_q rfl rfl (q_build G rfl rfl rfl rfl) (WL_cons rfl (WX_box 1 rfl rfl rfl rfl rfl rfl rfl (WL_cons rfl (WX_q rfl rfl (q_assign rfl rfl) (?_)))))))))
  refine WL_nil (hK2 _ ?_)
  clear hK2 K2
  refine W_unpin (id := 0) rfl ?_
  refine W_seq (fun K3 hK3 => ?_)
  refine W_region (WL_cons rfl (WX_q rfl rfl (q_move rfl rfl) (WL_cons rfl (?_))))
  refine WX_callx 2 [0] rfl rfl rfl (c_spec_l1Cur_buckets h (by omega)) rfl (RowsIn.cons rfl RowsIn.nil) rfl (fun _ => rfl) rfl (fun x1 ⟨hv1, hc1⟩ => ?_)
  refine WL_cons rfl (WX_q rfl rfl (q_assign rfl rfl) (?_))
  refine WL_nil (hK3 _ ?_)
  clear hK3 K3
  refine W_seq (fun K4 hK4 => ?_)
  refine W_region (WL_cons rfl (WX_q rfl rfl (q_move rfl rfl) (WL_cons rfl (WX_q rfl rfl (q_move rfl rfl) (WL_cons rfl (WX_lit G 3 rfl rfl rfl rfl rfl rfl rfl rfl (WL_cons rfl (WX_q rfl rfl (q_move rfl rfl) (WL_cons rfl (?_))))))))))
  refine WX_callx 3 [0] rfl rfl rfl (x_pick hc1 (by omega) (24)) rfl (RowsIn.cons rfl RowsIn.nil) rfl (fun _ => rfl) rfl (fun x2 ⟨hv2, hc2⟩ => ?_)
  refine WL_cons rfl (?_)
  first | refine WX_q rfl rfl (q_quo_pos rfl rfl rfl (by omega) (by omega) (by omega)) ?_ | refine WX_q rfl rfl (q_quo rfl rfl rfl (by omega)) ?_
  refine WL_cons rfl (?_)
  first | refine WX_q rfl rfl (q_arith rfl rfl rfl rfl (by omega) (by omega)) ?_ | refine WX_q rfl rfl (q_wrap rfl rfl rfl rfl) ?_
  refine WL_cons rfl (?_)
  refine WX_q rfl rfl (q_cut_own G rfl rfl rfl rfl rfl rfl (by omega) (by first | omega | (simp; done) | (simp; omega)) (by first | omega | (simp; done) | (simp; omega))) ?_
  refine WL_cons rfl (?_)
  refine WX_callx 3 [0, 2] rfl rfl rfl (x_amongs hc2 (by omega) [0, 1, 2, 100, -1, 101] (-1) (101) _ (by first | decide | (simp; omega)) (by decide)) rfl (RowsIn.cons rfl (RowsIn.cons rfl RowsIn.nil)) rfl (fun _ => rfl) rfl (fun x3 ⟨hv3, hc3⟩ => ?_)
  refine WL_cons rfl (WX_q rfl rfl (q_move rfl rfl) (WL_cons rfl (WX_lit G 4 rfl rfl rfl rfl rfl rfl rfl rfl (WL_cons rfl (WX_q rfl rfl (q_move rfl rfl) (WL_cons rfl (?_)))))))
  refine WX_callx 4 [0] rfl rfl rfl (x_pick hc3 (by omega) (24)) rfl (RowsIn.cons rfl RowsIn.nil) rfl (fun _ => rfl) rfl (fun x4 ⟨hv4, hc4⟩ => ?_)
  refine WL_cons rfl (?_)
  first | refine WX_q rfl rfl (q_quo_pos rfl rfl rfl (by omega) (by omega) (by omega)) ?_ | refine WX_q rfl rfl (q_quo rfl rfl rfl (by omega)) ?_
  refine WL_cons rfl (?_)
  first | refine WX_q rfl rfl (q_arith rfl rfl rfl rfl (by omega) (by omega)) ?_ | refine WX_q rfl rfl (q_wrap rfl rfl rfl rfl) ?_
  refine WL_cons rfl (?_)
  refine WX_q rfl rfl (q_cut_own G rfl rfl rfl rfl rfl rfl (by omega) (by first | omega | (simp; done) | (simp; omega)) (by first | omega | (simp; done) | (simp; omega))) ?_
  refine WL_cons rfl (?_)
  refine WX_callx 4 [0, 3] rfl rfl rfl (x_amongs hc4 (by omega) [1, 2, 3, 100, 0, 101] (0) (101) _ (by first | decide | (simp; omega)) (by decide)) rfl (RowsIn.cons rfl (RowsIn.cons rfl RowsIn.nil)) rfl (fun _ => rfl) rfl (fun x5 ⟨hv5, hc5⟩ => ?_)
  refine WL_cons rfl (WX_q rfl rfl (q_assign rfl rfl) (WL_cons rfl (WX_q rfl rfl (q_assign rfl rfl) (WL_cons rfl (WX_q rfl rfl (q_assign rfl rfl) (?_))))))
  refine WL_nil (hK4 _ ?_)
  clear hK4 K4
  refine W_ret (finx ((x1.1, x3.1, x5.1)) (finm_many rfl rfl rfl rfl (rcs_cons (rc_own rfl ?_) (rcs_cons (rc_v ?_) (rcs_cons (rc_v ?_) rcs_nil))) rfl AftOK.nil) (⟨?_, ?_⟩))
  all_goals (first | rfl | trivial | exact ⟨by assumption, by assumption, by assumption⟩)

end Go.Proofs.Yteplehpcplbioaa
