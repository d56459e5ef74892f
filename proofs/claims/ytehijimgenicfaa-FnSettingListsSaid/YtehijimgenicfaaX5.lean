/- Walks through functions of the program, one contract each (written by gen.py). -/
import Derived.Test.YtehijimgenicfaaX4
set_option maxRecDepth 20000
set_option linter.unusedVariables false
set_option linter.unusedSimpArgs false
namespace Go.Proofs.Ytehijimgenicfaa
open Go Go.Rf

theorem c_spec_DrawAreSettings (l : List Int) (hl : bytesOK l) : CtrX (α := List Setting) Try.prog 42 [.lst 1 (l.map encU)] [] (fun y => (y.length ≤ 34 ∧ namesOK y) ∧ True) (fun y => .one (.fr 39 6 (y.map encTc))) (fun y => []) := by
  have h : okC 0 (⟨l, 0, 0⟩ : Cur) := ⟨hl, Int.le_refl _, Int.le_refl _⟩
  refine CtrX.of (n := 9) (k := 0) G Try.func42 rfl (by kernel_rfl) rfl rfl rfl rfl (fun _ => rfl) rfl rfl (fun w0 _ hpin => ?_)
  refine W_seq (fun K1 hK1 => ?_)
  refine W_region (WL_cons rfl (WX_q rfl rfl (q_assign rfl rfl) (?_)))
  refine WL_nil (hK1 _ ?_)
  clear hK1 K1
  refine W_pinT (t := 0) rfl (fun y => ?_)
  refine W_seq (fun K2 hK2 => ?_)
  refine W_region (WL_cons rfl (WX_q rfl rfl (q_move rfl rfl) (WL_cons rfl (WX_q rfl rfl (q_build G rfl rfl rfl rfl) (WL_cons rfl (WX_box 1 rfl rfl rfl rfl rfl rfl rfl (WL_cons rfl (WX_q rfl rfl (q_assign rfl rfl) (?_)))))))))
  refine WL_nil (hK2 _ ?_)
  clear hK2 K2
  refine W_unpin (id := 0) rfl ?_
  refine W_seq (fun K3 hK3 => ?_)
  refine W_region (WL_cons rfl (WX_q rfl rfl (q_move rfl rfl) (WL_cons rfl (?_))))
  refine WX_callx 2 [0] rfl rfl rfl (c_spec_l1Cur_settings h (by omega)) rfl (RowsIn.cons rfl RowsIn.nil) rfl (fun _ => rfl) rfl (fun x1 ⟨hv1, hc1⟩ => ?_)
  refine WL_cons rfl (WX_q rfl rfl (q_assign rfl rfl) (?_))
  refine WL_nil (hK3 _ ?_)
  clear hK3 K3
  refine W_ret (finx (x1.1) (finm_one rfl (rc_own rfl ?_) rfl AftOK.nil) (⟨?_, ?_⟩))
  all_goals (first | rfl | trivial | assumption)

theorem c_spec_DrawFreeFrames (l : List Int) (hl : bytesOK l) : CtrX (α := List Setting) Try.prog 27 [.lst 1 (l.map encU)] [] (fun y => (y.length ≤ 34 ∧ namesOK y) ∧ True) (fun y => .one (.fr 39 6 (y.map encTc))) (fun y => []) := by
  have h : okC 0 (⟨l, 0, 0⟩ : Cur) := ⟨hl, Int.le_refl _, Int.le_refl _⟩
  refine CtrX.of (n := 5) (k := 0) G Try.func27 rfl (by kernel_rfl) rfl rfl rfl rfl (fun _ => rfl) rfl rfl (fun w0 _ hpin => ?_)
  refine W_seq (fun K1 hK1 => ?_)
  refine W_region (WL_cons rfl (WX_q rfl rfl (q_assign rfl rfl) (?_)))
  refine WL_nil (hK1 _ ?_)
  clear hK1 K1
  refine W_seq (fun K2 hK2 => ?_)
  refine W_region (WL_cons rfl (WX_q rfl rfl (q_move rfl rfl) (WL_cons rfl (?_))))
  refine WX_callx 1 [] rfl rfl rfl (c_spec_DrawAreSettings l hl) rfl RowsIn.nil rfl (fun _ => rfl) rfl (fun x1 ⟨hv1, hc1⟩ => ?_)
  refine WL_cons rfl (WX_q rfl rfl (q_assign rfl rfl) (?_))
  refine WL_nil (hK2 _ ?_)
  clear hK2 K2
  refine W_ret (finx (x1) (finm_one rfl (rc_own rfl ?_) rfl AftOK.nil) (⟨?_, ?_⟩))
  all_goals (first | rfl | trivial | assumption)

theorem c_spec_DrawPutSetting (l : List Int) (hl : bytesOK l) : CtrX (α := List Setting × Setting) Try.prog 24 [.lst 1 (l.map encU)] [] (fun y => ((y.1.length ≤ 34 ∧ namesOK y.1) ∧ y.2.n.size ≤ 9) ∧ True) (fun y => (.many [.fr 39 6 (y.1.map encTc), .v (encT y.2)])) (fun y => []) := by
  have h : okC 0 (⟨l, 0, 0⟩ : Cur) := ⟨hl, Int.le_refl _, Int.le_refl _⟩
  refine CtrX.of (n := 17) (k := 0) G Try.func24 rfl (by kernel_rfl) rfl rfl rfl rfl (fun _ => rfl) rfl rfl (fun w0 _ hpin => ?_)
  refine W_seq (fun K1 hK1 => ?_)
  refine W_region (WL_cons rfl (WX_q rfl rfl (q_assign rfl rfl) (WL_cons rfl (WX_alloc_s G 1 rfl rfl rfl rfl rfl (?_)))))
  refine WL_nil (hK1 _ ?_)
  clear hK1 K1
  refine W_pinT (t := 0) rfl (fun y => ?_)
  refine W_seq (fun K2 hK2 => ?_)
  refine W_region (WL_cons rfl (WX_q rfl rfl (q_move rfl rfl) (WL_cons rfl (WX_q rfl rfl (q_build G rfl rfl rfl rfl) (WL_cons rfl (WX_box 2 rfl rfl rfl rfl rfl rfl rfl (WL_cons rfl (WX_q rfl rfl (q_assign rfl rfl) (?_)))))))))
  refine WL_nil (hK2 _ ?_)
  clear hK2 K2
  refine W_unpin (id := 1) rfl ?_
  refine W_seq (fun K3 hK3 => ?_)
  refine W_region (WL_cons rfl (WX_q rfl rfl (q_move rfl rfl) (WL_cons rfl (?_))))
  refine WX_callx 3 [1] rfl rfl rfl (c_spec_l1Cur_settings h (by omega)) rfl (RowsIn.cons rfl RowsIn.nil) rfl (fun _ => rfl) rfl (fun x1 ⟨hv1, hc1⟩ => ?_)
  refine WL_cons rfl (WX_q rfl rfl (q_assign rfl rfl) (?_))
  refine WL_nil (hK3 _ ?_)
  clear hK3 K3
  refine W_seq (fun K4 hK4 => ?_)
  refine W_region (WL_cons rfl (WX_q rfl rfl (q_move rfl rfl) (WL_cons rfl (WX_q rfl rfl (q_move rfl rfl) (WL_cons rfl (WX_q rfl rfl (q_move rfl rfl) (WL_cons rfl (?_))))))))
  refine WX_callx 3 [1] rfl rfl rfl (x_pick hc1 (by omega) (4)) rfl (RowsIn.cons rfl RowsIn.nil) rfl (fun _ => rfl) rfl (fun x2 ⟨hv2, hc2⟩ => ?_)
  refine WL_cons rfl (?_)
  first | refine WX_q rfl rfl (q_arith rfl rfl rfl rfl (by omega) (by omega)) ?_ | refine WX_q rfl rfl (q_wrap rfl rfl rfl rfl) ?_
  refine WL_cons rfl (?_)
  refine WX_callx 3 [1] rfl rfl rfl (c_spec_l1Cur_setting hc2 (by omega) _) rfl (RowsIn.cons rfl RowsIn.nil) rfl (fun _ => rfl) rfl (fun x3 ⟨hv3, hc3⟩ => ?_)
  refine WL_cons rfl (WX_q rfl rfl (q_assign rfl rfl) (WL_cons rfl (WX_store G rfl rfl rfl rfl rfl rfl rfl rfl rfl rfl rfl (?_))))
  refine WL_nil (hK4 _ ?_)
  clear hK4 K4
  refine W_ret (finx ((x1.1, x3.1)) (finm_many rfl rfl rfl rfl (rcs_cons (rc_own rfl ?_) (rcs_cons (rc_agg rfl ?_) rcs_nil)) rfl AftOK.nil) (⟨?_, ?_⟩))
  all_goals (first | rfl | trivial | exact ⟨by assumption, by assumption⟩)

theorem c_spec_DrawDropSetting (l : List Int) (hl : bytesOK l) : CtrX (α := List Setting × Int) Try.prog 26 [.lst 1 (l.map encU)] [] (fun y => (y.1.length ≤ 34 ∧ namesOK y.1) ∧ True) (fun y => (.many [.fr 39 6 (y.1.map encTc), .v (.int .i64 y.2)])) (fun y => []) := by
  have h : okC 0 (⟨l, 0, 0⟩ : Cur) := ⟨hl, Int.le_refl _, Int.le_refl _⟩
  refine CtrX.of (n := 20) (k := 0) G Try.func26 rfl (by kernel_rfl) rfl rfl rfl rfl (fun _ => rfl) rfl rfl (fun w0 _ hpin => ?_)
  refine W_seq (fun K1 hK1 => ?_)
  refine W_region (WL_cons rfl (WX_q rfl rfl (q_assign rfl rfl) (WL_cons rfl (WX_q rfl rfl (q_assign rfl rfl) (?_)))))
  refine WL_nil (hK1 _ ?_)
  clear hK1 K1
  refine W_pinT (t := 0) rfl (fun y => ?_)
  refine W_seq (fun K2 hK2 => ?_)
  refine W_region (WL_cons rfl (WX_q rfl rfl (q_move rfl rfl) (WL_cons rfl (WX_q rfl rfl (q_build G rfl rfl rfl rfl) (WL_cons rfl (WX_box 1 rfl rfl rfl rfl rfl rfl rfl (WL_cons rfl (WX_q rfl rfl (q_assign rfl rfl) (?_)))))))))
  refine WL_nil (hK2 _ ?_)
  clear hK2 K2
  refine W_unpin (id := 0) rfl ?_
  refine W_seq (fun K3 hK3 => ?_)
  refine W_region (WL_cons rfl (WX_q rfl rfl (q_move rfl rfl) (WL_cons rfl (?_))))
  refine WX_callx 2 [0] rfl rfl rfl (c_spec_l1Cur_settings h (by omega)) rfl (RowsIn.cons rfl RowsIn.nil) rfl (fun _ => rfl) rfl (fun x1 ⟨hv1, hc1⟩ => ?_)
  refine WL_cons rfl (WX_q rfl rfl (q_assign rfl rfl) (?_))
  refine WL_nil (hK3 _ ?_)
  clear hK3 K3
  refine W_seq (fun K4 hK4 => ?_)
  refine W_region (WL_cons rfl (WX_q rfl rfl (q_move rfl rfl) (WL_cons rfl (WX_q rfl rfl (q_move rfl rfl) (WL_cons rfl (WX_lit G 3 rfl rfl rfl rfl rfl rfl rfl rfl (WL_cons rfl (WX_q rfl rfl (q_move rfl rfl) (WL_cons rfl (?_))))))))))
  refine WX_callx 3 [0] rfl rfl rfl (x_pick hc1 (by omega) (24)) rfl (RowsIn.cons rfl RowsIn.nil) rfl (fun _ => rfl) rfl (fun x2 ⟨hv2, hc2⟩ => ?_)
  refine WL_cons rfl (?_)
  first | refine WX_q rfl rfl (q_quo_pos rfl rfl rfl (by omega) (by omega) (by omega)) ?_ | refine WX_q rfl rfl (q_quo rfl rfl rfl (by omega)) ?_
  refine WL_cons rfl (?_)
  first | refine WX_q rfl rfl (q_arith rfl rfl rfl rfl (by omega) (by omega)) ?_ | refine WX_q rfl rfl (q_wrap rfl rfl rfl rfl) ?_
  refine WL_cons rfl (?_)
  refine WX_q rfl rfl (q_cut_own G rfl rfl rfl rfl rfl rfl (by omega) (by first | omega | (simp; done) | (simp; omega)) (by first | omega | (simp; done) | (simp; omega))) ?_
  refine WL_cons rfl (?_)
  refine WX_callx 3 [0, 2] rfl rfl rfl (x_amongs hc2 (by omega) [1, 2, 3, 4, 0, 5] (0) (5) _ (by first | decide | (simp; omega)) (by decide)) rfl (RowsIn.cons rfl (RowsIn.cons rfl RowsIn.nil)) rfl (fun _ => rfl) rfl (fun x3 ⟨hv3, hc3⟩ => ?_)
  refine WL_cons rfl (WX_q rfl rfl (q_assign rfl rfl) (WL_cons rfl (WX_q rfl rfl (q_assign rfl rfl) (?_))))
  refine WL_nil (hK4 _ ?_)
  clear hK4 K4
  refine W_ret (finx ((x1.1, x3.1)) (finm_many rfl rfl rfl rfl (rcs_cons (rc_own rfl ?_) (rcs_cons (rc_v ?_) rcs_nil)) rfl AftOK.nil) (⟨?_, ?_⟩))
  all_goals (first | rfl | trivial | assumption)

end Go.Proofs.Ytehijimgenicfaa
