/- Walks through functions of the program, one contract each (written by gen.py). -/
import Derived.Test.YteplehpcplbioaaW20
import Derived.Test.YteplehpcplbioaaRfXB
set_option maxRecDepth 20000
set_option linter.unusedVariables false
set_option linter.unusedSimpArgs false
namespace Go.Proofs.Yteplehpcplbioaa
open Go Go.Rf

theorem c_spec_l1Cur_among_s (x : Cur) (l : List Int) (k : Nat) (hn : 1 ≤ k ∧ k ≤ l.length ∧ l.length ≤ 1048576) (h0 : 0 ≤ x.a ∧ x.a ≤ 4611686018427387000) (hc : bytesOK x.c) : CtrM Try.prog 85 [.ptr 0 0, .sub 1 1 0 k] [.box [.lst 1 (x.c.map encU), .v (.int .i64 x.a), .v (.int .u64 x.s)], .row 3 1 (l.map encI)] (.one (.v (.int .i64 (l.getD (pkV x k).toNat default)))) [some (.box [.lst 1 ((pkC x k).c.map encU), .v (.int .i64 (pkC x k).a), .v (.int .u64 (pkC x k).s)]), some (.row 3 1 (l.map encI))] := by
  have hp := pk_in (x := x) (n := k) hc
  refine CtrM.of (n := 12) (k := 2) G Try.func85 rfl (by kernel_rfl) rfl rfl rfl rfl rfl rfl rfl (fun w0 _ hpin => ?_)
  refine W_seq (fun K1 hK1 => ?_)
  refine W_region (WL_cons rfl (WX_q rfl rfl (q_assign rfl rfl) (?_)))
  refine WL_nil (hK1 _ ?_)
  clear hK1 K1
  refine W_seq (fun K2 hK2 => ?_)
  refine W_region (WL_cons rfl (WX_q rfl rfl (q_move rfl rfl) (WL_cons rfl (WX_q rfl rfl (q_move rfl rfl) (WL_cons rfl (WX_q rfl rfl (q_move rfl rfl) (WL_cons rfl (WX_q rfl rfl (q_len G rfl rfl rfl rfl) (WL_cons rfl (?_))))))))))
  refine WX_callm 2 [0] rfl rfl rfl (c_spec_l1Cur_pick x k (by omega) hc) rfl (RowsIn.cons rfl RowsIn.nil) rfl rfl rfl ?_
  refine WL_cons rfl (?_)
  refine WX_q rfl rfl (q_index_sub G rfl rfl rfl rfl rfl (by omega) (by omega)) ?_
  refine WL_cons rfl (?_)
  first | refine WX_q rfl rfl (q_load_rpt G rfl rfl rfl rfl rfl (getNI2 (by omega) (by omega)) rfl) ?_ | refine WX_q rfl rfl (q_load_rpt G rfl rfl rfl rfl rfl (getNI (by omega) (by omega)) rfl) ?_
  refine WL_cons rfl (WX_q rfl rfl (q_assign rfl rfl) (?_))
  refine WL_nil (hK2 _ ?_)
  clear hK2 K2
  refine W_ret (finm_one rfl (rc_v ?_) rfl (AftOK.stays rfl ?_ rfl (AftOK.stays rfl ?_ rfl AftOK.nil)))
  all_goals (first | rfl | (simp; done))

end Go.Proofs.Yteplehpcplbioaa
