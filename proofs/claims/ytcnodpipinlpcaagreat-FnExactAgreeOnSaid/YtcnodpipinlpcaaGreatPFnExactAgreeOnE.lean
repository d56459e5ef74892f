/- Texts merged into one: M15, M8, M16, M17, M12, M13, M18. -/
import Derived.Test.YtcnodpipinlpcaaGreatPFnExactAgreeOnD
set_option maxRecDepth 20000
set_option linter.unusedVariables false
set_option linter.unusedSimpArgs false
namespace Go.Proofs.YtcnodpipinlpcaaGreat
open Go Go.Rf
set_option maxHeartbeats 4000000 in
theorem c_spec_l10Good (x : Ifc) (hn : x.st.length ≤ 1048576) (hl : x.qu.sl.length ≤ 1048576) (hw : x.qu.wa.length ≤ 1048576) : Ctr Tryz.prog 149 [.agg [.v (.int .i64 x.ma), .lst 1 (x.st.map Rf.encI), .lst 3 (x.qu.sl.map encSl), .lst 2 (x.qu.wa.map encWa)]] (.one (.v (.bool (okIf x)))) := by
 refine Ctr.of (n := 74) G Tryz.func149 rfl vm175 rfl rfl rfl (fun w0 => ?_)
 refine W_pinS 0 rfl (fun _ => rfl) (fun u0 => ?_)
 refine W_sq ?_
 refine vm38 ?_
 refine vm100 ?_
 refine vm103 ?_
 refine WX_q rfl rfl (q_call rfl (ArgsOK.of rfl) (c_spec_l1In x.ma 0 16) rfl) ?_
 refine vm33 ?_
 refine WL_part rfl rfl rfl (fun h1 => ?_) (fun h1 => ?_)
 ·try rw [h1]
  try simp only [rfb] at h1
  refine zgn ?_
  refine W_true rfl ?_
  refine vm24 ?_
  all_goals exact vm124
 try rw [h1]
 try simp only [rfb] at h1
 refine vm33 ?_
 refine vm78 ?_
 refine WX_q rfl rfl (q_call rfl (ArgsOK.of rfl) (c_spec_l9Good x.qu hl hw) rfl) ?_
 refine zgn ?_
 refine W_cond rfl (fun h2 => ?_) (fun h2 => ?_)
 ·try rw [h2]
  try simp only [rfb] at h2
  refine vm24 ?_
  all_goals exact vm124
 try rw [h2]
 try simp only [rfb] at h2
 have hq := okQu_iff.mp h2
 have hSl := hq.1.sl
 have hl4 := hSl.len
 refine vm100 ?_
 refine vm41 ?_
 refine vm7 ?_
 refine WX_call 2 rfl rfl rfl (ArgsOK.of rfl) (c_spec_l8Active x.qu.sl hSl) rfl rfl ?_
 refine zgn ?_
 refine zgn ?_
 refine W_block (W_loopK [1, 3] [0, 1] (fun (i : Nat) => [(4, .v (.int .i64 (i : Int)))]) (fun (i : Nat) => []) (fun (i : Nat) => i ≤ x.st.length ∧ StP x.qu.sl x.st i) (fun (i : Nat) => x.st.length - i) 0 rfl rfl ?_ ?_ ?_ ?_)
 ·exact ⟨Nat.zero_le _, stP_0⟩
 ·exact ⟨⟨_, rfl, by (first | rfl | (simp; done) | (simp; omega))⟩, rfl, trivial⟩
 ·exact trivial
 intro i hinv
 have hti : 0 < i → ((i : Int) - 1).toNat = i - 1 := fun _ => (by omega)
 simp only [List.cons_append, List.nil_append]
 refine zgn ?_
 refine W_cond rfl (fun h3 => ?_) (fun h3 => ?_)
 ·try rw [h3]
  try simp only [rfb] at h3
  refine vm100 ?_
  refine W_block (W_sq ?_)
  refine vm80 ?_
  iterate 6 refine zst ?_
  refine QL_cons rfl (QX_q rfl rfl (q_call rfl vm206 (c_spec_l1Has (actS x.qu.sl 4) _ (by have := @actS_len x.qu.sl 4; have := @actN_len x.qu.sl 4; omega)) rfl) ?_)
  refine vm33 ?_
  refine QL_part rfl rfl rfl (fun h4 => ?_) (fun h4 => ?_)
  ·try rw [h4]
   try simp only [rfb] at h4
   refine zgn ?_
   refine W_true rfl ?_
   refine vm24 ?_
   all_goals exact vm124
  try rw [h4]
  try simp only [rfb] at h4
  have hm := (actS_mem 4).mp (hasI_iff.mp h4)
  iterate 3 refine zst ?_
  refine vm34 ?_
  refine vm102 ?_
  refine vm94 ?_
  refine QX_q rfl rfl (q_call rfl vm206 (c_spec_l1Has (x.st.take i) _ (by rw [List.length_take]; omega)) rfl) ?_
  refine zgn ?_
  refine W_cond rfl (fun h5 => ?_) (fun h5 => ?_)
  ·try rw [h5]
   try simp only [rfb] at h5
   refine vm24 ?_
   all_goals exact vm124
  try rw [h5]
  try simp only [rfb] at h5
  refine zgn ?_
  refine vm80 ?_
  iterate 3 refine zst ?_
  refine QL_part rfl rfl rfl (fun h6 => ?_) (fun h6 => ?_)
  ·try rw [h6]
   try simp only [rfb] at h6
   have hl1 := act_in (hinv.2.inn (i - 1) (by omega)) hl4
   have hl2 := act_in hm hl4
   refine vm102 ?_
   refine vm94 ?_
   refine vm46 ?_
   refine vm94 ?_
   refine QX_q rfl rfl (q_call rfl (ArgsOK.of rfl) (c_spec_l10Level x.qu _ hl (by rw [hti (by omega)]; exact hl1)) rfl) ?_
   iterate 7 refine zst ?_
   refine vm94 ?_
   refine QX_q rfl rfl (q_call rfl (ArgsOK.of rfl) (c_spec_l10Level x.qu _ hl hl2) rfl) ?_
   refine zgn ?_
   refine W_cond rfl (fun h7 => ?_) (fun h7 => ?_)
   ·try rw [h7]
    try simp only [rfb] at h7
    refine vm24 ?_
    all_goals exact vm124
   try rw [h7]
   try simp only [rfb] at h7
   refine vm81 ?_
   refine ⟨(i + 1), ?_, ?_, ⟨⟨_, rfl, by rfl⟩, rfl, trivial⟩, trivial, rfl, rfl, rfl⟩
   ·exact ⟨by omega, hinv.2.succ hm (fun k hk e => (hasI_nf.mp h5) ((mem_take (by omega)).mpr ⟨k, hk, e⟩)) vm215⟩
   omega
  try rw [h6]
  try simp only [rfb] at h6
  refine zgn ?_
  refine W_false rfl ?_
  refine vm81 ?_
  refine ⟨(i + 1), ?_, ?_, ⟨⟨_, rfl, by rfl⟩, rfl, trivial⟩, trivial, rfl, rfl, rfl⟩
  ·exact ⟨by omega, hinv.2.succ hm (fun k hk e => (hasI_nf.mp h5) ((mem_take (by omega)).mpr ⟨k, hk, e⟩)) vm215⟩
  omega
 try rw [h3]
 try simp only [rfb] at h3
 refine zgn ?_
 refine vm24 ?_
 all_goals exact vm124
set_option maxHeartbeats 4000000 in
theorem c_spec_l21Queue (rs : List Route) (q : Que) (k : Nat) (hr8 : rs.length = 8) (hF : QF q) (hk : k ≤ 8) : Ctr Tryz.prog 150 [.lst 2 (rs.map encRo), .agg [.lst 3 (q.sl.map encSl), .lst 2 (q.wa.map encWa)], .v (.int .i64 (k : Int))] (.one (.v (.bool (okRq rs q k)))) := by
 have hl4 := hF.sl.len
 have hwn := hF.wn8
 refine Ctr.of (n := 83) G Tryz.func150 rfl vm175 rfl rfl rfl (fun w0 => ?_)
 refine W_pinS 1 rfl (fun _ => rfl) (fun u1 => ?_)
 refine vm1 ?_
 refine zgo ?_
 refine W_loopK [0, 2, 4] [0] (fun (i : Nat) => [(7, .v (.int .i64 (i : Int)))]) (fun (i : Nat) => []) (fun (i : Nat) => i ≤ 4 ∧ ∀ t, t < i → rtS rs k (q.sl.getD t default) = true) (fun (i : Nat) => 4 - i) 0 rfl rfl ?_ ?_ ?_ ?_
 ·exact ⟨Nat.zero_le _, fun j hj => by omega⟩
 ·exact ⟨⟨_, rfl, by (first | rfl | (simp; done) | (simp; omega))⟩, rfl, trivial⟩
 ·exact trivial
 intro i hi
 simp only [List.cons_append, List.nil_append]
 refine zcd (fun h1 => ?_) (fun h1 => ?_)
 ·refine zgo ?_
  refine vm12 ?_
  refine zgd ?_
  refine zcd (fun h2 => ?_) (fun h2 => ?_)
  ·refine zwt ?_
   refine zf1 ?_
   all_goals exact vm125
  have hb0 := hF.sl.ok i (by omega)
  refine zcd (fun h3 => ?_) (fun h3 => ?_)
  ·have hb := (hF.sl.ok i (by omega) h3).2.1
   refine zcd (fun h4 => ?_) (fun h4 => ?_)
   ·refine zwt ?_
    refine zf1 ?_
    all_goals exact vm125
   refine zcd (fun h5 => ?_) (fun h5 => ?_)
   ·refine zf1 ?_
    all_goals exact vm125
   refine zgo ?_
   refine ⟨(i + 1), ?_, ?_, ⟨⟨_, rfl, by rfl⟩, rfl, trivial⟩, trivial, rfl, rfl, rfl⟩
   ·exact ⟨by omega, upto_succ hi.2 (rtS_iff.mpr ⟨by omega, by first | exact .inl (by omega) | exact .inr ⟨by assumption, by assumption⟩⟩)⟩
   omega
  refine zwf ?_
  refine zgo ?_
  refine ⟨(i + 1), ?_, ?_, ⟨⟨_, rfl, by rfl⟩, rfl, trivial⟩, trivial, rfl, rfl, rfl⟩
  ·exact ⟨by omega, upto_succ hi.2 (rtS_iff.mpr ⟨by omega, by first | exact .inl (by omega) | exact .inr ⟨by assumption, by assumption⟩⟩)⟩
  omega
 refine zgo ?_
 refine W_loopK [0, 2, 4] [0] (fun (j : Nat) => [(9, .v (.int .i64 (j : Int)))]) (fun (j : Nat) => []) (fun (j : Nat) => j ≤ q.wa.length ∧ ∀ t, t < j → rtW rs k (q.wa.getD t default) = true) (fun (j : Nat) => q.wa.length - j) 0 rfl rfl ?_ ?_ ?_ ?_
 ·exact ⟨Nat.zero_le _, fun j hj => by omega⟩
 ·exact ⟨⟨_, rfl, by (first | rfl | (simp; done) | (simp; omega))⟩, rfl, trivial⟩
 ·exact trivial
 intro j hj
 simp only [List.cons_append, List.nil_append]
 refine zcd (fun h6 => ?_) (fun h6 => ?_)
 ·have hbw := (hF.wa _ (mem_getD.mpr ⟨j, by omega, rfl⟩)).1
  refine zgo ?_
  refine vm12 ?_
  refine zgd ?_
  refine zcd (fun h7 => ?_) (fun h7 => ?_)
  ·refine zwt ?_
   refine zf1 ?_
   all_goals exact vm125
  refine zcd (fun h8 => ?_) (fun h8 => ?_)
  ·refine zf1 ?_
   all_goals exact vm125
  refine zgo ?_
  refine ⟨(j + 1), ?_, ?_, ⟨⟨_, rfl, by rfl⟩, rfl, trivial⟩, trivial, rfl, rfl, rfl⟩
  ·exact ⟨by omega, upto_succ hj.2 (rtW_iff.mpr ⟨by assumption, by assumption⟩)⟩
  omega
 refine zf1 ?_
 all_goals exact vm125
end Go.Proofs.YtcnodpipinlpcaaGreat
set_option maxRecDepth 20000
set_option linter.unusedVariables false
set_option linter.unusedSimpArgs false
namespace Go.Proofs.YtcnodpipinlpcaaGreat
open Go Go.Rf
set_option maxHeartbeats 4000000 in
theorem c_spec_l21Routes_bad (rs : List Route) (c : Int) (hn : rs.length ≤ 1048576) (hc : inside c 1 2 = false) : Ctr Tryz.prog 130 [.lst 2 (rs.map encRo), .v (.int .i64 c)] (.one (.v (.bool (false)))) := by
 refine Ctr.of (n := 37) G Tryz.func130 rfl vm175 rfl rfl rfl (fun w0 => ?_)
 refine zgn ?_
 refine zgn ?_
 refine W_block (W_loopK [0, 1] [] (fun (i : Nat) => [(5, .v (.int .i64 (i : Int)))]) (fun (i : Nat) => []) (fun (i : Nat) => i ≤ rs.length) (fun (i : Nat) => rs.length - i) 0 rfl rfl ?_ ?_ ?_ ?_)
 ·exact Nat.zero_le _
 ·exact ⟨⟨_, rfl, by (first | rfl | (simp; done) | (simp; omega))⟩, rfl, trivial⟩
 ·exact trivial
 intro i hinv
 simp only [List.cons_append, List.nil_append]
 refine zgn ?_
 refine W_cond rfl (fun h1 => ?_) (fun h1 => ?_)
 ·try rw [h1]
  try simp only [rfb] at h1
  refine vm100 ?_
  refine W_block ?_
  refine vm64 ?_
  refine vm102 ?_
  refine vm7 ?_
  refine WX_q rfl rfl (q_call rfl (ArgsOK.of rfl) (c_spec_l6Prio _) rfl) ?_
  refine vm33 ?_
  refine WL_part rfl rfl rfl (fun h2 => ?_) (fun h2 => ?_)
  ·try rw [h2]
   try simp only [rfb] at h2
   refine zgn ?_
   refine W_true rfl ?_
   refine vm24 ?_
   all_goals exact vm131
  try rw [h2]
  try simp only [rfb] at h2
  iterate 6 refine zst ?_
  refine vm78 ?_
  first | refine WX_q rfl rfl (q_arith rfl rfl rfl rfl (by omega) (by omega)) ?_ | refine WX_q rfl rfl (q_wrap rfl rfl rfl rfl) ?_
  refine vm78 ?_
  refine WX_q rfl rfl (q_call rfl (ArgsOK.of rfl) (c_spec_l1In _ _ _) rfl) ?_
  refine zgn ?_
  refine W_cond rfl (fun h3 => ?_) (fun h3 => ?_)
  ·try rw [h3]
   try simp only [rfb] at h3
   refine vm24 ?_
   all_goals exact vm131
  try rw [h3]
  try simp only [rfb] at h3
  refine vm81 ?_
  refine ⟨(i + 1), ?_, ?_, ⟨⟨_, rfl, by rfl⟩, rfl, trivial⟩, trivial, rfl, rfl, rfl⟩
  ·omega
  omega
 try rw [h1]
 try simp only [rfb] at h1
 refine zgn ?_
 refine vm64 ?_
 refine zst ?_
 refine vm7 ?_
 refine WX_q rfl rfl (q_call rfl (ArgsOK.of rfl) (c_spec_l1In _ _ _) rfl) ?_
 refine zst ?_
 refine WL_part rfl rfl rfl (fun h4 => ?_) (fun h4 => ?_)
 ·try rw [h4]
  try simp only [rfb] at h4
  refine vm24 ?_
  all_goals exact vm131
 try rw [h4]
 try simp only [rfb] at h4
 refine vm24 ?_
 all_goals exact vm131
set_option maxHeartbeats 4000000 in
theorem c_spec_l21Routes_any (rs : List Route) (c : Int) (hn : rs.length ≤ 1048576) : Ctr Tryz.prog 130 [.lst 2 (rs.map encRo), .v (.int .i64 c)] (.one (.v (.bool (okRts rs c)))) := by
 cases h : inside c 1 2
 ·have e : okRts rs c = false := by simp only [okRts, h, Bool.false_and]
  rw [e]; exact c_spec_l21Routes_bad rs c hn h
 exact c_spec_l21Routes rs c hn (by have := inside_t.mp h; omega)
end Go.Proofs.YtcnodpipinlpcaaGreat
set_option maxRecDepth 20000
set_option linter.unusedVariables false
set_option linter.unusedSimpArgs false
namespace Go.Proofs.YtcnodpipinlpcaaGreat
open Go Go.Rf
theorem eqT118_slicesCloneloopexampleg00843implWaiterloopexampleg00843implWaiter : eqTypeB Tryz.prog 118 [.int .i64, .int .i64] = true := by kernel_rfl
set_option maxHeartbeats 4000000 in
theorem c_slices_Clone_impl_Waiter_impl_Waiter (wa : List Wtr) (hw : wa.length ≤ 1048576) : Ctr Tryz.prog 172 [.lst 2 (wa.map encWa)] (.one (.fr 183 2 (wa.map encWa))) := by
 refine Ctr.of (n := 8) G Tryz.func172 rfl vm175 rfl rfl rfl (fun w0 => ?_)
 refine zgo ?_
 refine WL_cons rfl (WX_nilS G rfl rfl rfl rfl rfl (fun bn hbn => ?_))
 refine zcd (fun h1 => ?_) (fun h1 => ?_)
 ·refine zgo ?_
  refine W_ret (fin_one rfl (rc_nil ?_))
  all_goals (first | rfl | (exact (hbn h1).symm) | (rw [hbn h1]; done) | (simp_all; done) | simp)
 refine vm84 ?_
 refine zgo ?_
 refine vm14 ?_
 refine zfo ?_
 all_goals (first | rfl | (exact (hbn h1).symm) | (rw [hbn h1]; done) | (simp_all; done) | simp)
set_option maxHeartbeats 4000000 in
theorem c_impl_fitsRoutes_1 (w : Wtr) (rs : List Route) (k : Nat) (hr8 : rs.length = 8) (hw : 0 ≤ w.q ∧ w.q ≤ 7) : Ctr Tryz.prog 175 [.v (encWv w), .eptN [.lst 2 (rs.map encRo)], .ept [.int .i64 (k : Int)]] (.one (.v (.bool (!rtW rs k w)))) := by
 refine Ctr.of (n := 15) G Tryz.func175 rfl vm175 rfl rfl rfl (fun w0 => ?_)
 refine vm1 ?_
 refine zgd ?_
 refine QL_cons rfl (QX_q rfl rfl (q_load_eptN G rfl rfl rfl rfl) ?_)
 refine zgo ?_
 refine QL_cons rfl (QX_q rfl rfl (q_nes [.int .i64, .int .i64] rfl rfl rfl rfl rfl rfl rfl (.inl rfl) (.inl rfl) eqT118_slicesCloneloopexampleg00843implWaiterloopexampleg00843implWaiter ⟨_, _, rfl, ⟨_, rfl⟩, _, _, rfl, ⟨_, rfl⟩, rfl⟩ ⟨_, _, rfl, ⟨_, rfl⟩, _, _, rfl, ⟨_, rfl⟩, rfl⟩) ?_)
 refine zf1 ?_
 all_goals ((refine congrArg Value.bool ?_; rw [Bool.eq_iff_iff, Bool.not_eq_true', Bool.not_eq_true', ← Bool.not_eq_true, ← Bool.not_eq_true (b := rtW rs k w), ec2, rtW_iff]; exact not_congr And.comm))
set_option maxHeartbeats 4000000 in
theorem c_slices_IndexFunc_impl_Waiter_impl_Waiter_r (xs : List Wtr) (f : Nat) (rs : List Route) (c : List Value) (p : Wtr → Bool) (hl : xs.length ≤ 1048576) (hf : ∀ i, i < xs.length → Ctr Tryz.prog f [.v (encWv (xs.getD i default)), .eptN [.lst 2 (rs.map encRo)], .ept c] (.one (.v (.bool (p (xs.getD i default)))))) : Ctr Tryz.prog 213 [.lst 2 (xs.map encWa), .fnc f [.eptN [.lst 2 (rs.map encRo)], .ept c]] (.one (.v (.int .i64 (idxN (fun i => p (xs.getD i default)) xs.length)))) := by
 refine Ctr.of (n := 19) G Tryz.func213 rfl vm175 rfl rfl rfl (fun w0 => ?_)
 refine zgo ?_
 refine W_loopK [0, 1, 7] [] (fun (i : Nat) => [(8, .v (.int .i64 (i : Int)))]) (fun (i : Nat) => []) (fun (i : Nat) => i ≤ xs.length ∧ ∀ j, j < i → p (xs.getD j default) = false) (fun (i : Nat) => xs.length - i) 0 rfl rfl ?_ ?_ ?_ ?_
 ·exact ⟨Nat.zero_le _, fun j hj => by omega⟩
 ·exact ⟨⟨_, rfl, by (first | rfl | (simp; done) | (simp; omega))⟩, rfl, trivial⟩
 ·exact trivial
 intro i hinv
 simp only [List.cons_append, List.nil_append]
 refine zcd (fun h1 => ?_) (fun h1 => ?_)
 ·refine vm39 ?_
  refine zcd (fun h2 => ?_) (fun h2 => ?_)
  ·refine zf1 ?_
   all_goals exact vm109
  refine zgo ?_
  refine ⟨(i + 1), ?_, ?_, ⟨⟨_, rfl, by rfl⟩, rfl, trivial⟩, trivial, rfl, rfl, rfl⟩
  ·exact ⟨by omega, upto_succ hinv.2 vm177⟩
  omega
 refine zf1 ?_
 all_goals exact vm109
set_option maxHeartbeats 4000000 in
theorem c_slices_ContainsFunc_impl_Waiter_impl_Waiter (xs : List Wtr) (f : Nat) (rs : List Route) (c : List Value) (p : Wtr → Bool) (hl : xs.length ≤ 1048576) (hf : ∀ i, i < xs.length → Ctr Tryz.prog f [.v (encWv (xs.getD i default)), .eptN [.lst 2 (rs.map encRo)], .ept c] (.one (.v (.bool (p (xs.getD i default)))))) : Ctr Tryz.prog 174 [.lst 2 (xs.map encWa), .fnc f [.eptN [.lst 2 (rs.map encRo)], .ept c]] (.one (.v (.bool (anyN xs.length (fun i => p (xs.getD i default)))))) := by
 refine Ctr.of (n := 9) G Tryz.func174 rfl vm175 rfl rfl rfl (fun w0 => ?_)
 refine zcl (c_slices_IndexFunc_impl_Waiter_impl_Waiter_r xs f rs c p hl hf) ?_
 refine zf1 ?_
 all_goals (rw [idx_any])
set_option maxHeartbeats 4000000 in
theorem c_impl_fitsRoutes (rs : List Route) (k : Nat) (x : Ifc) (hr8 : rs.length = 8) (hF : IfF x) (hk : k ≤ 8) : Ctr Tryz.prog 121 [.lst 2 (rs.map encRo), .v (.int .i64 (k : Int)), .agg [.v (.int .i64 x.ma), .lst 1 (x.st.map Rf.encI), .lst 3 (x.qu.sl.map encSl), .lst 2 (x.qu.wa.map encWa)]] (.one (.v (.bool (okRq rs x.qu k)))) := by
 have hl4 := hF.qu.sl.len
 have hwn := hF.qu.wn8
 refine Ctr.of (n := 38) G Tryz.func121 rfl vm175 rfl rfl rfl (fun w0 => ?_)
 refine W_pinT (t := 0) rfl (fun z0 => ?_)
 refine W_pinS 2 rfl (fun _ => rfl) (fun u2 => ?_)
 refine vm26 ?_
 refine vm7 ?_
 refine WX_box 3 rfl rfl rfl rfl rfl rfl rfl ?_
 refine vm52 ?_
 refine WX_call 4 rfl rfl rfl (ArgsOK.of rfl) (c_slices_Clone_impl_Waiter_impl_Waiter x.qu.wa (by omega)) rfl rfl ?_
 refine zgo ?_
 refine W_loopK [3, 4, 16, 17] [0, 1] (fun (i : Nat) => [(7, .own 3), (18, .v (.int .i64 (i : Int)))]) (fun (i : Nat) => [(3, some (.row 183 2 ((ftL x.qu i).map encWa)))]) (fun (i : Nat) => i ≤ 4 ∧ ∀ t, t < i → (x.qu.sl.getD t default).s ≠ 3) (fun (i : Nat) => 4 - i) 0 rfl rfl ?_ ?_ ?_ ?_
 ·exact ⟨Nat.zero_le _, fun j hj => by omega⟩
 ·exact ⟨⟨_, rfl, by (first | rfl | (simp; done) | (simp; omega))⟩, rfl, ⟨⟨_, rfl, by (first | rfl | (simp; done) | (simp; omega))⟩, rfl, trivial⟩⟩
 ·exact ⟨⟨_, rfl, by (first | rfl | (simp; done) | (simp; omega))⟩, rfl, rfl, trivial⟩
 intro i hinv
 have hpl := @ftL_len x.qu i
 simp only [List.cons_append, List.nil_append]
 refine zcd (fun h1 => ?_) (fun h1 => ?_)
 ·refine vm52 ?_
  refine WX_alloc_s G 5 rfl rfl rfl rfl rfl ?_
  refine zcd (fun h2 => ?_) (fun h2 => ?_)
  ·refine zf1 ?_
   all_goals exact vm173
  refine zcd (fun h3 => ?_) (fun h3 => ?_)
  ·refine zcl (c_impl_waiterOf _) ?_
   refine vm7 ?_
   refine WX_lit G 6 rfl rfl rfl rfl rfl rfl rfl rfl ?_
   refine vm14 ?_
   refine zgo ?_
   refine ⟨(i + 1), ?_, ?_, ⟨⟨_, rfl, by rfl⟩, rfl, ⟨⟨_, rfl, by rfl⟩, rfl, trivial⟩⟩, ⟨⟨_, rfl, by (first | (rw [ftL_0 (by omega)]; done) | (rw [ftL_1 (by omega), List.map_append]; rfl))⟩, rfl, rfl, trivial⟩, rfl, rfl, rfl⟩
   ·exact ⟨by omega, upto_succ hinv.2 (by omega)⟩
   omega
  refine zgo ?_
  refine ⟨(i + 1), ?_, ?_, ⟨⟨_, rfl, by rfl⟩, rfl, ⟨⟨_, rfl, by rfl⟩, rfl, trivial⟩⟩, ⟨⟨_, rfl, by (first | (rw [ftL_0 (by omega)]; done) | (rw [ftL_1 (by omega), List.map_append]; rfl))⟩, rfl, rfl, trivial⟩, rfl, rfl, rfl⟩
  ·exact ⟨by omega, upto_succ hinv.2 (by omega)⟩
  omega
 obtain rfl : i = 4 := (by omega)
 have hfl := @ftL_len x.qu 4
 refine vm52 ?_
 refine WX_q rfl rfl (q_func rfl rfl) ?_
 refine zcl (c_slices_ContainsFunc_impl_Waiter_impl_Waiter (ftL x.qu 4) 175 rs [.int .i64 (k : Int)] (fun w => !rtW rs k w) (by omega) (fun j hj => c_impl_fitsRoutes_1 _ rs k hr8 (ftL_bd hF.qu (Nat.le_refl _) (mem_getD.mpr ⟨j, hj, rfl⟩)))) ?_
 refine zf1 ?_
 all_goals exact vm173
end Go.Proofs.YtcnodpipinlpcaaGreat
set_option maxRecDepth 20000
set_option linter.unusedVariables false
set_option linter.unusedSimpArgs false
namespace Go.Proofs.YtcnodpipinlpcaaGreat
open Go Go.Rf
set_option maxHeartbeats 1000000 in
set_option maxHeartbeats 4000000 in
theorem c_impl_IsMachine (m : Mach) (hs : SmallM m) : Ctr Tryz.prog 49 [.agg [.lst 2 (m.rs.map encRo), .lst 1 (m.en.map encO), .lst 1 (m.ra.map encO), .nst none 4 (m.cp.map (encIf 154 183))]] (.one (.v (.bool (okMa m)))) := by
 have z0 := hs.rs
 have z1 := hs.en
 have z2 := hs.ra
 have z3 := hs.cp
 refine Ctr.of (n := 44) G Tryz.func49 rfl vm175 rfl rfl rfl (fun w0 => ?_)
 refine W_pinS 0 rfl (fun _ => rfl) (fun u0 => ?_)
 refine W_sq ?_
 refine vm38 ?_
 refine vm100 ?_
 refine vm64 ?_
 refine vm102 ?_
 refine vm7 ?_
 refine WX_q rfl rfl (q_call rfl (ArgsOK.of rfl) (c_impl_areRoutes m.rs _ (by omega)) rfl) ?_
 refine vm33 ?_
 refine WL_part rfl rfl rfl (fun h1 => ?_) (fun h1 => ?_)
 ·try rw [h1]
  try simp only [rfb] at h1
  refine zgn ?_
  refine W_true rfl ?_
  refine vm24 ?_
  all_goals exact vm110
 try rw [h1]
 try simp only [rfb] at h1
 have hr8 := (okRts_iff.mp h1).2.1
 have hc2 := (okRts_iff.mp h1).1
 iterate 6 refine zst ?_
 refine WL_part rfl rfl rfl (fun h2 => ?_) (fun h2 => ?_)
 ·try rw [h2]
  try simp only [rfb] at h2
  refine zgn ?_
  refine W_true rfl ?_
  refine vm24 ?_
  all_goals exact vm110
 try rw [h2]
 try simp only [rfb] at h2
 refine zgn ?_
 refine W_cond rfl (fun h3 => ?_) (fun h3 => ?_)
 ·try rw [h3]
  try simp only [rfb] at h3
  refine vm24 ?_
  all_goals exact vm110
 try rw [h3]
 try simp only [rfb] at h3
 refine zgn ?_
 refine zgn ?_
 refine W_block (W_loopK [1, 25, 26] [0] (fun (k : Nat) => [(27, .v (.int .i64 (k : Int)))]) (fun (k : Nat) => []) (fun (k : Nat) => k ≤ m.cp.length ∧ ∀ j, j < k → oneM m j = true) (fun (k : Nat) => m.cp.length - k) 0 rfl rfl ?_ ?_ ?_ ?_)
 ·exact ⟨Nat.zero_le _, fun j hj => by omega⟩
 ·exact ⟨⟨_, rfl, by (first | rfl | (simp; done) | (simp; omega))⟩, rfl, trivial⟩
 ·exact trivial
 intro k hk
 simp only [List.cons_append, List.nil_append]
 refine zgn ?_
 refine W_sq (W_cond rfl (fun h4 => ?_) (fun h4 => ?_))
 ·try rw [h4]
  try simp only [rfb] at h4
  have hsz := hs.allI (i := k) (by omega)
  have hsz2 : szI (m.cp.getD k default) = (m.cp.getD k default).st.length + (m.cp.getD k default).qu.sl.length + (m.cp.getD k default).qu.wa.length := rfl
  refine vm100 ?_
  refine W_block (W_sq ?_)
  refine vm41 ?_
  refine vm12 ?_
  refine zst ?_
  refine vm7 ?_
  refine WX_pinS 31 rfl (fun _ => rfl) fun v31 => WX_store G rfl rfl rfl rfl rfl rfl rfl rfl rfl rfl rfl ?_
  refine zgn ?_
  refine vm64 ?_
  refine zst ?_
  refine vm7 ?_
  refine WX_q rfl rfl (q_call rfl (ArgsOK.of rfl) (c_impl_IsInterface (m.cp.getD k default) (by omega) (by omega) (by omega)) rfl) ?_
  refine vm33 ?_
  refine WL_part rfl rfl rfl (fun h5 => ?_) (fun h5 => ?_)
  ·try rw [h5]
   try simp only [rfb] at h5
   refine zgn ?_
   refine W_true rfl ?_
   refine vm24 ?_
   all_goals exact vm110
  try rw [h5]
  try simp only [rfb] at h5
  have hIF := (okIf_F h5).1
  iterate 4 refine zst ?_
  refine vm78 ?_
  refine WX_q rfl rfl (q_call rfl (ArgsOK.of rfl) (c_impl_fitsRoutes m.rs k (m.cp.getD k default) hr8 hIF (by omega)) rfl) ?_
  refine zgn ?_
  refine W_cond rfl (fun h6 => ?_) (fun h6 => ?_)
  ·try rw [h6]
   try simp only [rfb] at h6
   refine vm24 ?_
   all_goals exact vm110
  try rw [h6]
  try simp only [rfb] at h6
  refine zgn ?_
  refine W_region ?_
  refine vm6 ?_
  refine zgn ?_
  refine ⟨(k + 1), ?_, ?_, ⟨⟨_, rfl, by rfl⟩, rfl, trivial⟩, trivial, rfl, rfl, rfl⟩
  ·exact ⟨by omega, upto_succ hk.2 (oneM_t vm177 vm177)⟩
  omega
 try rw [h4]
 try simp only [rfb] at h4
 refine zgn ?_
 refine vm24 ?_
 all_goals exact vm110
set_option maxHeartbeats 1000000 in
set_option maxHeartbeats 4000000 in
theorem c_spec_l21Good (m : Mach) (hs : SmallM m) : Ctr Tryz.prog 96 [.agg [.lst 2 (m.rs.map encRo), .lst 1 (m.en.map encO), .lst 1 (m.ra.map encO), .nst none 4 (m.cp.map (encIf 154 183))]] (.one (.v (.bool (okMa m)))) := by
 have z0 := hs.rs
 have z1 := hs.en
 have z2 := hs.ra
 have z3 := hs.cp
 refine Ctr.of (n := 50) G Tryz.func96 rfl vm175 rfl rfl rfl (fun w0 => ?_)
 refine W_pinS 0 rfl (fun _ => rfl) (fun u0 => ?_)
 refine vm1 ?_
 refine zcl (c_spec_l21Routes_any m.rs _ (by omega)) ?_
 refine zcd (fun h1 => ?_) (fun h1 => ?_)
 ·refine zwt ?_
  refine zf1 ?_
  all_goals exact vm110
 have hr8 := (okRts_iff.mp h1).2.1
 have hc2 := (okRts_iff.mp h1).1
 refine zcd (fun h2 => ?_) (fun h2 => ?_)
 ·refine zwt ?_
  refine zf1 ?_
  all_goals exact vm110
 refine zcd (fun h3 => ?_) (fun h3 => ?_)
 ·refine zf1 ?_
  all_goals exact vm110
 refine zgo ?_
 refine W_loopK [1] [0] (fun (k : Nat) => [(3, .v (.int .i64 (k : Int)))]) (fun (k : Nat) => []) (fun (k : Nat) => k ≤ m.cp.length ∧ ∀ j, j < k → oneM m j = true) (fun (k : Nat) => m.cp.length - k) 0 rfl rfl ?_ ?_ ?_ ?_
 ·exact ⟨Nat.zero_le _, fun j hj => by omega⟩
 ·exact ⟨⟨_, rfl, by (first | rfl | (simp; done) | (simp; omega))⟩, rfl, trivial⟩
 ·exact trivial
 intro k hk
 simp only [List.cons_append, List.nil_append]
 refine zcd (fun h4 => ?_) (fun h4 => ?_)
 ·have hsz := hs.allI (i := k) (by omega)
  have hsz2 : szI (m.cp.getD k default) = (m.cp.getD k default).st.length + (m.cp.getD k default).qu.sl.length + (m.cp.getD k default).qu.wa.length := rfl
  refine zgd ?_
  refine zcl (c_spec_l10Good (m.cp.getD k default) (by omega) (by omega) (by omega)) ?_
  refine zcd (fun h5 => ?_) (fun h5 => ?_)
  ·refine zwt ?_
   refine zf1 ?_
   all_goals exact vm110
  have hIF := (okIf_F h5).1
  refine zgo ?_
  refine vm94 ?_
  refine QX_q rfl rfl (q_field_eptN G rfl rfl rfl rfl) ?_
  refine zcl (c_spec_l21Queue m.rs (m.cp.getD k default).qu k hr8 hIF.qu (by omega)) ?_
  refine zcd (fun h6 => ?_) (fun h6 => ?_)
  ·refine zf1 ?_
   all_goals exact vm110
  refine zgo ?_
  refine ⟨(k + 1), ?_, ?_, ⟨⟨_, rfl, by rfl⟩, rfl, trivial⟩, trivial, rfl, rfl, rfl⟩
  ·exact ⟨by omega, upto_succ hk.2 (oneM_t vm177 vm177)⟩
  omega
 refine zf1 ?_
 all_goals exact vm110
end Go.Proofs.YtcnodpipinlpcaaGreat
set_option maxRecDepth 20000
set_option linter.unusedVariables false
set_option linter.unusedSimpArgs false
namespace Go.Proofs.YtcnodpipinlpcaaGreat
open Go Go.Rf
set_option maxHeartbeats 4000000 in
theorem c_math_bits_Len64_e (n : Nat) (hn : n ≤ 12) : CtrE (α := Int) Tryz.prog 252 [.v (.int .u64 (n : Int))] (fun y => (.one (.v (.int .i64 y)))) := by
 refine CtrE.of (n := 25) G Tryz.func252 rfl vm175 rfl rfl rfl (fun w0 => ?_)
 refine zcd (fun h1 => ?_) (fun h1 => ?_)
 ·exfalso; omega
 refine zcd (fun h2 => ?_) (fun h2 => ?_)
 ·exfalso; omega
 refine zcd (fun h3 => ?_) (fun h3 => ?_)
 ·exfalso; omega
 refine zgo ?_
 refine vm40 ?_
 refine vm7 ?_
 refine WX_q rfl rfl (q_index_str G rfl rfl rfl rfl (by omega) (Int.lt_of_le_of_lt (show (n : Int) ≤ 12 by omega) (by decide))) ?_
 refine vm40 ?_
 refine vm6 ?_
 refine zgo ?_
 refine W_ret (fine (_) (fin_one rfl (rc_v rfl)))
 all_goals (rfl)
set_option maxHeartbeats 4000000 in
theorem c_math_bits_Len_e (n : Nat) (hn : n ≤ 12) : CtrE (α := Int) Tryz.prog 211 [.v (.int .u64 (n : Int))] (fun y => (.one (.v (.int .i64 y)))) := by
 refine CtrE.of (n := 8) G Tryz.func211 rfl vm175 rfl rfl rfl (fun w0 => ?_)
 refine zwf ?_
 refine zgo ?_
 refine WL_cons rfl (WX_calle 0 rfl rfl rfl (ArgsOK.of rfl) (c_math_bits_Len64_e n hn) (fun _ => rfl) rfl (fun y1 => ?_))
 refine zgo ?_
 refine W_ret (fine (_) (fin_one rfl (rc_v rfl)))
 all_goals (rfl)
set_option maxHeartbeats 1000000 in
set_option maxHeartbeats 4000000 in
theorem c_slices_insertionSortCmpFunc_impl_Waiter (d : List Wtr) (hd : difW d) (hn : d.length ≤ 12) : CtrM Tryz.prog 264 [.own 0, .v (.int .i64 0), .v (.int .i64 (d.length : Int)), .v (.func (.func 201) #[] #[])] [.row 183 2 (d.map encWa)] (.many []) [some (.row 183 2 ((srtW d).map encWa))] := by
 refine CtrM.of (n := 53) (k := 1) G Tryz.func264 rfl vm175 rfl rfl rfl rfl rfl rfl rfl (fun w0 _ hpin => ?_)
 refine W_sq (W_gh (Gh.fnc (t := 3) rfl) ?_)
 refine zgo ?_
 refine W_loopK [0, 1, 2, 3] [] (fun (i : Nat) => [(8, .v (.int .i64 (i : Int)))]) (fun (i : Nat) => [(0, some (.row 183 2 ((srtN d i).map encWa)))]) (fun (i : Nat) => 1 ≤ i ∧ (i ≤ d.length ∨ i = 1)) (fun (i : Nat) => d.length - i) 1 rfl rfl ?_ ?_ ?_ ?_
 ·exact ⟨Nat.le_refl _, .inr rfl⟩
 ·exact ⟨⟨_, rfl, by rfl⟩, rfl, trivial⟩
 ·exact ⟨⟨_, rfl, by (rw [srtN_i])⟩, rfl, rfl, trivial⟩
 intro i hi
 simp only [List.cons_append, List.nil_append]
 refine zcd (fun h1 => ?_) (fun h1 => ?_)
 ·have hM := movF hd (i := i) (by omega)
  have hPl := hM.len
  have hRl : (d.drop (i + 1)).length = d.length - (i + 1) := List.length_drop
  refine zgo ?_
  refine W_loopK [0, 1, 2, 3, 8] [] (fun (j : Nat) => [(9, .v (.int .i64 (j : Int)))]) (fun (j : Nat) => [(0, some (.row 183 2 ((movW (srtW (d.take i)) (d.getD i default) (d.drop (i + 1)) j).map encWa)))]) (fun (j : Nat) => j ≤ i ∧ ∀ t, j ≤ t → t < i → lessW (d.getD i default) ((srtW (d.take i)).getD t default) = true) (fun (j : Nat) => j) i rfl rfl ?_ ?_ ?_ ?_
  ·exact ⟨Nat.le_refl _, fun t h1 h2 => by omega⟩
  ·exact ⟨⟨_, rfl, by rfl⟩, rfl, trivial⟩
  ·exact ⟨⟨_, rfl, by (rw [srtN_mov (by omega)])⟩, rfl, rfl, trivial⟩
  intro j hj
  have htn : 0 < j → ((j : Int) - 1).toNat = j - 1 := fun _ => (by omega)
  simp only [List.cons_append, List.nil_append]
  refine zgd ?_
  refine zcd (fun h2 => ?_) (fun h2 => ?_)
  ·refine vm25 ?_
   refine vm25 ?_
   refine vm94 ?_
   refine QX_q rfl rfl (q_callc rfl rfl (ArgsOK.of rfl) rfl (c_impl_compareUrgency _ _) rfl) ?_
   refine zcd (fun h3 => ?_) (fun h3 => ?_)
   ·refine zgo ?_
    apply W_drawsJ [0, 1, 2, 3, 8, 9] [0] 1 18 [] mixed vm175 rfl rfl (fun _ h => znk h)
    ·intro r0
     refine vm23 ?_
     first | refine WA_take 4 rfl vm175 vm175 rfl rfl rfl rfl (q_arith rfl rfl rfl rfl (by omega) (by omega)) ?_ | refine WA_take 4 rfl vm175 vm175 rfl rfl rfl rfl (q_wrap rfl rfl rfl rfl) ?_
     refine zsa 5 ?_
     refine zsa 6 ?_
     first | refine WA_take 7 rfl vm175 vm175 rfl rfl rfl rfl (q_arith rfl rfl rfl rfl (by omega) (by omega)) ?_ | refine WA_take 7 rfl vm175 vm175 rfl rfl rfl rfl (q_wrap rfl rfl rfl rfl) ?_
     refine zsa 10 ?_
     refine zsa 11 ?_
     refine WA_branch (rs := [8, 12]) vm175 rfl (AllB.cons ?_ (AllB.cons ?_ AllB.nil))
     ·first | refine WB_run [] rfl rfl (WX_q rfl rfl (q_index_own G rfl rfl rfl rfl rfl (by omega) vm188) (WL_nil ⟨rfl, ?_⟩)) | refine WB_run [] rfl rfl (WX_q rfl rfl (q_index_own G rfl rfl rfl rfl rfl (by omega) vm184) (WL_nil ⟨rfl, ?_⟩)) | refine WB_run [] rfl rfl (WX_q rfl rfl (q_index_own G rfl rfl rfl rfl rfl (by omega) vm182) (WL_nil ⟨rfl, ?_⟩))
      refine WA_branch (rs := [9, 12]) vm175 rfl (AllB.cons ?_ (AllB.cons ?_ AllB.nil))
      ·first | refine WB_run [] rfl rfl (WX_q rfl rfl (q_load_rpt_struct G rfl rfl rfl rfl (movW_get (by omega)) rfl) (WL_nil ⟨rfl, ?_⟩)) | refine WB_run [] rfl rfl (WX_q rfl rfl (q_load_rpt_struct G rfl rfl rfl rfl (movW_gp (by omega) (by omega)) rfl) (WL_nil ⟨rfl, ?_⟩)) | refine WB_run [] rfl rfl (WX_q rfl rfl (q_load_rpt_struct G rfl rfl rfl rfl (movW_gs (by omega) (by omega)) rfl) (WL_nil ⟨rfl, ?_⟩))
       refine WA_branch (rs := [12]) vm175 rfl (AllB.cons ?_ AllB.nil)
       first | refine WB_run [] rfl rfl (WX_q rfl rfl (q_index_own G rfl rfl rfl rfl rfl (by omega) vm188) (WL_nil ⟨rfl, ?_⟩)) | refine WB_run [] rfl rfl (WX_q rfl rfl (q_index_own G rfl rfl rfl rfl rfl (by omega) vm184) (WL_nil ⟨rfl, ?_⟩)) | refine WB_run [] rfl rfl (WX_q rfl rfl (q_index_own G rfl rfl rfl rfl rfl (by omega) vm182) (WL_nil ⟨rfl, ?_⟩))
       refine WA_branch (rs := [13]) vm175 rfl (AllB.cons ?_ AllB.nil)
       first | refine WB_run [] rfl rfl (WX_q rfl rfl (q_load_rpt_struct G rfl rfl rfl rfl (movW_get (by omega)) rfl) (WL_nil ⟨rfl, ?_⟩)) | refine WB_run [] rfl rfl (WX_q rfl rfl (q_load_rpt_struct G rfl rfl rfl rfl (movW_gp (by omega) (by omega)) rfl) (WL_nil ⟨rfl, ?_⟩)) | refine WB_run [] rfl rfl (WX_q rfl rfl (q_load_rpt_struct G rfl rfl rfl rfl (movW_gs (by omega) (by omega)) rfl) (WL_nil ⟨rfl, ?_⟩))
       refine WA_branch (rs := [14]) vm175 rfl (AllB.cons ?_ AllB.nil)
       first | refine WB_run [] rfl rfl (WX_q rfl rfl (q_index_own G rfl rfl rfl rfl rfl (by omega) vm188) (WL_nil ⟨rfl, ?_⟩)) | refine WB_run [] rfl rfl (WX_q rfl rfl (q_index_own G rfl rfl rfl rfl rfl (by omega) vm184) (WL_nil ⟨rfl, ?_⟩)) | refine WB_run [] rfl rfl (WX_q rfl rfl (q_index_own G rfl rfl rfl rfl rfl (by omega) vm182) (WL_nil ⟨rfl, ?_⟩))
       refine WA_branch (rs := [15]) vm175 rfl (AllB.cons ?_ AllB.nil)
       first | refine WB_run [] rfl rfl (WX_store_row G rfl rfl rfl rfl rfl (movW_get (by omega)) rfl rfl rfl rfl rfl (Nat.le_of_ble_eq_true rfl) rfl (WL_nil ⟨rfl, ?_⟩)) | refine WB_run [] rfl rfl (WX_store_row G rfl rfl rfl rfl rfl (movW_gp (by omega) (by omega)) rfl rfl rfl rfl rfl (Nat.le_of_ble_eq_true rfl) rfl (WL_nil ⟨rfl, ?_⟩)) | refine WB_run [] rfl rfl (WX_store_row G rfl rfl rfl rfl rfl (movW_gs (by omega) (by omega)) rfl rfl rfl rfl rfl (Nat.le_of_ble_eq_true rfl) rfl (WL_nil ⟨rfl, ?_⟩))
       refine WA_branch (rs := [16]) vm175 rfl (AllB.cons ?_ AllB.nil)
       first | refine WB_run [] rfl rfl (WX_q rfl rfl (q_index_own G rfl rfl rfl rfl rfl (by omega) vm188) (WL_nil ⟨rfl, ?_⟩)) | refine WB_run [] rfl rfl (WX_q rfl rfl (q_index_own G rfl rfl rfl rfl rfl (by omega) vm184) (WL_nil ⟨rfl, ?_⟩)) | refine WB_run [] rfl rfl (WX_q rfl rfl (q_index_own G rfl rfl rfl rfl rfl (by omega) vm182) (WL_nil ⟨rfl, ?_⟩))
       refine WA_branch (rs := [17]) vm175 rfl (AllB.cons ?_ AllB.nil)
       first | refine WB_run [] rfl rfl (WX_store_row G rfl rfl rfl rfl rfl (movW_get (by omega)) rfl rfl rfl rfl rfl (Nat.le_of_ble_eq_true rfl) rfl (WL_nil ⟨rfl, ?_⟩)) | refine WB_run [] rfl rfl (WX_store_row G rfl rfl rfl rfl rfl (movW_gp (by omega) (by omega)) rfl rfl rfl rfl rfl (Nat.le_of_ble_eq_true rfl) rfl (WL_nil ⟨rfl, ?_⟩)) | refine WB_run [] rfl rfl (WX_store_row G rfl rfl rfl rfl rfl (movW_gs (by omega) (by omega)) rfl rfl rfl rfl rfl (Nat.le_of_ble_eq_true rfl) rfl (WL_nil ⟨rfl, ?_⟩))
       exact WA_end vm175 (Meet.mk rfl rfl rfl rfl)
      first | refine WB_run [] rfl rfl (WX_q rfl rfl (q_index_own G rfl rfl rfl rfl rfl (by omega) vm188) (WL_nil ⟨rfl, ?_⟩)) | refine WB_run [] rfl rfl (WX_q rfl rfl (q_index_own G rfl rfl rfl rfl rfl (by omega) vm184) (WL_nil ⟨rfl, ?_⟩)) | refine WB_run [] rfl rfl (WX_q rfl rfl (q_index_own G rfl rfl rfl rfl rfl (by omega) vm182) (WL_nil ⟨rfl, ?_⟩))
      refine WA_branch (rs := [9, 13]) vm175 rfl (AllB.cons ?_ (AllB.cons ?_ AllB.nil))
      ·first | refine WB_run [] rfl rfl (WX_q rfl rfl (q_load_rpt_struct G rfl rfl rfl rfl (movW_get (by omega)) rfl) (WL_nil ⟨rfl, ?_⟩)) | refine WB_run [] rfl rfl (WX_q rfl rfl (q_load_rpt_struct G rfl rfl rfl rfl (movW_gp (by omega) (by omega)) rfl) (WL_nil ⟨rfl, ?_⟩)) | refine WB_run [] rfl rfl (WX_q rfl rfl (q_load_rpt_struct G rfl rfl rfl rfl (movW_gs (by omega) (by omega)) rfl) (WL_nil ⟨rfl, ?_⟩))
       refine WA_branch (rs := [13]) vm175 rfl (AllB.cons ?_ AllB.nil)
       first | refine WB_run [] rfl rfl (WX_q rfl rfl (q_load_rpt_struct G rfl rfl rfl rfl (movW_get (by omega)) rfl) (WL_nil ⟨rfl, ?_⟩)) | refine WB_run [] rfl rfl (WX_q rfl rfl (q_load_rpt_struct G rfl rfl rfl rfl (movW_gp (by omega) (by omega)) rfl) (WL_nil ⟨rfl, ?_⟩)) | refine WB_run [] rfl rfl (WX_q rfl rfl (q_load_rpt_struct G rfl rfl rfl rfl (movW_gs (by omega) (by omega)) rfl) (WL_nil ⟨rfl, ?_⟩))
       refine WA_branch (rs := [14]) vm175 rfl (AllB.cons ?_ AllB.nil)
       first | refine WB_run [] rfl rfl (WX_q rfl rfl (q_index_own G rfl rfl rfl rfl rfl (by omega) vm188) (WL_nil ⟨rfl, ?_⟩)) | refine WB_run [] rfl rfl (WX_q rfl rfl (q_index_own G rfl rfl rfl rfl rfl (by omega) vm184) (WL_nil ⟨rfl, ?_⟩)) | refine WB_run [] rfl rfl (WX_q rfl rfl (q_index_own G rfl rfl rfl rfl rfl (by omega) vm182) (WL_nil ⟨rfl, ?_⟩))
       refine WA_branch (rs := [15]) vm175 rfl (AllB.cons ?_ AllB.nil)
       first | refine WB_run [] rfl rfl (WX_store_row G rfl rfl rfl rfl rfl (movW_get (by omega)) rfl rfl rfl rfl rfl (Nat.le_of_ble_eq_true rfl) rfl (WL_nil ⟨rfl, ?_⟩)) | refine WB_run [] rfl rfl (WX_store_row G rfl rfl rfl rfl rfl (movW_gp (by omega) (by omega)) rfl rfl rfl rfl rfl (Nat.le_of_ble_eq_true rfl) rfl (WL_nil ⟨rfl, ?_⟩)) | refine WB_run [] rfl rfl (WX_store_row G rfl rfl rfl rfl rfl (movW_gs (by omega) (by omega)) rfl rfl rfl rfl rfl (Nat.le_of_ble_eq_true rfl) rfl (WL_nil ⟨rfl, ?_⟩))
       refine WA_branch (rs := [16]) vm175 rfl (AllB.cons ?_ AllB.nil)
       first | refine WB_run [] rfl rfl (WX_q rfl rfl (q_index_own G rfl rfl rfl rfl rfl (by omega) vm188) (WL_nil ⟨rfl, ?_⟩)) | refine WB_run [] rfl rfl (WX_q rfl rfl (q_index_own G rfl rfl rfl rfl rfl (by omega) vm184) (WL_nil ⟨rfl, ?_⟩)) | refine WB_run [] rfl rfl (WX_q rfl rfl (q_index_own G rfl rfl rfl rfl rfl (by omega) vm182) (WL_nil ⟨rfl, ?_⟩))
       refine WA_branch (rs := [17]) vm175 rfl (AllB.cons ?_ AllB.nil)
       first | refine WB_run [] rfl rfl (WX_store_row G rfl rfl rfl rfl rfl (movW_get (by omega)) rfl rfl rfl rfl rfl (Nat.le_of_ble_eq_true rfl) rfl (WL_nil ⟨rfl, ?_⟩)) | refine WB_run [] rfl rfl (WX_store_row G rfl rfl rfl rfl rfl (movW_gp (by omega) (by omega)) rfl rfl rfl rfl rfl (Nat.le_of_ble_eq_true rfl) rfl (WL_nil ⟨rfl, ?_⟩)) | refine WB_run [] rfl rfl (WX_store_row G rfl rfl rfl rfl rfl (movW_gs (by omega) (by omega)) rfl rfl rfl rfl rfl (Nat.le_of_ble_eq_true rfl) rfl (WL_nil ⟨rfl, ?_⟩))
       exact WA_end vm175 (Meet.mk rfl rfl rfl rfl)
      first | refine WB_run [] rfl rfl (WX_q rfl rfl (q_load_rpt_struct G rfl rfl rfl rfl (movW_get (by omega)) rfl) (WL_nil ⟨rfl, ?_⟩)) | refine WB_run [] rfl rfl (WX_q rfl rfl (q_load_rpt_struct G rfl rfl rfl rfl (movW_gp (by omega) (by omega)) rfl) (WL_nil ⟨rfl, ?_⟩)) | refine WB_run [] rfl rfl (WX_q rfl rfl (q_load_rpt_struct G rfl rfl rfl rfl (movW_gs (by omega) (by omega)) rfl) (WL_nil ⟨rfl, ?_⟩))
      refine WA_branch (rs := [9]) vm175 rfl (AllB.cons ?_ AllB.nil)
      first | refine WB_run [] rfl rfl (WX_q rfl rfl (q_load_rpt_struct G rfl rfl rfl rfl (movW_get (by omega)) rfl) (WL_nil ⟨rfl, ?_⟩)) | refine WB_run [] rfl rfl (WX_q rfl rfl (q_load_rpt_struct G rfl rfl rfl rfl (movW_gp (by omega) (by omega)) rfl) (WL_nil ⟨rfl, ?_⟩)) | refine WB_run [] rfl rfl (WX_q rfl rfl (q_load_rpt_struct G rfl rfl rfl rfl (movW_gs (by omega) (by omega)) rfl) (WL_nil ⟨rfl, ?_⟩))
      refine WA_branch (rs := [14]) vm175 rfl (AllB.cons ?_ AllB.nil)
      first | refine WB_run [] rfl rfl (WX_q rfl rfl (q_index_own G rfl rfl rfl rfl rfl (by omega) vm188) (WL_nil ⟨rfl, ?_⟩)) | refine WB_run [] rfl rfl (WX_q rfl rfl (q_index_own G rfl rfl rfl rfl rfl (by omega) vm184) (WL_nil ⟨rfl, ?_⟩)) | refine WB_run [] rfl rfl (WX_q rfl rfl (q_index_own G rfl rfl rfl rfl rfl (by omega) vm182) (WL_nil ⟨rfl, ?_⟩))
      refine WA_branch (rs := [15]) vm175 rfl (AllB.cons ?_ AllB.nil)
      first | refine WB_run [] rfl rfl (WX_store_row G rfl rfl rfl rfl rfl (movW_get (by omega)) rfl rfl rfl rfl rfl (Nat.le_of_ble_eq_true rfl) rfl (WL_nil ⟨rfl, ?_⟩)) | refine WB_run [] rfl rfl (WX_store_row G rfl rfl rfl rfl rfl (movW_gp (by omega) (by omega)) rfl rfl rfl rfl rfl (Nat.le_of_ble_eq_true rfl) rfl (WL_nil ⟨rfl, ?_⟩)) | refine WB_run [] rfl rfl (WX_store_row G rfl rfl rfl rfl rfl (movW_gs (by omega) (by omega)) rfl rfl rfl rfl rfl (Nat.le_of_ble_eq_true rfl) rfl (WL_nil ⟨rfl, ?_⟩))
      refine WA_branch (rs := [16]) vm175 rfl (AllB.cons ?_ AllB.nil)
      first | refine WB_run [] rfl rfl (WX_q rfl rfl (q_index_own G rfl rfl rfl rfl rfl (by omega) vm188) (WL_nil ⟨rfl, ?_⟩)) | refine WB_run [] rfl rfl (WX_q rfl rfl (q_index_own G rfl rfl rfl rfl rfl (by omega) vm184) (WL_nil ⟨rfl, ?_⟩)) | refine WB_run [] rfl rfl (WX_q rfl rfl (q_index_own G rfl rfl rfl rfl rfl (by omega) vm182) (WL_nil ⟨rfl, ?_⟩))
      refine WA_branch (rs := [17]) vm175 rfl (AllB.cons ?_ AllB.nil)
      first | refine WB_run [] rfl rfl (WX_store_row G rfl rfl rfl rfl rfl (movW_get (by omega)) rfl rfl rfl rfl rfl (Nat.le_of_ble_eq_true rfl) rfl (WL_nil ⟨rfl, ?_⟩)) | refine WB_run [] rfl rfl (WX_store_row G rfl rfl rfl rfl rfl (movW_gp (by omega) (by omega)) rfl rfl rfl rfl rfl (Nat.le_of_ble_eq_true rfl) rfl (WL_nil ⟨rfl, ?_⟩)) | refine WB_run [] rfl rfl (WX_store_row G rfl rfl rfl rfl rfl (movW_gs (by omega) (by omega)) rfl rfl rfl rfl rfl (Nat.le_of_ble_eq_true rfl) rfl (WL_nil ⟨rfl, ?_⟩))
      exact WA_end vm175 (Meet.mk rfl rfl rfl rfl)
     first | refine WB_run [] rfl rfl (WX_q rfl rfl (q_index_own G rfl rfl rfl rfl rfl (by omega) vm188) (WL_nil ⟨rfl, ?_⟩)) | refine WB_run [] rfl rfl (WX_q rfl rfl (q_index_own G rfl rfl rfl rfl rfl (by omega) vm184) (WL_nil ⟨rfl, ?_⟩)) | refine WB_run [] rfl rfl (WX_q rfl rfl (q_index_own G rfl rfl rfl rfl rfl (by omega) vm182) (WL_nil ⟨rfl, ?_⟩))
     refine WA_branch (rs := [8, 13]) vm175 rfl (AllB.cons ?_ (AllB.cons ?_ AllB.nil))
     ·first | refine WB_run [] rfl rfl (WX_q rfl rfl (q_index_own G rfl rfl rfl rfl rfl (by omega) vm188) (WL_nil ⟨rfl, ?_⟩)) | refine WB_run [] rfl rfl (WX_q rfl rfl (q_index_own G rfl rfl rfl rfl rfl (by omega) vm184) (WL_nil ⟨rfl, ?_⟩)) | refine WB_run [] rfl rfl (WX_q rfl rfl (q_index_own G rfl rfl rfl rfl rfl (by omega) vm182) (WL_nil ⟨rfl, ?_⟩))
      refine WA_branch (rs := [9, 13]) vm175 rfl (AllB.cons ?_ (AllB.cons ?_ AllB.nil))
      ·first | refine WB_run [] rfl rfl (WX_q rfl rfl (q_load_rpt_struct G rfl rfl rfl rfl (movW_get (by omega)) rfl) (WL_nil ⟨rfl, ?_⟩)) | refine WB_run [] rfl rfl (WX_q rfl rfl (q_load_rpt_struct G rfl rfl rfl rfl (movW_gp (by omega) (by omega)) rfl) (WL_nil ⟨rfl, ?_⟩)) | refine WB_run [] rfl rfl (WX_q rfl rfl (q_load_rpt_struct G rfl rfl rfl rfl (movW_gs (by omega) (by omega)) rfl) (WL_nil ⟨rfl, ?_⟩))
       refine WA_branch (rs := [13]) vm175 rfl (AllB.cons ?_ AllB.nil)
       first | refine WB_run [] rfl rfl (WX_q rfl rfl (q_load_rpt_struct G rfl rfl rfl rfl (movW_get (by omega)) rfl) (WL_nil ⟨rfl, ?_⟩)) | refine WB_run [] rfl rfl (WX_q rfl rfl (q_load_rpt_struct G rfl rfl rfl rfl (movW_gp (by omega) (by omega)) rfl) (WL_nil ⟨rfl, ?_⟩)) | refine WB_run [] rfl rfl (WX_q rfl rfl (q_load_rpt_struct G rfl rfl rfl rfl (movW_gs (by omega) (by omega)) rfl) (WL_nil ⟨rfl, ?_⟩))
       refine WA_branch (rs := [14]) vm175 rfl (AllB.cons ?_ AllB.nil)
       first | refine WB_run [] rfl rfl (WX_q rfl rfl (q_index_own G rfl rfl rfl rfl rfl (by omega) vm188) (WL_nil ⟨rfl, ?_⟩)) | refine WB_run [] rfl rfl (WX_q rfl rfl (q_index_own G rfl rfl rfl rfl rfl (by omega) vm184) (WL_nil ⟨rfl, ?_⟩)) | refine WB_run [] rfl rfl (WX_q rfl rfl (q_index_own G rfl rfl rfl rfl rfl (by omega) vm182) (WL_nil ⟨rfl, ?_⟩))
       refine WA_branch (rs := [15]) vm175 rfl (AllB.cons ?_ AllB.nil)
       first | refine WB_run [] rfl rfl (WX_store_row G rfl rfl rfl rfl rfl (movW_get (by omega)) rfl rfl rfl rfl rfl (Nat.le_of_ble_eq_true rfl) rfl (WL_nil ⟨rfl, ?_⟩)) | refine WB_run [] rfl rfl (WX_store_row G rfl rfl rfl rfl rfl (movW_gp (by omega) (by omega)) rfl rfl rfl rfl rfl (Nat.le_of_ble_eq_true rfl) rfl (WL_nil ⟨rfl, ?_⟩)) | refine WB_run [] rfl rfl (WX_store_row G rfl rfl rfl rfl rfl (movW_gs (by omega) (by omega)) rfl rfl rfl rfl rfl (Nat.le_of_ble_eq_true rfl) rfl (WL_nil ⟨rfl, ?_⟩))
       refine WA_branch (rs := [16]) vm175 rfl (AllB.cons ?_ AllB.nil)
       first | refine WB_run [] rfl rfl (WX_q rfl rfl (q_index_own G rfl rfl rfl rfl rfl (by omega) vm188) (WL_nil ⟨rfl, ?_⟩)) | refine WB_run [] rfl rfl (WX_q rfl rfl (q_index_own G rfl rfl rfl rfl rfl (by omega) vm184) (WL_nil ⟨rfl, ?_⟩)) | refine WB_run [] rfl rfl (WX_q rfl rfl (q_index_own G rfl rfl rfl rfl rfl (by omega) vm182) (WL_nil ⟨rfl, ?_⟩))
       refine WA_branch (rs := [17]) vm175 rfl (AllB.cons ?_ AllB.nil)
       first | refine WB_run [] rfl rfl (WX_store_row G rfl rfl rfl rfl rfl (movW_get (by omega)) rfl rfl rfl rfl rfl (Nat.le_of_ble_eq_true rfl) rfl (WL_nil ⟨rfl, ?_⟩)) | refine WB_run [] rfl rfl (WX_store_row G rfl rfl rfl rfl rfl (movW_gp (by omega) (by omega)) rfl rfl rfl rfl rfl (Nat.le_of_ble_eq_true rfl) rfl (WL_nil ⟨rfl, ?_⟩)) | refine WB_run [] rfl rfl (WX_store_row G rfl rfl rfl rfl rfl (movW_gs (by omega) (by omega)) rfl rfl rfl rfl rfl (Nat.le_of_ble_eq_true rfl) rfl (WL_nil ⟨rfl, ?_⟩))
       exact WA_end vm175 (Meet.mk rfl rfl rfl rfl)
      first | refine WB_run [] rfl rfl (WX_q rfl rfl (q_load_rpt_struct G rfl rfl rfl rfl (movW_get (by omega)) rfl) (WL_nil ⟨rfl, ?_⟩)) | refine WB_run [] rfl rfl (WX_q rfl rfl (q_load_rpt_struct G rfl rfl rfl rfl (movW_gp (by omega) (by omega)) rfl) (WL_nil ⟨rfl, ?_⟩)) | refine WB_run [] rfl rfl (WX_q rfl rfl (q_load_rpt_struct G rfl rfl rfl rfl (movW_gs (by omega) (by omega)) rfl) (WL_nil ⟨rfl, ?_⟩))
      refine WA_branch (rs := [9]) vm175 rfl (AllB.cons ?_ AllB.nil)
      first | refine WB_run [] rfl rfl (WX_q rfl rfl (q_load_rpt_struct G rfl rfl rfl rfl (movW_get (by omega)) rfl) (WL_nil ⟨rfl, ?_⟩)) | refine WB_run [] rfl rfl (WX_q rfl rfl (q_load_rpt_struct G rfl rfl rfl rfl (movW_gp (by omega) (by omega)) rfl) (WL_nil ⟨rfl, ?_⟩)) | refine WB_run [] rfl rfl (WX_q rfl rfl (q_load_rpt_struct G rfl rfl rfl rfl (movW_gs (by omega) (by omega)) rfl) (WL_nil ⟨rfl, ?_⟩))
      refine WA_branch (rs := [14]) vm175 rfl (AllB.cons ?_ AllB.nil)
      first | refine WB_run [] rfl rfl (WX_q rfl rfl (q_index_own G rfl rfl rfl rfl rfl (by omega) vm188) (WL_nil ⟨rfl, ?_⟩)) | refine WB_run [] rfl rfl (WX_q rfl rfl (q_index_own G rfl rfl rfl rfl rfl (by omega) vm184) (WL_nil ⟨rfl, ?_⟩)) | refine WB_run [] rfl rfl (WX_q rfl rfl (q_index_own G rfl rfl rfl rfl rfl (by omega) vm182) (WL_nil ⟨rfl, ?_⟩))
      refine WA_branch (rs := [15]) vm175 rfl (AllB.cons ?_ AllB.nil)
      first | refine WB_run [] rfl rfl (WX_store_row G rfl rfl rfl rfl rfl (movW_get (by omega)) rfl rfl rfl rfl rfl (Nat.le_of_ble_eq_true rfl) rfl (WL_nil ⟨rfl, ?_⟩)) | refine WB_run [] rfl rfl (WX_store_row G rfl rfl rfl rfl rfl (movW_gp (by omega) (by omega)) rfl rfl rfl rfl rfl (Nat.le_of_ble_eq_true rfl) rfl (WL_nil ⟨rfl, ?_⟩)) | refine WB_run [] rfl rfl (WX_store_row G rfl rfl rfl rfl rfl (movW_gs (by omega) (by omega)) rfl rfl rfl rfl rfl (Nat.le_of_ble_eq_true rfl) rfl (WL_nil ⟨rfl, ?_⟩))
      refine WA_branch (rs := [16]) vm175 rfl (AllB.cons ?_ AllB.nil)
      first | refine WB_run [] rfl rfl (WX_q rfl rfl (q_index_own G rfl rfl rfl rfl rfl (by omega) vm188) (WL_nil ⟨rfl, ?_⟩)) | refine WB_run [] rfl rfl (WX_q rfl rfl (q_index_own G rfl rfl rfl rfl rfl (by omega) vm184) (WL_nil ⟨rfl, ?_⟩)) | refine WB_run [] rfl rfl (WX_q rfl rfl (q_index_own G rfl rfl rfl rfl rfl (by omega) vm182) (WL_nil ⟨rfl, ?_⟩))
      refine WA_branch (rs := [17]) vm175 rfl (AllB.cons ?_ AllB.nil)
      first | refine WB_run [] rfl rfl (WX_store_row G rfl rfl rfl rfl rfl (movW_get (by omega)) rfl rfl rfl rfl rfl (Nat.le_of_ble_eq_true rfl) rfl (WL_nil ⟨rfl, ?_⟩)) | refine WB_run [] rfl rfl (WX_store_row G rfl rfl rfl rfl rfl (movW_gp (by omega) (by omega)) rfl rfl rfl rfl rfl (Nat.le_of_ble_eq_true rfl) rfl (WL_nil ⟨rfl, ?_⟩)) | refine WB_run [] rfl rfl (WX_store_row G rfl rfl rfl rfl rfl (movW_gs (by omega) (by omega)) rfl rfl rfl rfl rfl (Nat.le_of_ble_eq_true rfl) rfl (WL_nil ⟨rfl, ?_⟩))
      exact WA_end vm175 (Meet.mk rfl rfl rfl rfl)
     first | refine WB_run [] rfl rfl (WX_q rfl rfl (q_load_rpt_struct G rfl rfl rfl rfl (movW_get (by omega)) rfl) (WL_nil ⟨rfl, ?_⟩)) | refine WB_run [] rfl rfl (WX_q rfl rfl (q_load_rpt_struct G rfl rfl rfl rfl (movW_gp (by omega) (by omega)) rfl) (WL_nil ⟨rfl, ?_⟩)) | refine WB_run [] rfl rfl (WX_q rfl rfl (q_load_rpt_struct G rfl rfl rfl rfl (movW_gs (by omega) (by omega)) rfl) (WL_nil ⟨rfl, ?_⟩))
     refine WA_branch (rs := [8]) vm175 rfl (AllB.cons ?_ AllB.nil)
     first | refine WB_run [] rfl rfl (WX_q rfl rfl (q_index_own G rfl rfl rfl rfl rfl (by omega) vm188) (WL_nil ⟨rfl, ?_⟩)) | refine WB_run [] rfl rfl (WX_q rfl rfl (q_index_own G rfl rfl rfl rfl rfl (by omega) vm184) (WL_nil ⟨rfl, ?_⟩)) | refine WB_run [] rfl rfl (WX_q rfl rfl (q_index_own G rfl rfl rfl rfl rfl (by omega) vm182) (WL_nil ⟨rfl, ?_⟩))
     refine WA_branch (rs := [9]) vm175 rfl (AllB.cons ?_ AllB.nil)
     first | refine WB_run [] rfl rfl (WX_q rfl rfl (q_load_rpt_struct G rfl rfl rfl rfl (movW_get (by omega)) rfl) (WL_nil ⟨rfl, ?_⟩)) | refine WB_run [] rfl rfl (WX_q rfl rfl (q_load_rpt_struct G rfl rfl rfl rfl (movW_gp (by omega) (by omega)) rfl) (WL_nil ⟨rfl, ?_⟩)) | refine WB_run [] rfl rfl (WX_q rfl rfl (q_load_rpt_struct G rfl rfl rfl rfl (movW_gs (by omega) (by omega)) rfl) (WL_nil ⟨rfl, ?_⟩))
     refine WA_branch (rs := [14]) vm175 rfl (AllB.cons ?_ AllB.nil)
     first | refine WB_run [] rfl rfl (WX_q rfl rfl (q_index_own G rfl rfl rfl rfl rfl (by omega) vm188) (WL_nil ⟨rfl, ?_⟩)) | refine WB_run [] rfl rfl (WX_q rfl rfl (q_index_own G rfl rfl rfl rfl rfl (by omega) vm184) (WL_nil ⟨rfl, ?_⟩)) | refine WB_run [] rfl rfl (WX_q rfl rfl (q_index_own G rfl rfl rfl rfl rfl (by omega) vm182) (WL_nil ⟨rfl, ?_⟩))
     refine WA_branch (rs := [15]) vm175 rfl (AllB.cons ?_ AllB.nil)
     first | refine WB_run [] rfl rfl (WX_store_row G rfl rfl rfl rfl rfl (movW_get (by omega)) rfl rfl rfl rfl rfl (Nat.le_of_ble_eq_true rfl) rfl (WL_nil ⟨rfl, ?_⟩)) | refine WB_run [] rfl rfl (WX_store_row G rfl rfl rfl rfl rfl (movW_gp (by omega) (by omega)) rfl rfl rfl rfl rfl (Nat.le_of_ble_eq_true rfl) rfl (WL_nil ⟨rfl, ?_⟩)) | refine WB_run [] rfl rfl (WX_store_row G rfl rfl rfl rfl rfl (movW_gs (by omega) (by omega)) rfl rfl rfl rfl rfl (Nat.le_of_ble_eq_true rfl) rfl (WL_nil ⟨rfl, ?_⟩))
     refine WA_branch (rs := [16]) vm175 rfl (AllB.cons ?_ AllB.nil)
     first | refine WB_run [] rfl rfl (WX_q rfl rfl (q_index_own G rfl rfl rfl rfl rfl (by omega) vm188) (WL_nil ⟨rfl, ?_⟩)) | refine WB_run [] rfl rfl (WX_q rfl rfl (q_index_own G rfl rfl rfl rfl rfl (by omega) vm184) (WL_nil ⟨rfl, ?_⟩)) | refine WB_run [] rfl rfl (WX_q rfl rfl (q_index_own G rfl rfl rfl rfl rfl (by omega) vm182) (WL_nil ⟨rfl, ?_⟩))
     refine WA_branch (rs := [17]) vm175 rfl (AllB.cons ?_ AllB.nil)
     first | refine WB_run [] rfl rfl (WX_store_row G rfl rfl rfl rfl rfl (movW_get (by omega)) rfl rfl rfl rfl rfl (Nat.le_of_ble_eq_true rfl) rfl (WL_nil ⟨rfl, ?_⟩)) | refine WB_run [] rfl rfl (WX_store_row G rfl rfl rfl rfl rfl (movW_gp (by omega) (by omega)) rfl rfl rfl rfl rfl (Nat.le_of_ble_eq_true rfl) rfl (WL_nil ⟨rfl, ?_⟩)) | refine WB_run [] rfl rfl (WX_store_row G rfl rfl rfl rfl rfl (movW_gs (by omega) (by omega)) rfl rfl rfl rfl rfl (Nat.le_of_ble_eq_true rfl) rfl (WL_nil ⟨rfl, ?_⟩))
     exact WA_end vm175 (Meet.mk rfl rfl rfl rfl)
    refine zgo ?_
    refine ⟨(j - 1), ?_, ?_, ⟨⟨_, rfl, by (congr 2; omega)⟩, rfl, trivial⟩, ⟨⟨_, rfl, by (exact congrArg (fun z => Row.row _ _ z) (by rw [htn (by omega)]; exact movW_swap (by omega) (by omega)))⟩, rfl, rfl, trivial⟩, rfl, rfl, rfl⟩
    ·exact ⟨by omega, fun t h1 h2 => (by by_cases e : t = j - 1 <;> first | (subst e; exact urg_neg.mp (by omega)) | exact hj.2 t (by omega) h2)⟩
    omega
   refine zgo ?_
   refine ⟨(i + 1), ?_, ?_, ⟨⟨_, rfl, by rfl⟩, rfl, trivial⟩, ⟨⟨_, rfl, by (rw [srtN_succ (by omega), ← movW_end (by omega) hM.pw hM.dif (fun t ht ht2 => hj.2 t ht (by omega)) vm214])⟩, rfl, rfl, trivial⟩, rfl, rfl, rfl⟩
   ·omega
   omega
  refine zwf ?_
  refine zgo ?_
  refine ⟨(i + 1), ?_, ?_, ⟨⟨_, rfl, by rfl⟩, rfl, trivial⟩, ⟨⟨_, rfl, by (rw [srtN_succ (by omega), ← movW_end (by omega) hM.pw hM.dif (fun t ht ht2 => hj.2 t ht (by omega)) vm214])⟩, rfl, rfl, trivial⟩, rfl, rfl, rfl⟩
  ·omega
  omega
 refine W_exit (finm_many rfl rfl rfl rfl rcs_nil rfl (AftOK.stays rfl ?_ rfl AftOK.nil))
 all_goals (
  have e : srtN d i = srtW d := srtN_all (by omega)
  rw [e]
 )
set_option maxHeartbeats 4000000 in
theorem c_slices_pdqsortCmpFunc_impl_Waiter (d : List Wtr) (hd : difW d) (hn : d.length ≤ 12) (lim : Int) : CtrM Tryz.prog 236 [.own 0, .v (.int .i64 0), .v (.int .i64 (d.length : Int)), .v (.int .i64 lim), .v (.func (.func 201) #[] #[])] [.row 183 2 (d.map encWa)] (.many []) [some (.row 183 2 ((srtW d).map encWa))] := by
 refine CtrM.of (n := 148) (k := 1) G Tryz.func236 rfl vm175 rfl rfl rfl rfl rfl rfl rfl (fun w0 _ hpin => ?_)
 refine zgo ?_
 refine W_loopK [0, 4] [0] (fun (u : Unit) => [(1, .v (.int .i64 0)), (2, .v (.int .i64 (d.length : Int))), (3, .v (.int .i64 lim)), (10, .v (.bool true)), (11, .v (.bool true))]) (fun (u : Unit) => []) (fun (u : Unit) => True) (fun (u : Unit) => 0) () rfl rfl ?_ ?_ ?_ ?_
 ·first | trivial | omega | (refine ⟨?_, ?_⟩ <;> omega)
 ·exact ⟨⟨_, rfl, by (first | rfl | (simp; done) | (simp; omega))⟩, rfl, ⟨⟨_, rfl, by (first | rfl | (simp; done) | (simp; omega))⟩, rfl, ⟨⟨_, rfl, by (first | rfl | (simp; done) | (simp; omega))⟩, rfl, ⟨⟨_, rfl, by (first | rfl | (simp; done) | (simp; omega))⟩, rfl, ⟨⟨_, rfl, by (first | rfl | (simp; done) | (simp; omega))⟩, rfl, trivial⟩⟩⟩⟩⟩
 ·exact trivial
 intro u hinv
 simp only [List.cons_append, List.nil_append]
 refine zcd (fun h1 => ?_) (fun h1 => ?_)
 ·refine vm52 ?_
  refine WX_callm 1 [0] rfl rfl rfl (c_slices_insertionSortCmpFunc_impl_Waiter d hd hn) rfl (RowsIn.cons rfl RowsIn.nil) rfl rfl rfl ?_
  refine zgo ?_
  refine W_ret (finm_many rfl rfl rfl rfl rcs_nil rfl (AftOK.stays rfl ?_ rfl AftOK.nil))
  all_goals (rfl)
 exfalso; omega
set_option maxHeartbeats 4000000 in
theorem c_slices_SortFunc_impl_Waiter_impl_Waiter (d : List Wtr) (hd : difW d) (hn : d.length ≤ 12) : CtrM Tryz.prog 200 [.own 0, .v (.func (.func 201) #[] #[])] [.row 183 2 (d.map encWa)] (.many []) [some (.row 183 2 ((srtW d).map encWa))] := by
 refine CtrM.of (n := 14) (k := 1) G Tryz.func200 rfl vm175 rfl rfl rfl rfl rfl rfl rfl (fun w0 _ hpin => ?_)
 refine zgo ?_
 refine vm40 ?_
 refine WL_cons rfl (WX_calle 1 rfl rfl rfl (ArgsOK.of rfl) (c_math_bits_Len_e d.length hn) (fun _ => rfl) rfl (fun y1 => ?_))
 refine zgo ?_
 refine WL_cons rfl (WX_callm 1 [0] rfl rfl rfl (c_slices_pdqsortCmpFunc_impl_Waiter d hd hn _) rfl (RowsIn.cons rfl RowsIn.nil) rfl rfl rfl (WL_nil (finm_many rfl rfl rfl rfl rcs_nil rfl (AftOK.stays rfl ?_ rfl AftOK.nil))))
 all_goals (rfl)
end Go.Proofs.YtcnodpipinlpcaaGreat
set_option maxRecDepth 20000
set_option linter.unusedVariables false
set_option linter.unusedSimpArgs false
namespace Go.Proofs.YtcnodpipinlpcaaGreat
open Go Go.Rf
set_option maxHeartbeats 4000000 in
theorem c_impl_pendingIrqs (q : Que) (hF : QF q) : Ctr Tryz.prog 153 [.agg [.lst 3 (q.sl.map encSl), .lst 2 (q.wa.map encWa)]] (.one (.fr 3 1 ((pndI q).map Rf.encI))) := by
 have hl4 := hF.sl.len
 have hwn := hF.wn8
 have cS := c_slices_SortFunc_impl_Waiter_impl_Waiter (pnL q 4) (pnL_dif hF 4 (Nat.le_refl _)) (by have := @pnL_len q 4; omega)
 rw [pn_srt hF] at cS
 refine Ctr.of (n := 50) G Tryz.func153 rfl vm175 rfl rfl rfl (fun w0 => ?_)
 refine W_pinS 0 rfl (fun _ => rfl) (fun u0 => ?_)
 refine vm1 ?_
 refine vm52 ?_
 refine WX_lit G 2 rfl rfl rfl rfl rfl rfl rfl rfl ?_
 refine zgo ?_
 refine vm14 ?_
 refine vm7 ?_
 refine WX_lit G 3 rfl rfl rfl rfl rfl rfl rfl rfl ?_
 refine zgo ?_
 refine W_loopK [4, 15, 16] [2] (fun (i : Nat) => [(3, .own 1), (17, .v (.int .i64 (i : Int)))]) (fun (i : Nat) => [(1, some (.row 183 2 ((pnL q i).map encWa)))]) (fun (i : Nat) => i ≤ 4) (fun (i : Nat) => 4 - i) 0 rfl rfl ?_ ?_ ?_ ?_
 ·exact Nat.zero_le _
 ·exact ⟨⟨_, rfl, by rfl⟩, rfl, ⟨⟨_, rfl, by rfl⟩, rfl, trivial⟩⟩
 ·exact ⟨⟨_, rfl, by rfl⟩, rfl, rfl, trivial⟩
 intro i hi
 have hpl := @pnL_len q i
 simp only [List.cons_append, List.nil_append]
 refine zcd (fun h1 => ?_) (fun h1 => ?_)
 ·refine vm52 ?_
  refine WX_alloc_s G 4 rfl rfl rfl rfl rfl ?_
  refine zcd (fun h2 => ?_) (fun h2 => ?_)
  ·refine zwt ?_
   refine zcl (c_impl_waiterOf _) ?_
   refine vm7 ?_
   refine WX_lit G 5 rfl rfl rfl rfl rfl rfl rfl rfl ?_
   refine vm14 ?_
   refine zgo ?_
   refine ⟨(i + 1), ?_, ?_, ⟨⟨_, rfl, by rfl⟩, rfl, ⟨⟨_, rfl, by rfl⟩, rfl, trivial⟩⟩, ⟨⟨_, rfl, by (first | (rw [pnL_t (by omega), List.map_append]; rfl) | (rw [pnL_t (by omega)]; done) | (rw [pnL_t (by omega)]; rfl) | (rw [pnL_f (by omega)]; done))⟩, rfl, rfl, trivial⟩, rfl, rfl, rfl⟩
   ·omega
   omega
  refine zcd (fun h3 => ?_) (fun h3 => ?_)
  ·refine zcl (c_impl_waiterOf _) ?_
   refine vm7 ?_
   refine WX_lit G 5 rfl rfl rfl rfl rfl rfl rfl rfl ?_
   refine vm14 ?_
   refine zgo ?_
   refine ⟨(i + 1), ?_, ?_, ⟨⟨_, rfl, by rfl⟩, rfl, ⟨⟨_, rfl, by rfl⟩, rfl, trivial⟩⟩, ⟨⟨_, rfl, by (first | (rw [pnL_t (by omega), List.map_append]; rfl) | (rw [pnL_t (by omega)]; done) | (rw [pnL_t (by omega)]; rfl) | (rw [pnL_f (by omega)]; done))⟩, rfl, rfl, trivial⟩, rfl, rfl, rfl⟩
   ·omega
   omega
  refine zgo ?_
  refine ⟨(i + 1), ?_, ?_, ⟨⟨_, rfl, by rfl⟩, rfl, ⟨⟨_, rfl, by rfl⟩, rfl, trivial⟩⟩, ⟨⟨_, rfl, by (first | (rw [pnL_t (by omega), List.map_append]; rfl) | (rw [pnL_t (by omega)]; done) | (rw [pnL_t (by omega)]; rfl) | (rw [pnL_f (by omega)]; done))⟩, rfl, rfl, trivial⟩, rfl, rfl, rfl⟩
  ·omega
  omega
 obtain rfl : i = 4 := (by omega)
 refine vm52 ?_
 refine WX_callm 3 [1] rfl rfl rfl cS rfl (RowsIn.cons rfl RowsIn.nil) rfl rfl rfl ?_
 refine zgo ?_
 refine W_loopK [37, 38] [1] (fun (i : Nat) => [(4, .own 2), (39, .v (.int .i64 (i : Int)))]) (fun (i : Nat) => [(2, some (.row 3 1 (((pndI q).take i).map Rf.encI)))]) (fun (i : Nat) => i ≤ (pnS q 4).length) (fun (i : Nat) => (pnS q 4).length - i) 0 rfl rfl ?_ ?_ ?_ ?_
 ·exact Nat.zero_le _
 ·exact ⟨⟨_, rfl, by rfl⟩, rfl, ⟨⟨_, rfl, by rfl⟩, rfl, trivial⟩⟩
 ·exact ⟨⟨_, rfl, by rfl⟩, rfl, rfl, trivial⟩
 intro i hi
 have hpl := @pnS_len q 4
 simp only [List.cons_append, List.nil_append]
 refine zcd (fun h4 => ?_) (fun h4 => ?_)
 ·refine zgo ?_
  refine vm2 ?_
  refine WX_q rfl rfl (q_load_rpt_struct G rfl rfl rfl rfl (getM (by omega) vm187) rfl) ?_
  refine vm7 ?_
  refine WX_alloc_s G 4 rfl rfl rfl rfl rfl ?_
  refine vm52 ?_
  refine WX_lit G 5 rfl rfl rfl rfl rfl rfl rfl rfl ?_
  refine vm14 ?_
  refine zgo ?_
  refine ⟨(i + 1), ?_, ?_, ⟨⟨_, rfl, by rfl⟩, rfl, ⟨⟨_, rfl, by rfl⟩, rfl, trivial⟩⟩, ⟨⟨_, rfl, by (exact congrArg (fun z => Row.row _ _ z) (pnd_take (by omega)))⟩, rfl, rfl, trivial⟩, rfl, rfl, rfl⟩
  ·omega
  omega
 refine zfo ?_
 all_goals (first | rfl | (rw [pnd_all (by omega)]))
set_option maxHeartbeats 4000000 in
theorem c_spec_l9Pending (q : Que) (hF : QF q) : Ctr Tryz.prog 151 [.agg [.lst 3 (q.sl.map encSl), .lst 2 (q.wa.map encWa)]] (.one (.fr 3 1 ((pndI q).map Rf.encI))) := by
 have hl4 := hF.sl.len
 have hwn := hF.wn8
 refine Ctr.of (n := 55) G Tryz.func151 rfl vm175 rfl rfl rfl (fun w0 => ?_)
 refine W_pinS 0 rfl (fun _ => rfl) (fun u0 => ?_)
 refine vm1 ?_
 refine vm52 ?_
 refine WX_lit G 2 rfl rfl rfl rfl rfl rfl rfl rfl ?_
 refine zgo ?_
 refine vm14 ?_
 refine zgo ?_
 refine W_loopK [1] [0] (fun (i : Nat) => [(3, .own 1), (4, .v (.int .i64 (i : Int)))]) (fun (i : Nat) => [(1, some (.row 183 2 ((pnS q i).map encWa)))]) (fun (i : Nat) => i ≤ 4) (fun (i : Nat) => 4 - i) 0 rfl rfl ?_ ?_ ?_ ?_
 ·exact Nat.zero_le _
 ·exact ⟨⟨_, rfl, by rfl⟩, rfl, ⟨⟨_, rfl, by rfl⟩, rfl, trivial⟩⟩
 ·exact ⟨⟨_, rfl, by rfl⟩, rfl, rfl, trivial⟩
 intro i hi
 have hpl := @pnS_len q i
 simp only [List.cons_append, List.nil_append]
 refine zcd (fun h1 => ?_) (fun h1 => ?_)
 ·refine zgo ?_
  refine vm42 ?_
  refine zcd (fun h2 => ?_) (fun h2 => ?_)
  ·refine zwt ?_
   refine vm52 ?_
   refine WX_call 4 rfl rfl rfl (ArgsOK.of rfl) (c_spec_l9Wait (pnS q i) ⟨_, _⟩ (by omega)) rfl rfl ?_
   refine zgn ?_
   refine vm41 ?_
   refine WL_gh (Gh.sub 3 1 np rfl rfl rfl) (WL_nil ⟨(i + 1), ?_, ?_, ⟨⟨_, rfl, by rfl⟩, rfl, ⟨⟨_, rfl, by rfl⟩, rfl, trivial⟩⟩, ⟨⟨_, rfl, by (first | (rw [pnS_t (by omega), List.map_append]; rfl) | (rw [pnS_t (by omega)]; done) | (rw [pnS_t (by omega)]; rfl) | (rw [pnS_f (by omega)]; done))⟩, rfl, rfl, trivial⟩, rfl, rfl, rfl⟩)
   ·omega
   omega
  refine zcd (fun h3 => ?_) (fun h3 => ?_)
  ·refine vm52 ?_
   refine WX_call 4 rfl rfl rfl (ArgsOK.of rfl) (c_spec_l9Wait (pnS q i) ⟨_, _⟩ (by omega)) rfl rfl ?_
   refine zgn ?_
   refine vm41 ?_
   refine WL_gh (Gh.sub 3 1 np rfl rfl rfl) (WL_nil ⟨(i + 1), ?_, ?_, ⟨⟨_, rfl, by rfl⟩, rfl, ⟨⟨_, rfl, by rfl⟩, rfl, trivial⟩⟩, ⟨⟨_, rfl, by (first | (rw [pnS_t (by omega), List.map_append]; rfl) | (rw [pnS_t (by omega)]; done) | (rw [pnS_t (by omega)]; rfl) | (rw [pnS_f (by omega)]; done))⟩, rfl, rfl, trivial⟩, rfl, rfl, rfl⟩)
   ·omega
   omega
  refine zgo ?_
  refine ⟨(i + 1), ?_, ?_, ⟨⟨_, rfl, by rfl⟩, rfl, ⟨⟨_, rfl, by rfl⟩, rfl, trivial⟩⟩, ⟨⟨_, rfl, by (first | (rw [pnS_t (by omega), List.map_append]; rfl) | (rw [pnS_t (by omega)]; done) | (rw [pnS_t (by omega)]; rfl) | (rw [pnS_f (by omega)]; done))⟩, rfl, rfl, trivial⟩, rfl, rfl, rfl⟩
  ·omega
  omega
 obtain rfl : i = 4 := (by omega)
 refine vm52 ?_
 refine WX_lit G 3 rfl rfl rfl rfl rfl rfl rfl rfl ?_
 refine zgo ?_
 refine W_loopK [3] [1] (fun (i : Nat) => [(6, .own 2), (7, .v (.int .i64 (i : Int)))]) (fun (i : Nat) => [(2, some (.row 3 1 (((pndI q).take i).map Rf.encI)))]) (fun (i : Nat) => i ≤ (pnS q 4).length) (fun (i : Nat) => (pnS q 4).length - i) 0 rfl rfl ?_ ?_ ?_ ?_
 ·exact Nat.zero_le _
 ·exact ⟨⟨_, rfl, by rfl⟩, rfl, ⟨⟨_, rfl, by rfl⟩, rfl, trivial⟩⟩
 ·exact ⟨⟨_, rfl, by rfl⟩, rfl, rfl, trivial⟩
 intro i hi
 have hpl := @pnS_len q 4
 simp only [List.cons_append, List.nil_append]
 refine zcd (fun h4 => ?_) (fun h4 => ?_)
 ·refine zgo ?_
  refine vm2 ?_
  refine WX_q rfl rfl (q_field_rpt G rfl rfl rfl rfl) ?_
  refine vm7 ?_
  refine WX_q rfl rfl (q_load_rpt G rfl rfl rfl rfl rfl (getM (by omega) vm187) rfl) ?_
  refine vm7 ?_
  refine WX_lit G 4 rfl rfl rfl rfl rfl rfl rfl rfl ?_
  refine vm14 ?_
  refine zgo ?_
  refine ⟨(i + 1), ?_, ?_, ⟨⟨_, rfl, by rfl⟩, rfl, ⟨⟨_, rfl, by rfl⟩, rfl, trivial⟩⟩, ⟨⟨_, rfl, by (exact congrArg (fun z => Row.row _ _ z) (pnd_take (by omega)))⟩, rfl, rfl, trivial⟩, rfl, rfl, rfl⟩
  ·omega
  omega
 refine zfo ?_
 all_goals (first | rfl | (rw [pnd_all (by omega)]))
end Go.Proofs.YtcnodpipinlpcaaGreat
set_option maxRecDepth 20000
set_option linter.unusedVariables false
set_option linter.unusedSimpArgs false
namespace Go.Proofs.YtcnodpipinlpcaaGreat
open Go Go.Rf
set_option maxHeartbeats 2000000 in
set_option maxHeartbeats 4000000 in
theorem c_spec_l25Of (m : Mach) (hM : MaF m) (hs : SmallM m) : Ctr Tryz.prog 97 [.agg [.lst 2 (m.rs.map encRo), .lst 1 (m.en.map encO), .lst 1 (m.ra.map encO), .nst none 4 (m.cp.map (encIf 154 183))]] (.shp true [some 5] [.fr 4 1 ((abOf m).en.map encO), .fr 4 1 ((abOf m).ra.map encO), .fr 4 1 ((abOf m).po.map encO), .fr 3 1 ((abOf m).ma.map Rf.encI), .ne 26 1 ((abOf m).st.map encSt)]) := by
 have f1 := hM.n
 have f2 := hM.en
 have f3 := hM.ra
 have f4 := hM.rn
 refine Ctr.of (n := 70) G Tryz.func97 rfl vm175 rfl rfl rfl (fun w0 => ?_)
 refine W_pinS 0 rfl (fun _ => rfl) (fun u0 => ?_)
 refine vm91 ?_
 refine W_sq (W_drawsH 14 [0, 1] mixed vm175 rfl rfl (fun r0 => ?_) (fun _ h => h))
 refine vm77 ?_
 refine WA_more (N := 8) rfl (WAV_startH (fuel := 4) [⟨0, 7, 2, false, .row 4 1 []⟩, ⟨4, 11, 3, false, .row 4 1 []⟩, ⟨8, 15, 4, false, .row 4 1 (List.replicate 8 [.bool false])⟩, ⟨9, 16, 5, false, .row 3 1 []⟩, ⟨10, 17, 6, false, .row 26 1 []⟩, ⟨12, 3, 7, true, .box (avR [.slice none 0 0, .slice none 0 0, .slice none 0 0, .slice none 0 0, .slice none 0 0] [])⟩] (AllVOK.cons (VOK.lit G rfl rfl rfl rfl rfl) (AllVOK.cons (VOK.lit G rfl rfl rfl rfl rfl) (AllVOK.cons (VOK.make (n := 8) G rfl rfl rfl rfl rfl (by decide) (by decide)) (AllVOK.cons (VOK.lit G rfl rfl rfl rfl rfl) (AllVOK.cons (VOK.lit G rfl rfl rfl rfl rfl) (AllVOK.cons (VOK.boxS G rfl rfl rfl rfl rfl) (AllVOK.nil))))))) (fun hok => ?_))
 refine WAV_go [(3, [0])] vm175 vm175 (fun e he => hok e he) vm175 (AllVS.cons ?_ AllVS.nil)
 refine VStep.mk1 [0, 1] 7 (.own 2) 2 (.row 4 1 []) [⟨4, 11, 3, false, .row 4 1 []⟩, ⟨8, 15, 4, false, .row 4 1 (List.replicate 8 [.bool false])⟩, ⟨9, 16, 5, false, .row 3 1 []⟩, ⟨10, 17, 6, false, .row 26 1 []⟩, ⟨12, 3, 7, true, .box (avR [.slice none 0 0, .slice none 0 0, .slice none 0 0, .slice none 0 0, .slice none 0 0] [])⟩] rfl rfl rfl rfl rfl (fun b1 _ hbn => WX_append G vm185 rfl rfl rfl rfl rfl rfl rfl rfl rfl vm179 rfl rfl (WL_nil rfl)) vm175 vm175 vm175 vm175 (WAV_go [(7, [4])] vm175 vm175 (fun e he => hok e (vin (is := [0]) rfl he)) vm175 (AllVS.cons ?_ AllVS.nil))
 refine VStep.mk1 [0, 1] 11 (.own 3) 3 (.row 4 1 []) [⟨8, 15, 4, false, .row 4 1 (List.replicate 8 [.bool false])⟩, ⟨9, 16, 5, false, .row 3 1 []⟩, ⟨10, 17, 6, false, .row 26 1 []⟩, ⟨12, 3, 7, true, .box (avR [.slice none 0 0, .slice none 0 0, .slice none 0 0, .slice none 0 0, .slice none 0 0] [])⟩] rfl rfl rfl rfl rfl (fun b1 _ hbn => WX_append G vm185 rfl rfl rfl rfl rfl rfl rfl rfl rfl vm179 rfl rfl (WL_nil rfl)) vm175 vm175 vm175 vm175 (WAV_go [(11, [8, 9, 10])] vm175 vm175 (fun e he => hok e (vin (is := [0, 4]) rfl he)) vm175 (AllVS.cons ?_ AllVS.nil))
 refine VStep.mk3 [0, 1] 15 (.own 4) 4 (.row 4 1 (List.replicate 8 [.bool false])) 16 (.own 5) 5 (.row 3 1 []) 17 (.own 6) 6 (.row 26 1 []) [⟨12, 3, 7, true, .box (avR [.slice none 0 0, .slice none 0 0, .slice none 0 0, .slice none 0 0, .slice none 0 0] [])⟩] rfl rfl rfl rfl rfl (fun b1 _ hbn => WX_q rfl rfl (q_build G rfl rfl rfl rfl) (WL_nil rfl)) vm175 vm175 vm175 vm175 (WAV_go [(13, [12])] vm175 vm175 (fun e he => hok e (vin (is := [0, 4, 8, 9, 10]) rfl he)) vm175 (AllVS.cons ?_ AllVS.nil))
 refine vm31 ?_
 clear hok
 refine vm87 ?_
 refine W_loopK [1, 2, 3] [0, 1, 2, 3, 7] (fun (k : Nat) => [(4, .v (.int .i64 (k : Int)))]) (fun (k : Nat) => [(4, some (.row 4 1 ((poN m k).map encO))), (5, some (.row 3 1 (((m.cp.map (fun x => x.ma)).take k).map Rf.encI))), (6, some (.nest 26 1 (((m.cp.map (fun x => x.st)).take k).map encSt) []))]) (fun (k : Nat) => k ≤ m.cp.length) (fun (k : Nat) => m.cp.length - k) 0 rfl rfl ?_ ?_ ?_ ?_
 ·exact Nat.zero_le _
 ·exact ⟨⟨_, rfl, by rfl⟩, rfl, trivial⟩
 ·exact ⟨⟨_, rfl, by rfl⟩, rfl, rfl, ⟨⟨_, rfl, by rfl⟩, rfl, rfl, ⟨⟨_, rfl, by rfl⟩, rfl, rfl, trivial⟩⟩⟩
 intro k hk
 have hp8 := @poN_len m k
 have hm1 : (m.cp.map (fun x => x.ma)).length = m.cp.length := List.length_map _
 have hm2 : (m.cp.map (fun x => x.st)).length = m.cp.length := List.length_map _
 simp only [List.cons_append, List.nil_append]
 refine zcd (fun h1 => ?_) (fun h1 => ?_)
 ·obtain ⟨hI, _, _, _⟩ := hM.ok k (by omega)
  have hsn := hI.sn
  have hpl := pndI_len hI.qu
  refine vm90 ?_
  refine W_loopK [1, 2, 3, 4, 5] [0, 1, 2, 3, 5, 6, 7, 8] (fun (i : Nat) => [(6, .v (.int .i64 (i : Int)))]) (fun (i : Nat) => [(4, some (.row 4 1 ((setP (poN m k) (pndI (m.cp.getD k default).qu) i).map encO)))]) (fun (i : Nat) => i ≤ (pndI (m.cp.getD k default).qu).length) (fun (i : Nat) => (pndI (m.cp.getD k default).qu).length - i) 0 rfl rfl ?_ ?_ ?_ ?_
  ·exact Nat.zero_le _
  ·exact ⟨⟨_, rfl, by rfl⟩, rfl, trivial⟩
  ·exact ⟨⟨_, rfl, by rfl⟩, rfl, rfl, trivial⟩
  intro i hi
  have hbp := fun h => pndI_bd hI.qu (i := i) h
  have hpo := @setP_len (poN m k) (pndI (m.cp.getD k default).qu) i
  have hp8 := @poN_len m k
  simp only [List.cons_append, List.nil_append]
  refine zcd (fun h2 => ?_) (fun h2 => ?_)
  ·have hbq := hbp (by omega)
   refine zgn ?_
   refine W_sq (W_block (W_drawsH 8 [0, 1, 2, 3, 5, 6, 7, 8] mixed vm175 rfl rfl (fun r0 => ?_) (fun _ h => h)))
   refine vm18 ?_
   refine WA_branch (rs := [6]) vm175 rfl (AllB.cons ?_ AllB.nil)
   first | refine WB_run [0, 1, 2, 3, 5, 6, 7, 8] rfl rfl (WX_q rfl rfl (q_index_own G rfl rfl rfl rfl rfl (by omega) vm198) (WL_nil ⟨rfl, ?_⟩)) | refine WB_run [0, 1, 2, 3, 5, 6, 7, 8] rfl rfl (WX_q rfl rfl (q_index_own G rfl rfl rfl rfl rfl (by omega) vm207) (WL_nil ⟨rfl, ?_⟩)) | refine WB_run [0, 1, 2, 3, 5, 6, 7, 8] rfl rfl (WX_q rfl rfl (q_index_own G rfl rfl rfl rfl rfl (by omega) vm187) (WL_nil ⟨rfl, ?_⟩)) | refine WB_run [0, 1, 2, 3, 5, 6, 7, 8] rfl rfl (WX_q rfl rfl (q_index_own G rfl rfl rfl rfl rfl (by omega) (by omega)) (WL_nil ⟨rfl, ?_⟩))
   refine WA_branch (rs := [7]) vm175 rfl (AllB.cons ?_ AllB.nil)
   first | refine WB_run [0, 1, 2, 3, 5, 6, 7, 8] rfl rfl (WX_store_row G rfl rfl rfl rfl rfl (getN (by omega)) rfl rfl rfl rfl rfl (Nat.le_of_ble_eq_true rfl) rfl (WL_nil ⟨rfl, ?_⟩)) | refine WB_run [0, 1, 2, 3, 5, 6, 7, 8] rfl rfl (WX_store_row G rfl rfl rfl rfl rfl (getM (by omega) vm209) rfl rfl rfl rfl rfl (Nat.le_of_ble_eq_true rfl) rfl (WL_nil ⟨rfl, ?_⟩)) | refine WB_run [0, 1, 2, 3, 5, 6, 7, 8] rfl rfl (WX_store_row G rfl rfl rfl rfl rfl (getM (by omega) (by omega)) rfl rfl rfl rfl rfl (Nat.le_of_ble_eq_true rfl) rfl (WL_nil ⟨rfl, ?_⟩))
   refine vm15 ?_
   refine zgo ?_
   refine ⟨(i + 1), ?_, ?_, ⟨⟨_, rfl, by rfl⟩, rfl, trivial⟩, ⟨⟨_, rfl, by (first | rfl | (exact congrArg (fun z => Row.row _ _ z) (take_ma (by omega))) | (exact congrArg (fun z => Row.nest _ _ z []) (take_st (by omega) rfl)) | (exact congrArg (fun z => Row.row _ _ z) vm195) | (obtain rfl : i = (pndI (m.cp.getD k default).qu).length := (by omega); rfl))⟩, rfl, rfl, trivial⟩, rfl, rfl, rfl⟩
   ·omega
   omega
  refine zgo ?_
  apply W_drawsJ [1, 2, 3, 4] [0, 1, 2, 3, 4, 6, 7, 10] 11 12 [0, 1, 2, 3, 4, 6, 8] mixed vm175 rfl rfl (fun _ h => znk h)
  ·intro r0
   refine zsa 0 ?_
   refine zsa 2 ?_
   refine zsa 3 ?_
   refine vm61 ?_
   refine WA_take 6 rfl vm175 vm175 rfl rfl rfl rfl (q_field_eptN G rfl rfl rfl rfl) (WA_take 7 rfl vm175 vm175 rfl rfl rfl rfl (q_load_eptN G rfl rfl rfl rfl) (WA_branch (rs := [1, 8]) vm175 rfl (AllB.cons ?_ (AllB.cons ?_ AllB.nil))))
   ·refine vm69 ?_
    refine WA_branch (rs := [8]) vm175 rfl (AllB.cons ?_ AllB.nil)
    refine WB_rn [0, 1, 2, 3, 4, 6, 8] rfl rfl (WX_lit G 10 rfl rfl rfl rfl rfl rfl rfl rfl (WL_nil ⟨rfl, ?_⟩))
    refine WA_branch (rs := [9]) vm175 rfl (AllB.cons ?_ AllB.nil)
    refine WB_run [0, 1, 2, 3, 4, 6, 8] rfl rfl (WX_gh (Gh.forget (id := 7) (k := 3) rfl rfl) <| WX_gh (Gh.keep [0, 1, 2, 3, 4, 5, 6, 7, 8, 9] rfl) <| WX_ren (tx := 47) 11 rfl rfl rfl rfl rfl <| WX_append G vm181 rfl rfl rfl rfl rfl rfl rfl rfl rfl vm179 rfl rfl (WL_nil ⟨rfl, ?_⟩))
    refine zsa 10 ?_
    refine WA_branch (rs := [11]) vm175 rfl (AllB.cons ?_ AllB.nil)
    refine vm69 ?_
    exact WA_end vm175 (Meet.mk rfl rfl rfl rfl)
   refine WB_rn [0, 1, 2, 3, 4, 6, 8] rfl rfl (WX_lit G 10 rfl rfl rfl rfl rfl rfl rfl rfl (WL_nil ⟨rfl, ?_⟩))
   refine WA_branch (rs := [1]) vm175 rfl (AllB.cons ?_ AllB.nil)
   refine vm69 ?_
   refine WA_branch (rs := [9]) vm175 rfl (AllB.cons ?_ AllB.nil)
   refine WB_run [0, 1, 2, 3, 4, 6, 8] rfl rfl (WX_gh (Gh.forget (id := 7) (k := 3) rfl rfl) <| WX_gh (Gh.keep [0, 1, 2, 3, 4, 5, 6, 7, 8, 9] rfl) <| WX_ren (tx := 47) 11 rfl rfl rfl rfl rfl <| WX_append G vm181 rfl rfl rfl rfl rfl rfl rfl rfl rfl vm179 rfl rfl (WL_nil ⟨rfl, ?_⟩))
   refine zsa 10 ?_
   refine WA_branch (rs := [11]) vm175 rfl (AllB.cons ?_ AllB.nil)
   refine vm69 ?_
   exact WA_end vm175 (Meet.mk rfl rfl rfl rfl)
  apply W_drawsJ [1, 2, 3, 4] [0, 1, 2, 3, 4, 7, 10, 13] 14 13 [0, 1, 2, 3, 4, 10] mixed vm175 rfl rfl (fun _ h => znk h)
  ·intro r0
   refine zsa 0 ?_
   refine zsa 2 ?_
   refine zsa 3 ?_
   refine vm61 ?_
   refine WA_take 6 rfl vm175 vm175 rfl rfl rfl rfl (q_field_eptN G rfl rfl rfl rfl) (WA_take 7 rfl vm175 vm175 rfl rfl rfl rfl (q_load_eptN G rfl rfl rfl rfl) (WA_branch (rs := [1, 8]) vm175 rfl (AllB.cons ?_ (AllB.cons ?_ AllB.nil))))
   ·refine vm47 ?_
    refine WA_branch (rs := [8]) vm175 rfl (AllB.cons ?_ AllB.nil)
    refine WB_rn [0, 1, 2, 3, 4, 10] rfl rfl (WX_call 12 rfl rfl rfl (ArgsOK.of rfl) (c_spec_l1Own _ (by omega)) rfl rfl (WL_nil ⟨rfl, ?_⟩))
    refine WA_branch (rs := [9]) vm175 rfl (AllB.cons ?_ AllB.nil)
    refine WB_rn [0, 1, 2, 3, 4, 10] rfl rfl (WX_lit_nest G 13 rfl rfl rfl rfl rfl rfl rfl rfl (.own rfl .nil) rfl rfl rfl rfl (WL_nil ⟨rfl, ?_⟩))
    refine WA_branch (rs := [10]) vm175 rfl (AllB.cons ?_ AllB.nil)
    refine WB_run [0, 1, 2, 3, 4, 10] rfl rfl (WX_gh (Gh.forget (id := 7) (k := 4) rfl rfl) <| WX_gh (Gh.keep [0, 1, 2, 3, 4, 6, 7, 10, 12] rfl) <| WX_ren (tx := 58) 14 rfl rfl rfl rfl rfl <| WX_append_nest G vm181 rfl rfl rfl rfl rfl rfl rfl rfl rfl rfl vm179 rfl rfl (WL_nil ⟨rfl, ?_⟩))
    refine zsa 11 ?_
    refine WA_branch (rs := [12]) vm175 rfl (AllB.cons ?_ AllB.nil)
    refine vm47 ?_
    exact WA_end vm175 (Meet.mk rfl rfl rfl rfl)
   refine WB_rn [0, 1, 2, 3, 4, 10] rfl rfl (WX_call 12 rfl rfl rfl (ArgsOK.of rfl) (c_spec_l1Own _ (by omega)) rfl rfl (WL_nil ⟨rfl, ?_⟩))
   refine WA_branch (rs := [1, 9]) vm175 rfl (AllB.cons ?_ (AllB.cons ?_ AllB.nil))
   ·refine vm47 ?_
    refine WA_branch (rs := [9]) vm175 rfl (AllB.cons ?_ AllB.nil)
    refine WB_rn [0, 1, 2, 3, 4, 10] rfl rfl (WX_lit_nest G 13 rfl rfl rfl rfl rfl rfl rfl rfl (.own rfl .nil) rfl rfl rfl rfl (WL_nil ⟨rfl, ?_⟩))
    refine WA_branch (rs := [10]) vm175 rfl (AllB.cons ?_ AllB.nil)
    refine WB_run [0, 1, 2, 3, 4, 10] rfl rfl (WX_gh (Gh.forget (id := 7) (k := 4) rfl rfl) <| WX_gh (Gh.keep [0, 1, 2, 3, 4, 6, 7, 10, 12] rfl) <| WX_ren (tx := 58) 14 rfl rfl rfl rfl rfl <| WX_append_nest G vm181 rfl rfl rfl rfl rfl rfl rfl rfl rfl rfl vm179 rfl rfl (WL_nil ⟨rfl, ?_⟩))
    refine zsa 11 ?_
    refine WA_branch (rs := [12]) vm175 rfl (AllB.cons ?_ AllB.nil)
    refine vm47 ?_
    exact WA_end vm175 (Meet.mk rfl rfl rfl rfl)
   refine WB_rn [0, 1, 2, 3, 4, 10] rfl rfl (WX_lit_nest G 13 rfl rfl rfl rfl rfl rfl rfl rfl (.own rfl .nil) rfl rfl rfl rfl (WL_nil ⟨rfl, ?_⟩))
   refine WA_branch (rs := [1]) vm175 rfl (AllB.cons ?_ AllB.nil)
   refine vm47 ?_
   refine WA_branch (rs := [10]) vm175 rfl (AllB.cons ?_ AllB.nil)
   refine WB_run [0, 1, 2, 3, 4, 10] rfl rfl (WX_gh (Gh.forget (id := 7) (k := 4) rfl rfl) <| WX_gh (Gh.keep [0, 1, 2, 3, 4, 6, 7, 10, 12] rfl) <| WX_ren (tx := 58) 14 rfl rfl rfl rfl rfl <| WX_append_nest G vm181 rfl rfl rfl rfl rfl rfl rfl rfl rfl rfl vm179 rfl rfl (WL_nil ⟨rfl, ?_⟩))
   refine zsa 11 ?_
   refine WA_branch (rs := [12]) vm175 rfl (AllB.cons ?_ AllB.nil)
   refine vm47 ?_
   exact WA_end vm175 (Meet.mk rfl rfl rfl rfl)
  refine vm41 ?_
  refine WL_gh (Gh.sub 10 5 np rfl rfl rfl) (WL_gh (Gh.sub 13 6 np rfl rfl rfl) (WL_nil ⟨(k + 1), ?_, ?_, ⟨⟨_, rfl, by rfl⟩, rfl, trivial⟩, ⟨⟨_, rfl, by (first | rfl | (exact congrArg (fun z => Row.row _ _ z) (take_ma (by omega))) | (exact congrArg (fun z => Row.nest _ _ z []) (take_st (by omega) rfl)) | (exact congrArg (fun z => Row.row _ _ z) vm195) | (obtain rfl : i = (pndI (m.cp.getD k default).qu).length := (by omega); rfl))⟩, rfl, rfl, ⟨⟨_, rfl, by (first | rfl | (exact congrArg (fun z => Row.row _ _ z) (take_ma (by omega))) | (exact congrArg (fun z => Row.nest _ _ z []) (take_st (by omega) rfl)) | (exact congrArg (fun z => Row.row _ _ z) vm195) | (obtain rfl : i = (pndI (m.cp.getD k default).qu).length := (by omega); rfl))⟩, rfl, rfl, ⟨⟨_, rfl, by (first | rfl | (exact congrArg (fun z => Row.row _ _ z) (take_ma (by omega))) | (exact congrArg (fun z => Row.nest _ _ z []) (take_st (by omega) rfl)) | (exact congrArg (fun z => Row.row _ _ z) vm195) | (obtain rfl : i = (pndI (m.cp.getD k default).qu).length := (by omega); rfl))⟩, rfl, rfl, trivial⟩⟩⟩, rfl, rfl, rfl⟩))
  ·omega
  omega
 refine zgo ?_
 refine W_ret (fin_shp rfl rfl rfl rfl (rcs_cons (rc_own rfl ?_) (rcs_cons (rc_own rfl ?_) (rcs_cons (rc_own rfl ?_) (rcs_cons (rc_own rfl ?_) (rcs_cons (rc_ne rfl ?_) rcs_nil))))))
 all_goals exact vm153
set_option maxHeartbeats 2000000 in
set_option maxHeartbeats 4000000 in
theorem c_impl_abstractOf (m : Mach) (hM : MaF m) (hs : SmallM m) : Ctr Tryz.prog 99 [.agg [.lst 2 (m.rs.map encRo), .lst 1 (m.en.map encO), .lst 1 (m.ra.map encO), .nst none 4 (m.cp.map (encIf 154 183))]] (.shp true [some 5] [.fr 4 1 ((abOf m).en.map encO), .fr 4 1 ((abOf m).ra.map encO), .fr 4 1 ((abOf m).po.map encO), .fr 3 1 ((abOf m).ma.map Rf.encI), .ne 26 1 ((abOf m).st.map encSt)]) := by
 have f1 := hM.n
 have f2 := hM.en
 have f3 := hM.ra
 have f4 := hM.rn
 refine Ctr.of (n := 57) G Tryz.func99 rfl (by kernel_rfl) rfl rfl rfl (fun w0 => ?_)
 refine W_pinS 0 rfl (fun _ => rfl) (fun u0 => ?_)
 refine zgo ?_
 refine WL_cons rfl ?_
 refine WX_box 1 rfl rfl rfl rfl rfl rfl rfl ?_
 refine WL_cons rfl ?_
 refine WX_alloc_s G 2 rfl rfl rfl rfl rfl ?_
 refine zgn ?_
 refine W_sq (W_drawsH 14 [0, 1] mixed (by kernel_rfl) rfl rfl (fun r0 => ?_) (fun _ h => h))
 refine zsa 1 ?_
 refine zsa 2 ?_
 refine zsa 5 ?_
 refine zsa 6 ?_
 refine WA_more (N := 8) rfl (WAV_startH (fuel := 4) [⟨0, 8, 2, false, .row 4 1 []⟩, ⟨4, 12, 3, false, .row 4 1 []⟩, ⟨8, 16, 4, false, .row 4 1 (List.replicate 8 [.bool false])⟩, ⟨9, 17, 5, false, .row 3 1 []⟩, ⟨10, 18, 6, false, .row 26 1 []⟩, ⟨12, 3, 7, true, .box (avR [.slice none 0 0, .slice none 0 0, .slice none 0 0, .slice none 0 0, .slice none 0 0] [])⟩] (AllVOK.cons (VOK.lit G rfl rfl rfl rfl rfl) (AllVOK.cons (VOK.lit G rfl rfl rfl rfl rfl) (AllVOK.cons (VOK.make (n := 8) G rfl rfl rfl rfl rfl (by decide) (by decide)) (AllVOK.cons (VOK.lit G rfl rfl rfl rfl rfl) (AllVOK.cons (VOK.lit G rfl rfl rfl rfl rfl) (AllVOK.cons (VOK.boxS G rfl rfl rfl rfl rfl) (AllVOK.nil))))))) (fun hok => ?_))
 refine WAV_go [(3, [0])] (by kernel_rfl) (by kernel_rfl) (fun e he => hok e he) (by kernel_rfl) (AllVS.cons ?_ AllVS.nil)
 refine VStep.mk1 [0, 1] 8 (.own 2) 2 (.row 4 1 []) [⟨4, 12, 3, false, .row 4 1 []⟩, ⟨8, 16, 4, false, .row 4 1 (List.replicate 8 [.bool false])⟩, ⟨9, 17, 5, false, .row 3 1 []⟩, ⟨10, 18, 6, false, .row 26 1 []⟩, ⟨12, 3, 7, true, .box (avR [.slice none 0 0, .slice none 0 0, .slice none 0 0, .slice none 0 0, .slice none 0 0] [])⟩] rfl rfl rfl rfl rfl (fun b1 _ hbn => WX_append G (by rw [hbn]; exact Nat.le_of_ble_eq_true rfl) rfl rfl rfl rfl rfl rfl rfl rfl rfl (by first | (simp only [List.length_map, List.length_cons, List.length_nil]; omega) | (simp; omega)) rfl rfl (WL_nil rfl)) (by kernel_rfl) (by kernel_rfl) (by kernel_rfl) (by kernel_rfl) (WAV_go [(7, [4])] (by kernel_rfl) (by kernel_rfl) (fun e he => hok e (vin (is := [0]) rfl he)) (by kernel_rfl) (AllVS.cons ?_ AllVS.nil))
 refine VStep.mk1 [0, 1] 12 (.own 3) 3 (.row 4 1 []) [⟨8, 16, 4, false, .row 4 1 (List.replicate 8 [.bool false])⟩, ⟨9, 17, 5, false, .row 3 1 []⟩, ⟨10, 18, 6, false, .row 26 1 []⟩, ⟨12, 3, 7, true, .box (avR [.slice none 0 0, .slice none 0 0, .slice none 0 0, .slice none 0 0, .slice none 0 0] [])⟩] rfl rfl rfl rfl rfl (fun b1 _ hbn => WX_append G (by rw [hbn]; exact Nat.le_of_ble_eq_true rfl) rfl rfl rfl rfl rfl rfl rfl rfl rfl (by first | (simp only [List.length_map, List.length_cons, List.length_nil]; omega) | (simp; omega)) rfl rfl (WL_nil rfl)) (by kernel_rfl) (by kernel_rfl) (by kernel_rfl) (by kernel_rfl) (WAV_go [(11, [8, 9, 10])] (by kernel_rfl) (by kernel_rfl) (fun e he => hok e (vin (is := [0, 4]) rfl he)) (by kernel_rfl) (AllVS.cons ?_ AllVS.nil))
 refine VStep.mk3 [0, 1] 16 (.own 4) 4 (.row 4 1 (List.replicate 8 [.bool false])) 17 (.own 5) 5 (.row 3 1 []) 18 (.own 6) 6 (.row 26 1 []) [⟨12, 3, 7, true, .box (avR [.slice none 0 0, .slice none 0 0, .slice none 0 0, .slice none 0 0, .slice none 0 0] [])⟩] rfl rfl rfl rfl rfl (fun b1 _ hbn => WX_q rfl rfl (q_build G rfl rfl rfl rfl) (WL_nil rfl)) (by kernel_rfl) (by kernel_rfl) (by kernel_rfl) (by kernel_rfl) (WAV_go [(13, [12])] (by kernel_rfl) (by kernel_rfl) (fun e he => hok e (vin (is := [0, 4, 8, 9, 10]) rfl he)) (by kernel_rfl) (AllVS.cons ?_ AllVS.nil))
 refine VStep.mk1 [0, 1] 3 (.ptr 7 0) 7 (.box (avR [.slice none 0 0, .slice none 0 0, .slice none 0 0, .slice none 0 0, .slice none 0 0] [])) [] rfl rfl rfl rfl rfl (fun b1 _ hbn => WX_store G rfl rfl rfl rfl rfl rfl rfl rfl rfl rfl rfl (WL_nil rfl)) (by kernel_rfl) (by kernel_rfl) (by kernel_rfl) (by kernel_rfl) ?_
 refine WAV_nil ?_
 clear hok
 refine WA_gh (Gh.nest (id := 6) (yss := []) rfl rfl (by intro _ _ _ h; simp at h)) ?_
 refine WA_end (by kernel_rfl) ?_
 refine znk ?_
 refine zgo ?_
 refine W_loopK [2, 3, 21, 22] [1, 2, 3, 7] (fun (k : Nat) => [(23, .v (.int .i64 (k : Int)))]) (fun (k : Nat) => [(4, some (.row 4 1 ((poN m k).map encO))), (5, some (.row 3 1 (((m.cp.map (fun x => x.ma)).take k).map Rf.encI))), (6, some (.nest 26 1 (((m.cp.map (fun x => x.st)).take k).map encSt) []))]) (fun (k : Nat) => k ≤ m.cp.length) (fun (k : Nat) => m.cp.length - k) 0 rfl rfl ?_ ?_ ?_ ?_
 ·exact Nat.zero_le _
 ·exact ⟨⟨_, rfl, by rfl⟩, rfl, trivial⟩
 ·exact ⟨⟨_, rfl, by rfl⟩, rfl, rfl, ⟨⟨_, rfl, by rfl⟩, rfl, rfl, ⟨⟨_, rfl, by rfl⟩, rfl, rfl, trivial⟩⟩⟩
 intro k hk
 have hp8 := @poN_len m k
 have hm1 : (m.cp.map (fun x => x.ma)).length = m.cp.length := List.length_map _
 have hm2 : (m.cp.map (fun x => x.st)).length = m.cp.length := List.length_map _
 simp only [List.cons_append, List.nil_append]
 refine zcd (fun h1 => ?_) (fun h1 => ?_)
 ·obtain ⟨hI, _, _, _⟩ := hM.ok k (by omega)
  have hsn := hI.sn
  have hpl := pndI_len hI.qu
  refine zgo ?_
  refine WL_cons rfl ?_
  refine WX_alloc_s G 9 rfl rfl rfl rfl rfl ?_
  refine WL_cons rfl ?_
  refine WX_pinS 26 rfl (fun _ => rfl) fun v26 => WX_store G rfl rfl rfl rfl rfl rfl rfl rfl rfl rfl rfl ?_
  refine zgo ?_
  refine WL_cons rfl ?_
  refine WX_lit G 10 rfl rfl rfl rfl rfl rfl rfl rfl ?_
  refine WL_cons rfl ?_
  refine WX_gh (Gh.forget (id := 7) (k := 3) rfl rfl) <| WX_gh (Gh.keep [1, 2, 3, 4, 5, 6, 7, 8, 9] rfl) <| WX_append G np rfl rfl rfl rfl rfl rfl rfl rfl rfl (by first | (simp only [List.length_map, List.length_cons, List.length_nil]; omega) | (simp; omega)) rfl rfl ?_
  refine zgo ?_
  apply W_drawsJ [2, 3, 5, 21, 22, 23] [1, 2, 3, 4, 5, 7, 8, 12] 13 9 [1, 2, 3, 4, 5, 8, 9] mixed (by kernel_rfl) rfl rfl (fun _ h => znk h)
  ·intro r0
   refine zsa 0 ?_
   refine zsa 2 ?_
   refine zsa 3 ?_
   refine WA_branch (rs := [1, 4]) (by kernel_rfl) rfl (AllB.cons ?_ (AllB.cons ?_ AllB.nil))
   ·refine WB_rn [1, 2, 3, 4, 5, 8, 9] rfl rfl ?_
    refine zgo ?_
    refine ⟨rfl, ?_⟩
    refine WA_branch (rs := [4]) (by kernel_rfl) rfl (AllB.cons ?_ AllB.nil)
    refine WB_rn [1, 2, 3, 4, 5, 8, 9] rfl rfl (WX_call 11 rfl rfl rfl (ArgsOK.of rfl) (c_impl_copyInts _ (by omega)) rfl rfl (WL_nil ⟨rfl, ?_⟩))
    refine WA_branch (rs := [5]) (by kernel_rfl) rfl (AllB.cons ?_ AllB.nil)
    refine WB_rn [1, 2, 3, 4, 5, 8, 9] rfl rfl (WX_lit_nest G 12 rfl rfl rfl rfl rfl rfl rfl rfl (.own rfl .nil) rfl rfl rfl rfl (WL_nil ⟨rfl, ?_⟩))
    refine WA_branch (rs := [6]) (by kernel_rfl) rfl (AllB.cons ?_ AllB.nil)
    refine WB_run [1, 2, 3, 4, 5, 8, 9] rfl rfl (WX_gh (Gh.forget (id := 7) (k := 4) rfl rfl) <| WX_gh (Gh.keep [1, 2, 3, 4, 5, 6, 7, 8, 9, 11] rfl) <| WX_ren (tx := 35) 13 rfl rfl rfl rfl rfl <| WX_append_nest G (by exact Nat.le_of_ble_eq_true rfl) rfl rfl rfl rfl rfl rfl rfl rfl rfl rfl (by first | (simp only [List.length_map, List.length_cons, List.length_nil]; omega) | (simp; omega)) rfl rfl (WL_nil ⟨rfl, ?_⟩))
    refine zsa 7 ?_
    refine WA_branch (rs := [8]) (by kernel_rfl) rfl (AllB.cons ?_ AllB.nil)
    refine WB_rn [1, 2, 3, 4, 5, 8, 9] rfl rfl ?_
    refine zgo ?_
    refine ⟨rfl, ?_⟩
    exact WA_end (by kernel_rfl) (Meet.mk rfl rfl rfl rfl)
   refine WB_rn [1, 2, 3, 4, 5, 8, 9] rfl rfl (WX_call 11 rfl rfl rfl (ArgsOK.of rfl) (c_impl_copyInts _ (by omega)) rfl rfl (WL_nil ⟨rfl, ?_⟩))
   refine WA_branch (rs := [1, 5]) (by kernel_rfl) rfl (AllB.cons ?_ (AllB.cons ?_ AllB.nil))
   ·refine WB_rn [1, 2, 3, 4, 5, 8, 9] rfl rfl ?_
    refine zgo ?_
    refine ⟨rfl, ?_⟩
    refine WA_branch (rs := [5]) (by kernel_rfl) rfl (AllB.cons ?_ AllB.nil)
    refine WB_rn [1, 2, 3, 4, 5, 8, 9] rfl rfl (WX_lit_nest G 12 rfl rfl rfl rfl rfl rfl rfl rfl (.own rfl .nil) rfl rfl rfl rfl (WL_nil ⟨rfl, ?_⟩))
    refine WA_branch (rs := [6]) (by kernel_rfl) rfl (AllB.cons ?_ AllB.nil)
    refine WB_run [1, 2, 3, 4, 5, 8, 9] rfl rfl (WX_gh (Gh.forget (id := 7) (k := 4) rfl rfl) <| WX_gh (Gh.keep [1, 2, 3, 4, 5, 6, 7, 8, 9, 11] rfl) <| WX_ren (tx := 35) 13 rfl rfl rfl rfl rfl <| WX_append_nest G (by exact Nat.le_of_ble_eq_true rfl) rfl rfl rfl rfl rfl rfl rfl rfl rfl rfl (by first | (simp only [List.length_map, List.length_cons, List.length_nil]; omega) | (simp; omega)) rfl rfl (WL_nil ⟨rfl, ?_⟩))
    refine zsa 7 ?_
    refine WA_branch (rs := [8]) (by kernel_rfl) rfl (AllB.cons ?_ AllB.nil)
    refine WB_rn [1, 2, 3, 4, 5, 8, 9] rfl rfl ?_
    refine zgo ?_
    refine ⟨rfl, ?_⟩
    exact WA_end (by kernel_rfl) (Meet.mk rfl rfl rfl rfl)
   refine WB_rn [1, 2, 3, 4, 5, 8, 9] rfl rfl (WX_lit_nest G 12 rfl rfl rfl rfl rfl rfl rfl rfl (.own rfl .nil) rfl rfl rfl rfl (WL_nil ⟨rfl, ?_⟩))
   refine WA_branch (rs := [1]) (by kernel_rfl) rfl (AllB.cons ?_ AllB.nil)
   refine WB_rn [1, 2, 3, 4, 5, 8, 9] rfl rfl ?_
   refine zgo ?_
   refine ⟨rfl, ?_⟩
   refine WA_branch (rs := [6]) (by kernel_rfl) rfl (AllB.cons ?_ AllB.nil)
   refine WB_run [1, 2, 3, 4, 5, 8, 9] rfl rfl (WX_gh (Gh.forget (id := 7) (k := 4) rfl rfl) <| WX_gh (Gh.keep [1, 2, 3, 4, 5, 6, 7, 8, 9, 11] rfl) <| WX_ren (tx := 35) 13 rfl rfl rfl rfl rfl <| WX_append_nest G (by exact Nat.le_of_ble_eq_true rfl) rfl rfl rfl rfl rfl rfl rfl rfl rfl rfl (by first | (simp only [List.length_map, List.length_cons, List.length_nil]; omega) | (simp; omega)) rfl rfl (WL_nil ⟨rfl, ?_⟩))
   refine zsa 7 ?_
   refine WA_branch (rs := [8]) (by kernel_rfl) rfl (AllB.cons ?_ AllB.nil)
   refine WB_rn [1, 2, 3, 4, 5, 8, 9] rfl rfl ?_
   refine zgo ?_
   refine ⟨rfl, ?_⟩
   exact WA_end (by kernel_rfl) (Meet.mk rfl rfl rfl rfl)
  refine zgo ?_
  refine WL_cons rfl ?_
  refine WX_call 14 rfl rfl rfl (ArgsOK.of rfl) (c_impl_pendingIrqs (m.cp.getD k default).qu hI.qu) rfl rfl ?_
  refine zgo ?_
  refine W_loopK [2, 3, 21, 22, 23, 44, 45] [1, 2, 3, 5, 7, 12, 13] (fun (i : Nat) => [(46, .v (.int .i64 (i : Int)))]) (fun (i : Nat) => [(4, some (.row 4 1 ((setP (poN m k) (pndI (m.cp.getD k default).qu) i).map encO)))]) (fun (i : Nat) => i ≤ (pndI (m.cp.getD k default).qu).length) (fun (i : Nat) => (pndI (m.cp.getD k default).qu).length - i) 0 rfl rfl ?_ ?_ ?_ ?_
  ·exact Nat.zero_le _
  ·exact ⟨⟨_, rfl, by rfl⟩, rfl, trivial⟩
  ·exact ⟨⟨_, rfl, by rfl⟩, rfl, rfl, trivial⟩
  intro i hi
  have hbp := fun h => pndI_bd hI.qu (i := i) h
  have hpo := @setP_len (poN m k) (pndI (m.cp.getD k default).qu) i
  have hp8 := @poN_len m k
  simp only [List.cons_append, List.nil_append]
  refine zcd (fun h2 => ?_) (fun h2 => ?_)
  ·have hbq := hbp (by omega)
   refine zgo ?_
   refine WL_cons rfl ?_
   first | refine WX_q rfl rfl (q_index_own G rfl rfl rfl rfl rfl (by omega) (by rw [List.length_map]; omega)) ?_ | refine WX_q rfl rfl (q_index_own G rfl rfl rfl rfl rfl (by omega) (by rw [List.length_map, setP_len, poN_len]; omega)) ?_ | refine WX_q rfl rfl (q_index_own G rfl rfl rfl rfl rfl (by omega) (by simp; omega)) ?_ | refine WX_q rfl rfl (q_index_own G rfl rfl rfl rfl rfl (by omega) (by omega)) ?_
   refine WL_cons rfl ?_
   first | refine WX_q rfl rfl (q_load_rpt G rfl rfl rfl rfl rfl (getN (by omega)) rfl) ?_ | refine WX_q rfl rfl (q_load_rpt G rfl rfl rfl rfl rfl (getM (by omega) (by rw [setP_len, poN_len]; omega)) rfl) ?_ | refine WX_q rfl rfl (q_load_rpt G rfl rfl rfl rfl rfl (getM (by omega) (by omega)) rfl) ?_
   refine zgo ?_
   refine WL_cons rfl ?_
   first | refine WX_q rfl rfl (q_index_own G rfl rfl rfl rfl rfl (by omega) (by rw [List.length_map]; omega)) ?_ | refine WX_q rfl rfl (q_index_own G rfl rfl rfl rfl rfl (by omega) (by rw [List.length_map, setP_len, poN_len]; omega)) ?_ | refine WX_q rfl rfl (q_index_own G rfl rfl rfl rfl rfl (by omega) (by simp; omega)) ?_ | refine WX_q rfl rfl (q_index_own G rfl rfl rfl rfl rfl (by omega) (by omega)) ?_
   refine WL_cons rfl ?_
   first | refine WX_store_row G rfl rfl rfl rfl rfl (getN (by omega)) rfl rfl rfl rfl rfl (Nat.le_of_ble_eq_true rfl) rfl ?_ | refine WX_store_row G rfl rfl rfl rfl rfl (getM (by omega) (by rw [setP_len, poN_len]; omega)) rfl rfl rfl rfl rfl (Nat.le_of_ble_eq_true rfl) rfl ?_ | refine WX_store_row G rfl rfl rfl rfl rfl (getM (by omega) (by omega)) rfl rfl rfl rfl rfl (Nat.le_of_ble_eq_true rfl) rfl ?_
   refine zgo ?_
   refine ⟨(i + 1), ?_, ?_, ⟨⟨_, rfl, by rfl⟩, rfl, trivial⟩, ⟨⟨_, rfl, by (first | rfl | (exact congrArg (fun z => Row.row _ _ z) (take_ma (by omega))) | (exact congrArg (fun z => Row.nest _ _ z []) (take_st (by omega) rfl)) | (exact congrArg (fun z => Row.row _ _ z) (by rw [setP_succ, List.map_set]; rfl)) | (obtain rfl : i = (pndI (m.cp.getD k default).qu).length := (by omega); rfl))⟩, rfl, rfl, trivial⟩, rfl, rfl, rfl⟩
   ·omega
   omega
  refine zgn ?_
  refine W_region ?_
  iterate 2 refine zst ?_
  refine WL_gh (Gh.sub 12 6 np rfl rfl rfl) (WL_nil ⟨(k + 1), ?_, ?_, ⟨⟨_, rfl, by rfl⟩, rfl, trivial⟩, ⟨⟨_, rfl, by (first | rfl | (exact congrArg (fun z => Row.row _ _ z) (take_ma (by omega))) | (exact congrArg (fun z => Row.nest _ _ z []) (take_st (by omega) rfl)) | (exact congrArg (fun z => Row.row _ _ z) (by rw [setP_succ, List.map_set]; rfl)) | (obtain rfl : i = (pndI (m.cp.getD k default).qu).length := (by omega); rfl))⟩, rfl, rfl, ⟨⟨_, rfl, by (first | rfl | (exact congrArg (fun z => Row.row _ _ z) (take_ma (by omega))) | (exact congrArg (fun z => Row.nest _ _ z []) (take_st (by omega) rfl)) | (exact congrArg (fun z => Row.row _ _ z) (by rw [setP_succ, List.map_set]; rfl)) | (obtain rfl : i = (pndI (m.cp.getD k default).qu).length := (by omega); rfl))⟩, rfl, rfl, ⟨⟨_, rfl, by (first | rfl | (exact congrArg (fun z => Row.row _ _ z) (take_ma (by omega))) | (exact congrArg (fun z => Row.nest _ _ z []) (take_st (by omega) rfl)) | (exact congrArg (fun z => Row.row _ _ z) (by rw [setP_succ, List.map_set]; rfl)) | (obtain rfl : i = (pndI (m.cp.getD k default).qu).length := (by omega); rfl))⟩, rfl, rfl, trivial⟩⟩⟩, rfl, rfl, rfl⟩)
  ·omega
  omega
 refine zgo ?_
 refine W_ret (fin_shp rfl rfl rfl rfl (rcs_cons (rc_own rfl ?_) (rcs_cons (rc_own rfl ?_) (rcs_cons (rc_own rfl ?_) (rcs_cons (rc_own rfl ?_) (rcs_cons (rc_ne rfl ?_) rcs_nil))))))
 all_goals (first | rfl | (obtain rfl : k = m.cp.length := (by omega); first | rfl | (rw [take_all (Nat.le_refl _)]; rfl)) | simp)
end Go.Proofs.YtcnodpipinlpcaaGreat
