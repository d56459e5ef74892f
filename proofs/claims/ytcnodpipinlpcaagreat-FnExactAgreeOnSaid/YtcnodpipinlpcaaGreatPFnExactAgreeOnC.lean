/- Texts merged into one: M3, M4, M5. -/
import Derived.Test.YtcnodpipinlpcaaGreatPFnExactAgreeOnB
set_option maxRecDepth 20000
set_option linter.unusedVariables false
set_option linter.unusedSimpArgs false
namespace Go.Proofs.YtcnodpipinlpcaaGreat
open Go Go.Rf
set_option maxHeartbeats 4000000 in
theorem c_impl_areParts (sl : List Slot) (wa : List Wtr) (hl : sl.length ≤ 1048576) (hw : wa.length ≤ 1048576) : Ctr Tryz.prog 208 [.lst 3 (sl.map encSl), .lst 2 (wa.map encWa)] (.one (.v (.bool (okPa ⟨sl, wa⟩)))) := by
 refine Ctr.of (n := 58) G Tryz.func208 rfl vm175 rfl rfl rfl (fun w0 => ?_)
 refine zcl (c_impl_AreSlots _ (by first | assumption | omega)) ?_
 refine zcd (fun h1 => ?_) (fun h1 => ?_)
 ·refine zf1 ?_
  all_goals exact vm119
 refine zgo ?_
 refine W_loopK [0, 1, 10, 11] [] (fun (i : Nat) => [(12, .v (.int .i64 (i : Int)))]) (fun (i : Nat) => []) (fun (i : Nat) => i ≤ wa.length ∧ ∀ j, j < i → oneWa sl wa j = true) (fun (i : Nat) => wa.length - i) 0 rfl rfl ?_ ?_ ?_ ?_
 ·exact ⟨Nat.zero_le _, fun j hj => by omega⟩
 ·exact ⟨⟨_, rfl, by (first | rfl | (simp; done) | (simp; omega))⟩, rfl, trivial⟩
 ·exact trivial
 intro i hinv
 have ht : 0 < i → ((i : Int) - 1).toNat = i - 1 := fun _ => (by omega)
 simp only [List.cons_append, List.nil_append]
 refine zcd (fun h2 => ?_) (fun h2 => ?_)
 ·refine vm37 ?_
  refine zgd ?_
  refine zcl (c_impl_isIrq _) ?_
  refine zcd (fun h3 => ?_) (fun h3 => ?_)
  ·refine zwt ?_
   refine zf1 ?_
   all_goals exact vm119
  refine zcl (c_impl_isPriority _) ?_
  refine zcd (fun h4 => ?_) (fun h4 => ?_)
  ·refine zwt ?_
   refine zf1 ?_
   all_goals exact vm119
  refine zcl (c_impl_findSlot sl _ hl) ?_
  refine zcd (fun h5 => ?_) (fun h5 => ?_)
  ·refine zwt ?_
   refine zf1 ?_
   all_goals exact vm119
  refine zgo ?_
  refine vm34 ?_
  refine zgo ?_
  refine vm94 ?_
  refine QX_q rfl rfl (q_call rfl (ArgsOK.of (congrArg some (congrArg (fun z => [AV.lst 2 z, .v (.int .i64 (wa.getD i default).q)]) (cut_take (xs := wa) (i := i))))) (Ctr.eq (c_impl_waiterIndex (wa.take i) _ vm187) (congrArg (fun z => Res.one (.v (.int .i64 z))) (take_inW (by omega)))) rfl) ?_
  refine zcd (fun h6 => ?_) (fun h6 => ?_)
  ·refine zwt ?_
   refine zf1 ?_
   all_goals exact vm119
  refine zcd (fun h7 => ?_) (fun h7 => ?_)
  ·refine zcl (c_impl_compareUrgency _ _) ?_
   refine zcd (fun h8 => ?_) (fun h8 => ?_)
   ·refine zf1 ?_
    all_goals exact vm119
   refine zgo ?_
   refine ⟨(i + 1), ?_, ?_, ⟨⟨_, rfl, by rfl⟩, rfl, trivial⟩, trivial, rfl, rfl, rfl⟩
   ·exact ⟨by omega, upto_succ hinv.2 (oneWa_iff.mpr ⟨inside_t.mp vm177, inside_t.mp vm177, by omega, (fun j hj => by have := anyN_nf.mp (idx_lt0.mp (show idxN (fun j => decide ((wa.getD j default).q = (wa.getD i default).q)) i < 0 by omega)) j hj; exact of_decide_eq_false this), vm197⟩)⟩
   omega
  refine zwf ?_
  refine zgo ?_
  refine ⟨(i + 1), ?_, ?_, ⟨⟨_, rfl, by rfl⟩, rfl, trivial⟩, trivial, rfl, rfl, rfl⟩
  ·exact ⟨by omega, upto_succ hinv.2 (oneWa_iff.mpr ⟨inside_t.mp vm177, inside_t.mp vm177, by omega, (fun j hj => by have := anyN_nf.mp (idx_lt0.mp (show idxN (fun j => decide ((wa.getD j default).q = (wa.getD i default).q)) i < 0 by omega)) j hj; exact of_decide_eq_false this), vm197⟩)⟩
  omega
 refine zf1 ?_
 all_goals exact vm119
set_option maxHeartbeats 4000000 in
theorem c_spec_l9Waiting (sl : List Slot) (wa : List Wtr) (hl : sl.length ≤ 1048576) (hw : wa.length ≤ 1048576) : Ctr Tryz.prog 232 [.lst 3 (sl.map encSl), .lst 2 (wa.map encWa)] (.one (.v (.bool (okPa ⟨sl, wa⟩)))) := by
 refine Ctr.of (n := 81) G Tryz.func232 rfl vm175 rfl rfl rfl (fun w0 => ?_)
 refine zgo ?_
 refine W_loopK [0, 1] [] (fun (i : Nat) => [(5, .v (.int .i64 (i : Int)))]) (fun (i : Nat) => []) (fun (i : Nat) => i ≤ wa.length ∧ ∀ j, j < i → oneWa sl wa j = true) (fun (i : Nat) => wa.length - i) 0 rfl rfl ?_ ?_ ?_ ?_
 ·exact ⟨Nat.zero_le _, fun j hj => by omega⟩
 ·exact ⟨⟨_, rfl, by (first | rfl | (simp; done) | (simp; omega))⟩, rfl, trivial⟩
 ·exact trivial
 intro i hinv
 have ht : 0 < i → ((i : Int) - 1).toNat = i - 1 := fun _ => (by omega)
 simp only [List.cons_append, List.nil_append]
 refine zcd (fun h1 => ?_) (fun h1 => ?_)
 ·refine zcd (fun h2 => ?_) (fun h2 => ?_)
  ·refine vm37 ?_
   refine zcl (c_spec_l6Irq _) ?_
   refine zcd (fun h3 => ?_) (fun h3 => ?_)
   ·refine zwt ?_
    refine zf1 ?_
    all_goals exact vm112
   refine zcl (c_spec_l6Prio _) ?_
   refine zcd (fun h4 => ?_) (fun h4 => ?_)
   ·refine zwt ?_
    refine zf1 ?_
    all_goals exact vm112
   refine zcl (c_spec_l8Find sl _ hl) ?_
   refine zcd (fun h5 => ?_) (fun h5 => ?_)
   ·refine zf1 ?_
    all_goals exact vm112
   refine zgd ?_
   refine zcd (fun h6 => ?_) (fun h6 => ?_)
   ·refine zcl (c_spec_l8Less _ _ _ _) ?_
    refine zcd (fun h7 => ?_) (fun h7 => ?_)
    ·refine zf1 ?_
     all_goals exact vm112
    refine zgo ?_
    refine W_loopK [0, 1, 5, 6] [0] (fun (k : Nat) => [(7, .v (.int .i64 (k : Int)))]) (fun (k : Nat) => []) (fun (k : Nat) => k ≤ i ∧ ∀ j, j < k → (wa.getD j default).q ≠ (wa.getD i default).q) (fun (k : Nat) => i - k) 0 rfl rfl ?_ ?_ ?_ ?_
    ·exact ⟨Nat.zero_le _, fun j hj => by omega⟩
    ·exact ⟨⟨_, rfl, by (first | rfl | (simp; done) | (simp; omega))⟩, rfl, trivial⟩
    ·exact trivial
    intro k hk
    simp only [List.cons_append, List.nil_append]
    refine zcd (fun h8 => ?_) (fun h8 => ?_)
    ·refine zgd ?_
     refine zcd (fun h9 => ?_) (fun h9 => ?_)
     ·refine zf1 ?_
      all_goals exact vm112
     refine zgo ?_
     refine ⟨(k + 1), ?_, ?_, ⟨⟨_, rfl, by rfl⟩, rfl, trivial⟩, trivial, rfl, rfl, rfl⟩
     ·exact ⟨by omega, upto_succ' hk.2 vm177⟩
     omega
    refine zgo ?_
    refine ⟨(i + 1), ?_, ?_, ⟨⟨_, rfl, by rfl⟩, rfl, trivial⟩, trivial, rfl, rfl, rfl⟩
    ·exact ⟨by omega, upto_succ hinv.2 (oneWa_iff.mpr ⟨inside_t.mp vm177, inside_t.mp vm177, by omega, fun j hj => hk.2 j (by omega), vm197⟩)⟩
    omega
   refine zwf ?_
   refine zgo ?_
   refine W_loopK [0, 1, 5, 6] [0] (fun (k : Nat) => [(7, .v (.int .i64 (k : Int)))]) (fun (k : Nat) => []) (fun (k : Nat) => k ≤ i ∧ ∀ j, j < k → (wa.getD j default).q ≠ (wa.getD i default).q) (fun (k : Nat) => i - k) 0 rfl rfl ?_ ?_ ?_ ?_
   ·exact ⟨Nat.zero_le _, fun j hj => by omega⟩
   ·exact ⟨⟨_, rfl, by (first | rfl | (simp; done) | (simp; omega))⟩, rfl, trivial⟩
   ·exact trivial
   intro k hk
   simp only [List.cons_append, List.nil_append]
   refine zcd (fun h10 => ?_) (fun h10 => ?_)
   ·refine zgd ?_
    refine zcd (fun h11 => ?_) (fun h11 => ?_)
    ·refine zf1 ?_
     all_goals exact vm112
    refine zgo ?_
    refine ⟨(k + 1), ?_, ?_, ⟨⟨_, rfl, by rfl⟩, rfl, trivial⟩, trivial, rfl, rfl, rfl⟩
    ·exact ⟨by omega, upto_succ' hk.2 vm177⟩
    omega
   refine zgo ?_
   refine ⟨(i + 1), ?_, ?_, ⟨⟨_, rfl, by rfl⟩, rfl, trivial⟩, trivial, rfl, rfl, rfl⟩
   ·exact ⟨by omega, upto_succ hinv.2 (oneWa_iff.mpr ⟨inside_t.mp vm177, inside_t.mp vm177, by omega, fun j hj => hk.2 j (by omega), vm197⟩)⟩
   omega
  refine zcl (c_spec_l8Good sl hl) ?_
  refine zcd (fun h12 => ?_) (fun h12 => ?_)
  ·refine zf1 ?_
   all_goals exact vm112
  refine zf1 ?_
  all_goals exact vm112
 refine zwf ?_
 refine zcl (c_spec_l8Good sl hl) ?_
 refine zcd (fun h13 => ?_) (fun h13 => ?_)
 ·refine zf1 ?_
  all_goals exact vm112
 refine zf1 ?_
 all_goals exact vm112
set_option maxHeartbeats 4000000 in
theorem c_impl_isSettled (q : Que) (hl : q.sl.length ≤ 1048576) (hw : q.wa.length ≤ 1048576) (hd : difS q.sl) : Ctr Tryz.prog 209 [.agg [.lst 3 (q.sl.map encSl), .lst 2 (q.wa.map encWa)]] (.one (.v (.bool (setd q)))) := by
 have hbb := @bstS_bd q.sl false
 refine Ctr.of (n := 33) G Tryz.func209 rfl vm175 rfl rfl rfl (fun w0 => ?_)
 refine W_pinS 0 rfl (fun _ => rfl) (fun u0 => ?_)
 refine vm1 ?_
 refine zcd (fun h1 => ?_) (fun h1 => ?_)
 ·refine zf1 ?_
  all_goals exact vm115
 refine zcl (c_impl_pendingSlot q.sl false hl hd) ?_
 refine zgd ?_
 refine zcl (c_impl_firstEmpty q.sl hl) ?_
 refine zcd (fun h2 => ?_) (fun h2 => ?_)
 ·refine zcd (fun h3 => ?_) (fun h3 => ?_)
  ·refine zf1 ?_
   all_goals exact vm115
  refine zcl (c_impl_waiterOf _) ?_
  refine zcl (c_impl_compareUrgency _ _) ?_
  refine zf1 ?_
  all_goals exact vm115
 refine zf1 ?_
 all_goals exact vm115
set_option maxHeartbeats 4000000 in
theorem c_spec_l9Settled (q : Que) (hl : q.sl.length ≤ 1048576) (hw : q.wa.length ≤ 1048576) : Ctr Tryz.prog 219 [.agg [.lst 3 (q.sl.map encSl), .lst 2 (q.wa.map encWa)]] (.one (.v (.bool (setd q)))) := by
 have hbb := @bstS_bd q.sl false
 refine Ctr.of (n := 42) G Tryz.func219 rfl vm175 rfl rfl rfl (fun w0 => ?_)
 refine W_pinS 0 rfl (fun _ => rfl) (fun u0 => ?_)
 refine vm1 ?_
 refine zcd (fun h1 => ?_) (fun h1 => ?_)
 ·refine zf1 ?_
  all_goals exact vm115
 refine zcl (c_spec_l8Free q.sl hl) ?_
 refine zcd (fun h2 => ?_) (fun h2 => ?_)
 ·refine zf1 ?_
  all_goals exact vm115
 refine zcl (c_spec_l8Best_f q.sl hl) ?_
 refine zgd ?_
 refine zcd (fun h3 => ?_) (fun h3 => ?_)
 ·refine zf1 ?_
  all_goals exact vm115
 refine zcl (c_spec_l8Less _ _ _ _) ?_
 refine zf1 ?_
 all_goals exact vm115
set_option maxHeartbeats 4000000 in
theorem c_impl_IsQueue (q : Que) (hl : q.sl.length ≤ 1048576) (hw : q.wa.length ≤ 1048576) : Ctr Tryz.prog 168 [.agg [.lst 3 (q.sl.map encSl), .lst 2 (q.wa.map encWa)]] (.one (.v (.bool (okQu q)))) := by
 refine Ctr.of (n := 12) G Tryz.func168 rfl vm175 rfl rfl rfl (fun w0 => ?_)
 refine W_pinS 0 rfl (fun _ => rfl) (fun u0 => ?_)
 refine vm1 ?_
 refine zcl (c_impl_areParts q.sl q.wa hl hw) ?_
 refine zcd (fun h1 => ?_) (fun h1 => ?_)
 ·have hpf := paF.mp h1
  refine zcl (c_impl_isSettled q hl hw hpf.sl.difS) ?_
  refine zf1 ?_
  all_goals exact vm137
 refine zf1 ?_
 all_goals exact vm137
set_option maxHeartbeats 4000000 in
theorem c_spec_l9Good (q : Que) (hl : q.sl.length ≤ 1048576) (hw : q.wa.length ≤ 1048576) : Ctr Tryz.prog 197 [.agg [.lst 3 (q.sl.map encSl), .lst 2 (q.wa.map encWa)]] (.one (.v (.bool (okQu q)))) := by
 refine Ctr.of (n := 12) G Tryz.func197 rfl vm175 rfl rfl rfl (fun w0 => ?_)
 refine W_pinS 0 rfl (fun _ => rfl) (fun u0 => ?_)
 refine vm1 ?_
 refine zcl (c_spec_l9Waiting q.sl q.wa hl hw) ?_
 refine zcd (fun h1 => ?_) (fun h1 => ?_)
 ·refine zcl (c_spec_l9Settled q hl hw) ?_
  refine zf1 ?_
  all_goals exact vm137
 refine zf1 ?_
 all_goals exact vm137
set_option maxHeartbeats 4000000 in
theorem c_impl_newQueue (q : Que) (hl : q.sl.length ≤ 1048576) (hw : q.wa.length ≤ 1048576) : Ctr Tryz.prog 189 [.agg [.lst 3 (q.sl.map encSl), .lst 2 (q.wa.map encWa)]] (.shp true [some 2] [.fr 154 3 (q.sl.map encSl), .fr 183 2 (q.wa.map encWa) true]) := by
 refine Ctr.of (n := 12) G Tryz.func189 rfl vm175 rfl rfl rfl (fun w0 => ?_)
 refine W_pinS 0 rfl (fun _ => rfl) (fun u0 => ?_)
 refine vm91 ?_
 refine W_sq (W_drawsH 10 [0] mixed vm175 rfl rfl (fun r0 => ?_) (fun _ h => h))
 refine vm77 ?_
 refine WA_more (N := 4) rfl (WAV_startH (fuel := 4) [⟨0, 3, 2, false, .row 154 3 []⟩, ⟨4, 7, 3, false, .row 183 2 []⟩] (AllVOK.cons (VOK.lit G rfl rfl rfl rfl rfl) (AllVOK.cons (VOK.lit G rfl rfl rfl rfl rfl) (AllVOK.nil))) (fun hok => ?_))
 refine WAV_go [(3, [0])] vm175 vm175 (fun e he => hok e he) vm175 (AllVS.cons ?_ AllVS.nil)
 refine VStep.mk1 [0] 3 (.own 2) 2 (.row 154 3 []) [⟨4, 7, 3, false, .row 183 2 []⟩] rfl rfl rfl rfl rfl (fun b1 _ hbn => WX_append G vm185 rfl rfl rfl rfl rfl rfl rfl rfl rfl vm187 rfl rfl (WL_nil rfl)) vm175 vm175 vm175 vm175 (WAV_go [(7, [4])] vm175 vm175 (fun e he => hok e (vin (is := [0]) rfl he)) vm175 (AllVS.cons ?_ AllVS.nil))
 refine vm32 ?_
 clear hok
 refine WA_branch (rs := [8]) vm175 rfl (AllB.cons ?_ AllB.nil)
 refine vm71 ?_
 refine WA_branch (rs := [9]) vm175 rfl (AllB.cons ?_ AllB.nil)
 refine vm71 ?_
 refine vm15 ?_
 refine W_ret (fin_shp rfl rfl rfl rfl (rcs_cons (rc_own rfl ?_) (rcs_cons (rc_own rfl ?_) rcs_nil)))
 all_goals (first | rfl | simp)
end Go.Proofs.YtcnodpipinlpcaaGreat
set_option maxRecDepth 20000
set_option linter.unusedVariables false
set_option linter.unusedSimpArgs false
namespace Go.Proofs.YtcnodpipinlpcaaGreat
open Go Go.Rf
set_option maxHeartbeats 1600000 in
set_option maxHeartbeats 4000000 in
theorem c_slices_Insert_impl_Waiter_impl_Waiter (xs : List Wtr) (v : Wtr) (i : Nat) (hi : i ≤ xs.length) (hl : xs.length ≤ 100000) : CtrM Tryz.prog 227 [.own 0, .v (.int .i64 (i : Int)), .own 1] [.row 183 2 (xs.map encWa), .row 183 2 [encWa v]] (.one (.fr 183 2 ((xs.take i ++ [v] ++ xs.drop i).map encWa))) [none, some (.row 183 2 [encWa v])] := by
 refine CtrM.of (n := 95) (k := 2) G Tryz.func227 rfl vm175 rfl rfl rfl rfl rfl rfl rfl (fun w0 _ hpin => ?_)
 refine zgn ?_
 refine vm103 ?_
 refine vm55 ?_
 refine vm72 ?_
 refine W_cond rfl (fun h1 => ?_) (fun h1 => ?_)
 ·try rw [h1]
  try simp only [rfb] at h1
  exact absurd h1 (by decide)
 try rw [h1]
 try simp only [rfb] at h1
 refine vm72 ?_
 refine W_cond rfl (fun h2 => ?_) (fun h2 => ?_)
 ·try rw [h2]
  try simp only [rfb] at h2
  refine vm103 ?_
  refine WX_ren (tx := 23) 3 rfl rfl rfl rfl rfl <| WX_append G (by rw [hpin]; decide) rfl rfl rfl rfl rfl rfl rfl rfl rfl (by simp only [List.length_map, List.length_cons, List.length_nil]; omega) rfl rfl ?_
  refine zgn ?_
  refine W_ret (finm_one rfl (rc_own rfl ?_) rfl (AftOK.gone (AftOK.stays rfl ?_ rfl AftOK.nil)))
  all_goals exact vm151
 try rw [h2]
 try simp only [rfb] at h2
 refine vm100 ?_
 refine vm64 ?_
 refine vm33 ?_
 refine vm6 ?_
 refine zst ?_
 refine WL_cons rfl (WX_cap G rfl rfl rfl rfl rfl rfl vm176 (fun gs hgs hall => ?_))
 simp only [List.length_map] at hgs
 refine zgn ?_
 refine W_cond rfl (fun h3 => ?_) (fun h3 => ?_)
 ·try rw [h3]
  try simp only [rfb] at h3
  try simp only [List.length_map] at h3
  refine vm64 ?_
  refine vm33 ?_
  refine vm11 ?_
  refine vm33 ?_
  refine vm6 ?_
  refine zst ?_
  refine vm6 ?_
  refine vm7 ?_
  refine WX_growmake (k := (xs.length + 1 - i)) G 3 rfl rfl rfl rfl rfl rfl rfl rfl rfl vm176 vm176 vm176 vm176 vm176 vm176 (fun c hc => (hall c hc).2) vm176 ?_
  refine zgn ?_
  refine vm103 ?_
  refine vm55 ?_
  refine zst ?_
  refine vm7 ?_
  refine WX_copy_row G rfl rfl rfl rfl rfl rfl rfl (SrcOK.of (vs := [encWa v]) vm211 (ArgOK.of rfl) (by decide)) (by intro c hc; rw [List.mem_singleton.1 hc]; exact ⟨rfl, enc_oneW v⟩) vm176 vm176 vm176 ?_
  refine zgn ?_
  refine W_sq (W_drawsH 9 [0, 1] mixed vm175 rfl rfl (fun r0 => ?_) (fun _ h => h))
  refine vm68 ?_
  refine WA_take 7 rfl vm175 vm175 rfl rfl rfl rfl (q_cut_spare G rfl rfl rfl rfl rfl rfl vm176 vm176 vm176 vm176) (WA_branch (rs := [4]) vm175 rfl (AllB.cons ?_ AllB.nil))
  refine WB_rn [0, 1] rfl rfl (WX_q rfl rfl (q_cut_own G rfl rfl rfl rfl rfl rfl (by omega) vm200 vm200) (WL_nil ⟨rfl, ?_⟩))
  refine WA_branch (rs := [8]) vm175 rfl (AllB.cons ?_ AllB.nil)
  refine WB_rn [0, 1] rfl rfl (WX_copy_row G rfl rfl rfl rfl rfl rfl rfl (SrcOK.spare rfl vm176) (fun c hc => hall c (List.mem_of_mem_drop (List.mem_of_mem_take hc))) vm176 vm176 vm176 (WL_nil ⟨rfl, ?_⟩))
  refine vm15 ?_
  refine zgn ?_
  refine W_ret (finm_one rfl (rc_own rfl ?_) rfl (AftOK.gone (AftOK.stays rfl ?_ rfl AftOK.nil)))
  all_goals exact vm151
 try rw [h3]
 try simp only [rfb] at h3
 try simp only [List.length_map] at h3
 refine vm100 ?_
 refine vm41 ?_
 refine vm6 ?_
 refine vm7 ?_
 refine WX_reslice (N := (xs.length + 1)) G 3 rfl rfl rfl rfl rfl rfl rfl rfl vm176 vm176 vm176 ?_
 refine vm100 ?_
 refine vm64 ?_
 iterate 4 refine zst ?_
 refine vm6 ?_
 refine vm11 ?_
 refine vm7 ?_
 refine WX_q rfl rfl (q_overlaps (tr := 4) (t := 109) G Tryz.func257 vm175 vm175 vm175 vm175 rfl rfl rfl rfl vm176 rfl rfl rfl vm176 (by decide) vm176) ?_
 refine zgn ?_
 refine W_true rfl (W_sq ?_)
 apply W_drawsJ [0, 1, 2] [1, 2] 3 9 [1] mixed vm175 rfl rfl (fun _ h => znk h)
 ·intro r0
  refine vm68 ?_
  refine WA_branch (rs := [4, 7]) vm175 rfl (AllB.cons ?_ (AllB.cons ?_ AllB.nil))
  ·refine WB_rn [1] rfl rfl (WX_q rfl rfl (q_cut_spare G rfl rfl rfl rfl rfl rfl vm176 vm176 vm176 vm176) (WL_nil ⟨rfl, ?_⟩))
   refine WA_branch (rs := [7]) vm175 rfl (AllB.cons ?_ AllB.nil)
   refine WB_rn [1] rfl rfl (WX_q rfl rfl (q_cut_spare G rfl rfl rfl rfl rfl rfl vm176 vm176 vm176 vm176) (WL_nil ⟨rfl, ?_⟩))
   refine WA_branch (rs := [8]) vm175 rfl (AllB.cons ?_ AllB.nil)
   refine WB_rn [1] rfl rfl (WX_copy_spare G rfl rfl rfl rfl rfl rfl rfl (vs := (xs.map encWa).drop i) (SrcOK.spare rfl vm176) (L := xs.length - i) vm196 (ins_src vm198 (by omega) vm176 (by rw [List.length_map]) (by rw [List.length_map])) (fun c hc => (hall c (List.mem_of_mem_drop hc)).2) (fun c hc => (hall c (List.mem_of_mem_drop hc)).1) vm176 vm176 (WL_nil ⟨rfl, ?_⟩))
   exact WA_end vm175 (Meet.mk rfl rfl rfl rfl)
  refine WB_rn [1] rfl rfl (WX_q rfl rfl (q_cut_spare G rfl rfl rfl rfl rfl rfl vm176 vm176 vm176 vm176) (WL_nil ⟨rfl, ?_⟩))
  refine WA_branch (rs := [4]) vm175 rfl (AllB.cons ?_ AllB.nil)
  refine WB_rn [1] rfl rfl (WX_q rfl rfl (q_cut_spare G rfl rfl rfl rfl rfl rfl vm176 vm176 vm176 vm176) (WL_nil ⟨rfl, ?_⟩))
  refine WA_branch (rs := [8]) vm175 rfl (AllB.cons ?_ AllB.nil)
  refine WB_rn [1] rfl rfl (WX_copy_spare G rfl rfl rfl rfl rfl rfl rfl (vs := (xs.map encWa).drop i) (SrcOK.spare rfl vm176) (L := xs.length - i) vm196 (ins_src vm198 (by omega) vm176 (by rw [List.length_map]) (by rw [List.length_map])) (fun c hc => (hall c (List.mem_of_mem_drop hc)).2) (fun c hc => (hall c (List.mem_of_mem_drop hc)).1) vm176 vm176 (WL_nil ⟨rfl, ?_⟩))
  exact WA_end vm175 (Meet.mk rfl rfl rfl rfl)
 refine vm64 ?_
 refine vm33 ?_
 refine vm11 ?_
 refine zst ?_
 refine vm7 ?_
 refine WX_copy_spare G rfl rfl rfl rfl rfl rfl rfl (vs := [encWa v]) (SrcOK.of (vs := [encWa v]) vm211 (ArgOK.of rfl) (by decide)) (L := 1) vm196 rfl (by intro c hc; rw [List.mem_singleton.1 hc]; exact enc_oneW v) vm211 vm176 vm176 ?_
 refine zgn ?_
 refine zgn ?_
 have ht1 : ((i : Int) + 1).toNat = i + 1 := by omega
 refine W_row (id := 2) rfl (of_eq (L0 := (xs.take i ++ [v] ++ xs.drop i).map encWa) (by (rw [show xs.length + 1 = (xs.map encWa).length + 1 from by rw [List.length_map]]; simp only [Int.toNat_natCast, ht1, Int.toNat_zero, List.length_drop, List.length_cons, List.length_nil, Nat.zero_add, List.map_append, List.map_take, List.map_drop, List.map_cons, List.map_nil, Nat.sub_zero]; exact ins_room (by rw [List.length_map]; exact hi) (by omega))) (fun c hc => (by obtain ⟨x, _, rfl⟩ := List.mem_map.1 hc; exact enc_oneW x))) (W_ret (finm_one rfl (rc_own rfl ?_) rfl (AftOK.gone (AftOK.stays rfl ?_ rfl AftOK.nil))))
 all_goals exact vm151
set_option maxHeartbeats 4000000 in
theorem c_impl_withWaiter (wa : List Wtr) (w : Wtr) (hw : wa.length ≤ 100000) : Ctr Tryz.prog 193 [.lst 2 (wa.map encWa), .v (encWv w)] (.one (.fr 183 2 ((insW wa w).map encWa))) := by
 refine Ctr.of (n := 28) G Tryz.func193 rfl vm175 rfl rfl rfl (fun w0 => ?_)
 refine vm1 ?_
 refine zgo ?_
 refine W_loopK [0, 3] [0] (fun (i : Nat) => [(5, .v (.int .i64 (i : Int)))]) (fun (i : Nat) => []) (fun (i : Nat) => i ≤ wa.length ∧ ∀ j, j < i → lessW (wa.getD j default) w = true) (fun (i : Nat) => wa.length - i) 0 rfl rfl ?_ ?_ ?_ ?_
 ·exact ⟨Nat.zero_le _, fun j hj => by omega⟩
 ·exact ⟨⟨_, rfl, by (first | rfl | (simp; done) | (simp; omega))⟩, rfl, trivial⟩
 ·exact trivial
 intro i hinv
 simp only [List.cons_append, List.nil_append]
 refine zgd ?_
 refine zcd (fun h1 => ?_) (fun h1 => ?_)
 ·refine zcl (c_impl_compareUrgency _ _) ?_
  refine zcd (fun h2 => ?_) (fun h2 => ?_)
  ·refine zgo ?_
   refine ⟨(i + 1), ?_, ?_, ⟨⟨_, rfl, by rfl⟩, rfl, trivial⟩, trivial, rfl, rfl, rfl⟩
   ·exact ⟨by omega, upto_succ hinv.2 (by first | assumption | exact urg_neg.mp vm177)⟩
   omega
  refine zgo ?_
  apply W_drawsJ [4] [3] 4 8 [0] mixed vm175 rfl rfl (fun _ h => znk h)
  ·intro r0
   refine zsa 1 ?_
   refine zsa 3 ?_
   refine zsa 4 ?_
   refine WA_more (N := 2) rfl (WAV_startH (fuel := 4) [⟨0, 21, 1, false, .row 183 2 []⟩] (AllVOK.cons (VOK.lit G rfl rfl rfl rfl rfl) (AllVOK.nil)) (fun hok => ?_))
   refine WAV_go [(2, [0]), (5, [])] vm175 vm175 (fun e he => hok e he) vm175 (AllVS.cons ?_ (AllVS.cons ?_ AllVS.nil))
   ·refine vm20 ?_
    clear hok
    refine WA_branch (rs := [5]) vm175 rfl (AllB.cons ?_ AllB.nil)
    refine WB_rn [0] rfl rfl (WX_lit G 3 rfl rfl rfl rfl rfl rfl rfl rfl (WL_nil ⟨rfl, ?_⟩))
    refine WA_branch (rs := [6]) vm175 rfl (AllB.cons ?_ AllB.nil)
    refine WB_rn [0] rfl rfl (WX_callm 4 [1, 2] rfl rfl rfl (c_slices_Insert_impl_Waiter_impl_Waiter wa w i (by omega) (by omega)) rfl (RowsIn.cons rfl (RowsIn.cons rfl RowsIn.nil)) rfl rfl rfl (WL_nil ⟨rfl, ?_⟩))
    refine zsa 7 ?_
    exact WA_end vm175 (Meet.mk rfl rfl rfl rfl)
   refine VStep.mk0 [0] rfl rfl (fun b1 _ hbn => WX_lit G 3 rfl rfl rfl rfl rfl rfl rfl rfl (WL_nil rfl)) vm175 vm175 vm175 vm175 (WAV_go [(2, [0])] vm175 vm175 (fun e he => hok e he) vm175 (AllVS.cons ?_ AllVS.nil))
   refine vm20 ?_
   clear hok
   refine WA_branch (rs := [6]) vm175 rfl (AllB.cons ?_ AllB.nil)
   refine WB_rn [0] rfl rfl (WX_callm 4 [1, 2] rfl rfl rfl (c_slices_Insert_impl_Waiter_impl_Waiter wa w i (by omega) (by omega)) rfl (RowsIn.cons rfl (RowsIn.cons rfl RowsIn.nil)) rfl rfl rfl (WL_nil ⟨rfl, ?_⟩))
   refine zsa 7 ?_
   exact WA_end vm175 (Meet.mk rfl rfl rfl rfl)
  refine zfo ?_
  all_goals exact vm167
 refine zwf ?_
 refine zgo ?_
 apply W_drawsJ [4] [3] 4 8 [0] mixed vm175 rfl rfl (fun _ h => znk h)
 ·intro r0
  refine zsa 1 ?_
  refine zsa 3 ?_
  refine zsa 4 ?_
  refine WA_more (N := 2) rfl (WAV_startH (fuel := 4) [⟨0, 21, 1, false, .row 183 2 []⟩] (AllVOK.cons (VOK.lit G rfl rfl rfl rfl rfl) (AllVOK.nil)) (fun hok => ?_))
  refine WAV_go [(2, [0]), (5, [])] vm175 vm175 (fun e he => hok e he) vm175 (AllVS.cons ?_ (AllVS.cons ?_ AllVS.nil))
  ·refine vm20 ?_
   clear hok
   refine WA_branch (rs := [5]) vm175 rfl (AllB.cons ?_ AllB.nil)
   refine WB_rn [0] rfl rfl (WX_lit G 3 rfl rfl rfl rfl rfl rfl rfl rfl (WL_nil ⟨rfl, ?_⟩))
   refine WA_branch (rs := [6]) vm175 rfl (AllB.cons ?_ AllB.nil)
   refine WB_rn [0] rfl rfl (WX_callm 4 [1, 2] rfl rfl rfl (c_slices_Insert_impl_Waiter_impl_Waiter wa w i (by omega) (by omega)) rfl (RowsIn.cons rfl (RowsIn.cons rfl RowsIn.nil)) rfl rfl rfl (WL_nil ⟨rfl, ?_⟩))
   refine zsa 7 ?_
   exact WA_end vm175 (Meet.mk rfl rfl rfl rfl)
  refine VStep.mk0 [0] rfl rfl (fun b1 _ hbn => WX_lit G 3 rfl rfl rfl rfl rfl rfl rfl rfl (WL_nil rfl)) vm175 vm175 vm175 vm175 (WAV_go [(2, [0])] vm175 vm175 (fun e he => hok e he) vm175 (AllVS.cons ?_ AllVS.nil))
  refine vm20 ?_
  clear hok
  refine WA_branch (rs := [6]) vm175 rfl (AllB.cons ?_ AllB.nil)
  refine WB_rn [0] rfl rfl (WX_callm 4 [1, 2] rfl rfl rfl (c_slices_Insert_impl_Waiter_impl_Waiter wa w i (by omega) (by omega)) rfl (RowsIn.cons rfl (RowsIn.cons rfl RowsIn.nil)) rfl rfl rfl (WL_nil ⟨rfl, ?_⟩))
  refine zsa 7 ?_
  exact WA_end vm175 (Meet.mk rfl rfl rfl rfl)
 refine zfo ?_
 all_goals exact vm167
set_option maxHeartbeats 4000000 in
theorem c_spec_l9Wait (wa : List Wtr) (w : Wtr) (hw : wa.length ≤ 100000) : Ctr Tryz.prog 187 [.lst 2 (wa.map encWa), .v (encWv w)] (.one (.fr 183 2 ((insW wa w).map encWa))) := by
 refine Ctr.of (n := 41) G Tryz.func187 rfl vm175 rfl rfl rfl (fun w0 => ?_)
 refine vm1 ?_
 refine zgo ?_
 refine W_loopK [0, 3] [0] (fun (i : Nat) => [(5, .v (.int .i64 (i : Int)))]) (fun (i : Nat) => []) (fun (i : Nat) => i ≤ wa.length ∧ ∀ j, j < i → lessW (wa.getD j default) w = true) (fun (i : Nat) => wa.length - i) 0 rfl rfl ?_ ?_ ?_ ?_
 ·exact ⟨Nat.zero_le _, fun j hj => by omega⟩
 ·exact ⟨⟨_, rfl, by (first | rfl | (simp; done) | (simp; omega))⟩, rfl, trivial⟩
 ·exact trivial
 intro i hinv
 simp only [List.cons_append, List.nil_append]
 refine zgd ?_
 refine zcd (fun h1 => ?_) (fun h1 => ?_)
 ·refine zcl (c_spec_l8Less _ _ _ _) ?_
  refine zcd (fun h2 => ?_) (fun h2 => ?_)
  ·refine zgo ?_
   refine ⟨(i + 1), ?_, ?_, ⟨⟨_, rfl, by rfl⟩, rfl, trivial⟩, trivial, rfl, rfl, rfl⟩
   ·exact ⟨by omega, upto_succ hinv.2 (by first | assumption | exact urg_neg.mp vm177)⟩
   omega
  refine zgo ?_
  apply W_drawsJ [4] [1] 3 13 [0] mixed vm175 rfl rfl (fun _ h => znk h)
  ·intro r0
   refine vm3 ?_
   refine WA_more (N := 2) rfl (WAV_startH (fuel := 5) [⟨0, 29, 1, false, .row 183 2 []⟩] (AllVOK.cons (VOK.lit G rfl rfl rfl rfl rfl) (AllVOK.nil)) (fun hok => ?_))
   refine WAV_go [(4, [0]), (6, [])] vm175 vm175 (fun e he => hok e he) vm175 (AllVS.cons ?_ (AllVS.cons ?_ AllVS.nil))
   ·refine vm13 ?_
    clear hok
    refine WA_branch (rs := [6]) vm175 rfl (AllB.cons ?_ AllB.nil)
    refine WB_rn [0] rfl rfl (WX_lit G 3 rfl rfl rfl rfl rfl rfl rfl rfl (WL_nil ⟨rfl, ?_⟩))
    refine WA_branch (rs := [7]) vm175 rfl (AllB.cons ?_ AllB.nil)
    refine WB_rn [0] rfl rfl (WX_append G vm181 rfl rfl rfl rfl rfl rfl rfl rfl rfl vm178 rfl rfl (WL_nil ⟨rfl, ?_⟩))
    refine WA_branch (rs := [11]) vm175 rfl (AllB.cons ?_ AllB.nil)
    refine WB_rn [0] rfl rfl (WX_append G vm181 rfl rfl rfl rfl rfl rfl rfl rfl rfl vm178 rfl rfl (WL_nil ⟨rfl, ?_⟩))
    refine zsa 12 ?_
    exact WA_end vm175 (Meet.mk rfl rfl rfl rfl)
   refine VStep.mk0 [0] rfl rfl (fun b1 _ hbn => WX_lit G 3 rfl rfl rfl rfl rfl rfl rfl rfl (WL_nil rfl)) vm175 vm175 vm175 vm175 (WAV_go [(4, [0])] vm175 vm175 (fun e he => hok e he) vm175 (AllVS.cons ?_ AllVS.nil))
   refine vm13 ?_
   clear hok
   refine WA_branch (rs := [7]) vm175 rfl (AllB.cons ?_ AllB.nil)
   refine WB_rn [0] rfl rfl (WX_append G vm181 rfl rfl rfl rfl rfl rfl rfl rfl rfl vm178 rfl rfl (WL_nil ⟨rfl, ?_⟩))
   refine WA_branch (rs := [11]) vm175 rfl (AllB.cons ?_ AllB.nil)
   refine WB_rn [0] rfl rfl (WX_append G vm181 rfl rfl rfl rfl rfl rfl rfl rfl rfl vm178 rfl rfl (WL_nil ⟨rfl, ?_⟩))
   refine zsa 12 ?_
   exact WA_end vm175 (Meet.mk rfl rfl rfl rfl)
  refine zfo ?_
  all_goals exact vm168
 refine zwf ?_
 refine zgo ?_
 apply W_drawsJ [4] [1] 3 13 [0] mixed vm175 rfl rfl (fun _ h => znk h)
 ·intro r0
  refine vm3 ?_
  refine WA_more (N := 2) rfl (WAV_startH (fuel := 5) [⟨0, 29, 1, false, .row 183 2 []⟩] (AllVOK.cons (VOK.lit G rfl rfl rfl rfl rfl) (AllVOK.nil)) (fun hok => ?_))
  refine WAV_go [(4, [0]), (6, [])] vm175 vm175 (fun e he => hok e he) vm175 (AllVS.cons ?_ (AllVS.cons ?_ AllVS.nil))
  ·refine vm13 ?_
   clear hok
   refine WA_branch (rs := [6]) vm175 rfl (AllB.cons ?_ AllB.nil)
   refine WB_rn [0] rfl rfl (WX_lit G 3 rfl rfl rfl rfl rfl rfl rfl rfl (WL_nil ⟨rfl, ?_⟩))
   refine WA_branch (rs := [7]) vm175 rfl (AllB.cons ?_ AllB.nil)
   refine WB_rn [0] rfl rfl (WX_append G vm181 rfl rfl rfl rfl rfl rfl rfl rfl rfl vm178 rfl rfl (WL_nil ⟨rfl, ?_⟩))
   refine WA_branch (rs := [11]) vm175 rfl (AllB.cons ?_ AllB.nil)
   refine WB_rn [0] rfl rfl (WX_append G vm181 rfl rfl rfl rfl rfl rfl rfl rfl rfl vm178 rfl rfl (WL_nil ⟨rfl, ?_⟩))
   refine zsa 12 ?_
   exact WA_end vm175 (Meet.mk rfl rfl rfl rfl)
  refine VStep.mk0 [0] rfl rfl (fun b1 _ hbn => WX_lit G 3 rfl rfl rfl rfl rfl rfl rfl rfl (WL_nil rfl)) vm175 vm175 vm175 vm175 (WAV_go [(4, [0])] vm175 vm175 (fun e he => hok e he) vm175 (AllVS.cons ?_ AllVS.nil))
  refine vm13 ?_
  clear hok
  refine WA_branch (rs := [7]) vm175 rfl (AllB.cons ?_ AllB.nil)
  refine WB_rn [0] rfl rfl (WX_append G vm181 rfl rfl rfl rfl rfl rfl rfl rfl rfl vm178 rfl rfl (WL_nil ⟨rfl, ?_⟩))
  refine WA_branch (rs := [11]) vm175 rfl (AllB.cons ?_ AllB.nil)
  refine WB_rn [0] rfl rfl (WX_append G vm181 rfl rfl rfl rfl rfl rfl rfl rfl rfl vm178 rfl rfl (WL_nil ⟨rfl, ?_⟩))
  refine zsa 12 ?_
  exact WA_end vm175 (Meet.mk rfl rfl rfl rfl)
 refine zfo ?_
 all_goals exact vm168
end Go.Proofs.YtcnodpipinlpcaaGreat
set_option maxRecDepth 20000
set_option linter.unusedVariables false
set_option linter.unusedSimpArgs false
namespace Go.Proofs.YtcnodpipinlpcaaGreat
open Go Go.Rf
set_option maxHeartbeats 1000000 in
set_option maxHeartbeats 4000000 in
theorem c_impl_settled (q : Que) (hF : QF q) : Ctr Tryz.prog 194 [.agg [.lst 3 (q.sl.map encSl), .lst 2 (q.wa.map encWa)]] (.shp true [some 2] [.fr 154 3 ((setl q).sl.map encSl), .fr 183 2 ((setl q).wa.map encWa) true]) := by
 have hq4 := hF.sl.len
 have hqw := hF.wn
 refine Ctr.of (n := 47) G Tryz.func194 rfl vm175 rfl rfl rfl (fun w0 => ?_)
 refine W_pinS 0 rfl (fun _ => rfl) (fun u0 => ?_)
 refine vm1 ?_
 refine vm12 ?_
 refine vm52 ?_
 refine WX_call 4 rfl rfl rfl (ArgsOK.of rfl) (c_impl_newQueue q (by omega) (by omega)) rfl rfl ?_
 refine vm7 ?_
 refine WX_alloc_s G 5 rfl rfl rfl rfl rfl ?_
 refine zgo ?_
 refine W_loopK [2, 3] [1, 4] (fun (x : Que) => []) (fun (x : Que) => [(2, some (.row 154 3 (x.sl.map encSl))), (3, some (.row 183 2 (x.wa.map encWa) true))]) (fun (x : Que) => QF x ∧ setl x = setl q) (fun (x : Que) => phi x) q rfl rfl ?_ ?_ ?_ ?_
 ·exact ⟨hF, rfl⟩
 ·exact trivial
 ·exact ⟨⟨_, rfl, by rfl⟩, rfl, rfl, ⟨⟨_, rfl, by rfl⟩, rfl, rfl, trivial⟩⟩
 intro x hinv
 have hFx := hinv.1
 have hl4 := hFx.sl.len
 have hwn := hFx.wn
 have hf := @fre_bd x.sl
 have hb := @bstS_bd x.sl false
 simp only [List.cons_append, List.nil_append]
 refine zcl (c_impl_isSettled x (by omega) (by omega) hFx.sl.difS) ?_
 refine zcd (fun h1 => ?_) (fun h1 => ?_)
 ·obtain ⟨hw0, hbb⟩ := stQ_pos hFx h1
  have hnx := setl_step hFx h1
  obtain ⟨hF2, hphi⟩ := stQ_F hFx h1
  refine zgn ?_
  refine W_block (W_sq (W_drawsH 10 [1, 2, 3, 4] mixed vm175 rfl rfl (fun r0 => ?_) (fun _ h => h)))
  refine zsa 0 ?_
  refine zsa 1 ?_
  first | refine WA_take 2 rfl vm175 vm175 rfl rfl rfl rfl (q_index_own G rfl rfl rfl rfl rfl (by omega) (by omega)) ?_ | refine WA_take 2 rfl vm175 vm175 rfl rfl rfl rfl (q_index_own G rfl rfl rfl rfl rfl (by omega) vm187) ?_
  first | refine WA_take 3 rfl vm175 vm175 rfl rfl rfl rfl (q_load_rpt_struct G rfl rfl rfl rfl (getN (by omega)) rfl) ?_ | refine WA_take 3 rfl vm175 vm175 rfl rfl rfl rfl (q_load_rpt_struct G rfl rfl rfl rfl (getNI (by omega) (by omega)) rfl) ?_ | refine WA_take 3 rfl vm175 vm175 rfl rfl rfl rfl (q_load_rpt_struct G rfl rfl rfl rfl (getM (by omega) (by omega)) rfl) ?_ | refine WA_take 3 rfl vm175 vm175 rfl rfl rfl rfl (q_load_rpt_struct G rfl rfl rfl rfl (getM (by omega) vm187) rfl) ?_
  refine vm61 ?_
  refine WA_more (N := 6) rfl (WAV_startH (fuel := 3) [⟨7, 4, 5, true, .box (avR [.int .i64 0, .int .i64 0] [])⟩] (AllVOK.cons (VOK.boxS G rfl rfl rfl rfl rfl) (AllVOK.nil)) (fun hok => ?_))
  refine WAV_go [(6, [])] vm175 vm175 (fun e he => hok e he) vm175 (AllVS.cons ?_ AllVS.nil)
  refine VStep.mk0 [1, 2, 3, 4] rfl rfl (fun b1 _ hbn => WX_q rfl rfl (q_call rfl (ArgsOK.of rfl) (c_impl_firstEmpty x.sl (by omega)) rfl) (WL_nil rfl)) vm175 vm175 vm175 vm175 (WAV_go [(8, [7])] vm175 vm175 (fun e he => hok e he) vm175 (AllVS.cons ?_ AllVS.nil))
  refine VStep.mk1 [1, 2, 3, 4] 4 (.ptr 5 0) 5 (.box (avR [.int .i64 0, .int .i64 0] [])) [] rfl rfl rfl rfl rfl (fun b1 _ hbn => WX_store G rfl rfl rfl rfl rfl rfl rfl rfl rfl rfl rfl (WL_nil rfl)) vm175 vm175 vm175 vm175 (WAV_nil ?_)
  clear hok
  refine zsa 9 ?_
  refine vm15 ?_
  refine vm52 ?_
  refine WX_tail G 7 rfl rfl rfl rfl rfl rfl rfl rfl vm176 vm176 ?_
  refine zcd (fun h2 => ?_) (fun h2 => ?_)
  ·refine zcl (c_impl_pendingSlot x.sl false (by omega) hFx.sl.difS) ?_
   refine zgo ?_
   apply W_drawsJ [2, 3, 4, 5] [1, 2, 4, 5, 7] 8 11 [1, 2, 5, 6] mixed vm175 rfl rfl (fun _ h => znk h)
   ·intro r0
    refine zsa 0 ?_
    refine zsa 2 ?_
    refine zsa 4 ?_
    refine WA_branch (rs := [1, 3]) vm175 rfl (AllB.cons ?_ (AllB.cons ?_ AllB.nil))
    ·refine vm98 ?_
     refine WA_branch (rs := [3]) vm175 rfl (AllB.cons ?_ AllB.nil)
     refine vm19 ?_
     refine WA_branch (rs := [7]) vm175 rfl (AllB.cons ?_ AllB.nil)
     refine WB_rn [1, 2, 5, 6] rfl rfl (WX_q rfl rfl (q_call rfl (ArgsOK.of rfl) (c_impl_waiterOf _) rfl) (WL_nil ⟨rfl, ?_⟩))
     refine WA_branch (rs := [8]) vm175 rfl (AllB.cons ?_ AllB.nil)
     refine WB_rn [1, 2, 5, 6] rfl rfl (WX_call 8 rfl rfl rfl (ArgsOK.of (by rw [drop1]; rfl)) (c_impl_withWaiter (x.wa.drop 1) _ vm213) rfl rfl (WL_nil ⟨rfl, ?_⟩))
     refine zsa 9 ?_
     refine WA_branch (rs := [10]) vm175 rfl (AllB.cons ?_ AllB.nil)
     refine vm98 ?_
     exact WA_end vm175 (Meet.mk rfl rfl rfl rfl)
    refine vm19 ?_
    refine WA_branch (rs := [1, 7]) vm175 rfl (AllB.cons ?_ (AllB.cons ?_ AllB.nil))
    ·refine vm98 ?_
     refine WA_branch (rs := [7]) vm175 rfl (AllB.cons ?_ AllB.nil)
     refine WB_rn [1, 2, 5, 6] rfl rfl (WX_q rfl rfl (q_call rfl (ArgsOK.of rfl) (c_impl_waiterOf _) rfl) (WL_nil ⟨rfl, ?_⟩))
     refine WA_branch (rs := [8]) vm175 rfl (AllB.cons ?_ AllB.nil)
     refine WB_rn [1, 2, 5, 6] rfl rfl (WX_call 8 rfl rfl rfl (ArgsOK.of (by rw [drop1]; rfl)) (c_impl_withWaiter (x.wa.drop 1) _ vm213) rfl rfl (WL_nil ⟨rfl, ?_⟩))
     refine zsa 9 ?_
     refine WA_branch (rs := [10]) vm175 rfl (AllB.cons ?_ AllB.nil)
     refine vm98 ?_
     exact WA_end vm175 (Meet.mk rfl rfl rfl rfl)
    refine WB_rn [1, 2, 5, 6] rfl rfl (WX_q rfl rfl (q_call rfl (ArgsOK.of rfl) (c_impl_waiterOf _) rfl) (WL_nil ⟨rfl, ?_⟩))
    refine WA_branch (rs := [1]) vm175 rfl (AllB.cons ?_ AllB.nil)
    refine vm98 ?_
    refine WA_branch (rs := [8]) vm175 rfl (AllB.cons ?_ AllB.nil)
    refine WB_rn [1, 2, 5, 6] rfl rfl (WX_call 8 rfl rfl rfl (ArgsOK.of (by rw [drop1]; rfl)) (c_impl_withWaiter (x.wa.drop 1) _ vm213) rfl rfl (WL_nil ⟨rfl, ?_⟩))
    refine zsa 9 ?_
    refine WA_branch (rs := [10]) vm175 rfl (AllB.cons ?_ AllB.nil)
    refine vm98 ?_
    exact WA_end vm175 (Meet.mk rfl rfl rfl rfl)
   refine W_gh (Gh.tl (id := 7) rfl) ?_
   refine vm27 ?_
   refine WL_gh (Gh.sub 7 3 np rfl rfl rfl) (WL_nil ⟨(stQ x), ?_, ?_, trivial, ⟨⟨_, rfl, by (first | rfl | (rw [stQ_fre (q := x) (by omega)]; exact congrArg (fun z => Row.row _ _ z) (setG (f := encSl) (x := ⟨1, _, _⟩))) | (rw [stQ_bst (q := x) (by omega)]; exact congrArg (fun z => Row.row _ _ z) (setG (f := encSl) (x := ⟨1, _, _⟩))) | (rw [stQ_fre (q := x) (by omega)]; exact congrArg (fun z => Row.row _ _ z true) (List.map_drop).symm) | (rw [stQ_bst (q := x) (by omega)]; done) | (rw [stQ_bst (q := x) (by omega)]; rfl) | (rw [stQ_fre (q := x) (by omega)]; done) | (rw [stQ_fre (q := x) (by omega)]; rfl) | (rw [stQ_fre (q := x) (by omega)]; exact congrArg (fun z => Row.row _ _ z true) vm193)| (rw [stQ_bst (q := x) (by omega)]; exact congrArg (fun z => Row.row _ _ z true) vm193))⟩, rfl, rfl, ⟨⟨_, rfl, by (first | rfl | (rw [stQ_fre (q := x) (by omega)]; exact congrArg (fun z => Row.row _ _ z) (setG (f := encSl) (x := ⟨1, _, _⟩))) | (rw [stQ_bst (q := x) (by omega)]; exact congrArg (fun z => Row.row _ _ z) (setG (f := encSl) (x := ⟨1, _, _⟩))) | (rw [stQ_fre (q := x) (by omega)]; exact congrArg (fun z => Row.row _ _ z true) (List.map_drop).symm) | (rw [stQ_bst (q := x) (by omega)]; done) | (rw [stQ_bst (q := x) (by omega)]; rfl) | (rw [stQ_fre (q := x) (by omega)]; done) | (rw [stQ_fre (q := x) (by omega)]; rfl) | (rw [stQ_fre (q := x) (by omega)]; exact congrArg (fun z => Row.row _ _ z true) vm193)| (rw [stQ_bst (q := x) (by omega)]; exact congrArg (fun z => Row.row _ _ z true) vm193))⟩, rfl, rfl, trivial⟩⟩, rfl, rfl, rfl⟩)
   ·exact ⟨hF2, hnx ▸ hinv.2⟩
   exact hphi
  refine zgn ?_
  refine W_gh (Gh.tl (id := 6) rfl) ?_
  refine vm27 ?_
  refine WL_gh (Gh.sub 6 3 np rfl rfl rfl) (WL_nil ⟨(stQ x), ?_, ?_, trivial, ⟨⟨_, rfl, by (first | rfl | (rw [stQ_fre (q := x) (by omega)]; exact congrArg (fun z => Row.row _ _ z) (setG (f := encSl) (x := ⟨1, _, _⟩))) | (rw [stQ_bst (q := x) (by omega)]; exact congrArg (fun z => Row.row _ _ z) (setG (f := encSl) (x := ⟨1, _, _⟩))) | (rw [stQ_fre (q := x) (by omega)]; exact congrArg (fun z => Row.row _ _ z true) (List.map_drop).symm) | (rw [stQ_bst (q := x) (by omega)]; done) | (rw [stQ_bst (q := x) (by omega)]; rfl) | (rw [stQ_fre (q := x) (by omega)]; done) | (rw [stQ_fre (q := x) (by omega)]; rfl) | (rw [stQ_fre (q := x) (by omega)]; exact congrArg (fun z => Row.row _ _ z true) vm193)| (rw [stQ_bst (q := x) (by omega)]; exact congrArg (fun z => Row.row _ _ z true) vm193))⟩, rfl, rfl, ⟨⟨_, rfl, by (first | rfl | (rw [stQ_fre (q := x) (by omega)]; exact congrArg (fun z => Row.row _ _ z) (setG (f := encSl) (x := ⟨1, _, _⟩))) | (rw [stQ_bst (q := x) (by omega)]; exact congrArg (fun z => Row.row _ _ z) (setG (f := encSl) (x := ⟨1, _, _⟩))) | (rw [stQ_fre (q := x) (by omega)]; exact congrArg (fun z => Row.row _ _ z true) (List.map_drop).symm) | (rw [stQ_bst (q := x) (by omega)]; done) | (rw [stQ_bst (q := x) (by omega)]; rfl) | (rw [stQ_fre (q := x) (by omega)]; done) | (rw [stQ_fre (q := x) (by omega)]; rfl) | (rw [stQ_fre (q := x) (by omega)]; exact congrArg (fun z => Row.row _ _ z true) vm193)| (rw [stQ_bst (q := x) (by omega)]; exact congrArg (fun z => Row.row _ _ z true) vm193))⟩, rfl, rfl, trivial⟩⟩, rfl, rfl, rfl⟩)
  ·exact ⟨hF2, hnx ▸ hinv.2⟩
  exact hphi
 have hd := setl_done h1
 refine zgo ?_
 refine W_ret (fin_shp rfl rfl rfl rfl (rcs_cons (rc_own rfl ?_) (rcs_cons (rc_own rfl ?_) rcs_nil)))
 all_goals ((rw [← hinv.2, hd]; done))
set_option maxHeartbeats 4000000 in
theorem c_spec_l9Own (q : Que) (hl : q.sl.length ≤ 1048576) (hw : q.wa.length ≤ 1048576) : Ctr Tryz.prog 218 [.agg [.lst 3 (q.sl.map encSl), .lst 2 (q.wa.map encWa)]] (.shp true [some 2] [.fr 154 3 (q.sl.map encSl), .fr 183 2 (q.wa.map encWa)]) := by
 refine Ctr.of (n := 12) G Tryz.func218 rfl vm175 rfl rfl rfl (fun w0 => ?_)
 refine W_pinS 0 rfl (fun _ => rfl) (fun u0 => ?_)
 refine vm91 ?_
 refine W_sq (W_drawsH 10 [0] mixed vm175 rfl rfl (fun r0 => ?_) (fun _ h => h))
 refine vm77 ?_
 refine WA_more (N := 4) rfl (WAV_startH (fuel := 4) [⟨0, 3, 2, false, .row 154 3 []⟩, ⟨4, 7, 3, false, .row 183 2 []⟩] (AllVOK.cons (VOK.lit G rfl rfl rfl rfl rfl) (AllVOK.cons (VOK.lit G rfl rfl rfl rfl rfl) (AllVOK.nil))) (fun hok => ?_))
 refine WAV_go [(3, [0])] vm175 vm175 (fun e he => hok e he) vm175 (AllVS.cons ?_ AllVS.nil)
 refine VStep.mk1 [0] 3 (.own 2) 2 (.row 154 3 []) [⟨4, 7, 3, false, .row 183 2 []⟩] rfl rfl rfl rfl rfl (fun b1 _ hbn => WX_append G vm185 rfl rfl rfl rfl rfl rfl rfl rfl rfl vm187 rfl rfl (WL_nil rfl)) vm175 vm175 vm175 vm175 (WAV_go [(7, [4])] vm175 vm175 (fun e he => hok e (vin (is := [0]) rfl he)) vm175 (AllVS.cons ?_ AllVS.nil))
 refine vm32 ?_
 clear hok
 refine WA_branch (rs := [8]) vm175 rfl (AllB.cons ?_ AllB.nil)
 refine vm71 ?_
 refine WA_branch (rs := [9]) vm175 rfl (AllB.cons ?_ AllB.nil)
 refine vm71 ?_
 refine vm15 ?_
 refine W_ret (fin_shp rfl rfl rfl rfl (rcs_cons (rc_own rfl ?_) (rcs_cons (rc_own rfl ?_) rcs_nil)))
 all_goals (first | rfl | simp)
end Go.Proofs.YtcnodpipinlpcaaGreat
