/- Texts merged into one: M27, M22, M23, M25. -/
import Derived.Test.YtcnodpipinlpcaaGreatPFnExactAgreeOnE
set_option maxRecDepth 20000
set_option linter.unusedVariables false
set_option linter.unusedSimpArgs false
namespace Go.Proofs.YtcnodpipinlpcaaGreat
open Go Go.Rf
theorem eqT40_implabstractOfg : eqTypeB Tryz.prog 40 [.int .i64, .int .i64, .int .i64, .int .i64] = true := by kernel_rfl
set_option maxHeartbeats 2000000 in
set_option maxHeartbeats 4000000 in
theorem c_impl_abstractOf_g (m : Mach) (hM : MaG m) (hs : SmallM m) : Ctr Tryz.prog 99 [.agg [.lst 2 (m.rs.map encRo), .lst 1 (m.en.map encO), .lst 1 (m.ra.map encO), .nst none 4 (m.cp.map (encIf 154 183))]] (.shp true [some 5] [.fr 4 1 ((abOf m).en.map encO), .fr 4 1 ((abOf m).ra.map encO), .fr 4 1 ((abOf m).po.map encO), .fr 3 1 ((abOf m).ma.map Rf.encI), .ne 26 1 ((abOf m).st.map encSt)]) := by
 have f1 := hM.n
 have f2 := hM.en
 have f3 := hM.ra
 have f4 := hM.rn
 refine Ctr.of (n := 57) G Tryz.func99 rfl vm175 rfl rfl rfl (fun w0 => ?_)
 refine W_pinS 0 rfl (fun _ => rfl) (fun u0 => ?_)
 refine vm91 ?_
 refine W_sq (W_drawsH 14 [0, 1] mixed vm175 rfl rfl (fun r0 => ?_) (fun _ h => h))
 refine vm77 ?_
 refine WA_more (N := 8) rfl (WAV_startH (fuel := 4) [⟨0, 8, 2, false, .row 4 1 []⟩, ⟨4, 12, 3, false, .row 4 1 []⟩, ⟨8, 16, 4, false, .row 4 1 (List.replicate 8 [.bool false])⟩, ⟨9, 17, 5, false, .row 3 1 []⟩, ⟨10, 18, 6, false, .row 26 1 []⟩, ⟨12, 3, 7, true, .box (avR [.slice none 0 0, .slice none 0 0, .slice none 0 0, .slice none 0 0, .slice none 0 0] [])⟩] (AllVOK.cons (VOK.lit G rfl rfl rfl rfl rfl) (AllVOK.cons (VOK.lit G rfl rfl rfl rfl rfl) (AllVOK.cons (VOK.make (n := 8) G rfl rfl rfl rfl rfl (by decide) (by decide)) (AllVOK.cons (VOK.lit G rfl rfl rfl rfl rfl) (AllVOK.cons (VOK.lit G rfl rfl rfl rfl rfl) (AllVOK.cons (VOK.boxS G rfl rfl rfl rfl rfl) (AllVOK.nil))))))) (fun hok => ?_))
 refine WAV_go [(3, [0])] vm175 vm175 (fun e he => hok e he) vm175 (AllVS.cons ?_ AllVS.nil)
 refine VStep.mk1 [0, 1] 8 (.own 2) 2 (.row 4 1 []) [⟨4, 12, 3, false, .row 4 1 []⟩, ⟨8, 16, 4, false, .row 4 1 (List.replicate 8 [.bool false])⟩, ⟨9, 17, 5, false, .row 3 1 []⟩, ⟨10, 18, 6, false, .row 26 1 []⟩, ⟨12, 3, 7, true, .box (avR [.slice none 0 0, .slice none 0 0, .slice none 0 0, .slice none 0 0, .slice none 0 0] [])⟩] rfl rfl rfl rfl rfl (fun b1 _ hbn => WX_append G vm185 rfl rfl rfl rfl rfl rfl rfl rfl rfl vm179 rfl rfl (WL_nil rfl)) vm175 vm175 vm175 vm175 (WAV_go [(7, [4])] vm175 vm175 (fun e he => hok e (vin (is := [0]) rfl he)) vm175 (AllVS.cons ?_ AllVS.nil))
 refine VStep.mk1 [0, 1] 12 (.own 3) 3 (.row 4 1 []) [⟨8, 16, 4, false, .row 4 1 (List.replicate 8 [.bool false])⟩, ⟨9, 17, 5, false, .row 3 1 []⟩, ⟨10, 18, 6, false, .row 26 1 []⟩, ⟨12, 3, 7, true, .box (avR [.slice none 0 0, .slice none 0 0, .slice none 0 0, .slice none 0 0, .slice none 0 0] [])⟩] rfl rfl rfl rfl rfl (fun b1 _ hbn => WX_append G vm185 rfl rfl rfl rfl rfl rfl rfl rfl rfl vm179 rfl rfl (WL_nil rfl)) vm175 vm175 vm175 vm175 (WAV_go [(11, [8, 9, 10])] vm175 vm175 (fun e he => hok e (vin (is := [0, 4]) rfl he)) vm175 (AllVS.cons ?_ AllVS.nil))
 refine VStep.mk3 [0, 1] 16 (.own 4) 4 (.row 4 1 (List.replicate 8 [.bool false])) 17 (.own 5) 5 (.row 3 1 []) 18 (.own 6) 6 (.row 26 1 []) [⟨12, 3, 7, true, .box (avR [.slice none 0 0, .slice none 0 0, .slice none 0 0, .slice none 0 0, .slice none 0 0] [])⟩] rfl rfl rfl rfl rfl (fun b1 _ hbn => WX_q rfl rfl (q_build G rfl rfl rfl rfl) (WL_nil rfl)) vm175 vm175 vm175 vm175 (WAV_go [(13, [12])] vm175 vm175 (fun e he => hok e (vin (is := [0, 4, 8, 9, 10]) rfl he)) vm175 (AllVS.cons ?_ AllVS.nil))
 refine vm31 ?_
 clear hok
 refine vm87 ?_
 refine W_loopK [2, 3, 21, 22] [1, 2, 3, 7] (fun (k : Nat) => [(23, .v (.int .i64 (k : Int)))]) (fun (k : Nat) => [(4, some (.row 4 1 ((poN m k).map encO))), (5, some (.row 3 1 (((m.cp.map (fun x => x.ma)).take k).map Rf.encI))), (6, some (.nest 26 1 (((m.cp.map (fun x => x.st)).take k).map encSt) []))]) (fun (k : Nat) => k ≤ m.cp.length) (fun (k : Nat) => m.cp.length - k) 0 rfl rfl ?_ ?_ ?_ ?_
 ·exact Nat.zero_le _
 ·exact ⟨⟨_, rfl, by rfl⟩, rfl, trivial⟩
 ·exact ⟨⟨_, rfl, by rfl⟩, rfl, rfl, ⟨⟨_, rfl, by rfl⟩, rfl, rfl, ⟨⟨_, rfl, by rfl⟩, rfl, rfl, trivial⟩⟩⟩
 intro k hk
 have hp8 := @poN_len m k
 have hm1 : (m.cp.map (fun x => x.ma)).length = m.cp.length := List.length_map _
 have hm2 : (m.cp.map (fun x => x.st)).length = m.cp.length := List.length_map _
 simp only [List.cons_append, List.nil_append]
 refine zcd (fun h1 => ?_) (fun h1 => ?_)
 ·have hI := (hM.ok k (by omega)).f
  have hsn := hI.sn
  have hpl := pndI_len hI.qu
  refine vm52 ?_
  refine vm96 ?_
  refine vm7 ?_
  refine WX_pinS 26 rfl (fun _ => rfl) fun v26 => WX_store G rfl rfl rfl rfl rfl rfl rfl rfl rfl rfl rfl ?_
  refine vm52 ?_
  refine WX_lit G 10 rfl rfl rfl rfl rfl rfl rfl rfl ?_
  refine vm7 ?_
  refine WX_gh (Gh.forget (id := 7) (k := 3) rfl rfl) <| WX_gh (Gh.keep [1, 2, 3, 4, 5, 6, 7, 8, 9] rfl) <| WX_append G np rfl rfl rfl rfl rfl rfl rfl rfl rfl vm179 rfl rfl ?_
  refine zgo ?_
  apply W_drawsJ [2, 3, 5, 21, 22, 23] [1, 2, 3, 4, 5, 7, 8, 12] 13 9 [1, 2, 3, 4, 5, 8, 9] mixed vm175 rfl rfl (fun _ h => znk h)
  ·intro r0
   refine zsa 0 ?_
   refine zsa 2 ?_
   refine zsa 3 ?_
   refine WA_branch (rs := [1, 4]) vm175 rfl (AllB.cons ?_ (AllB.cons ?_ AllB.nil))
   ·refine vm83 ?_
    refine WA_branch (rs := [4]) vm175 rfl (AllB.cons ?_ AllB.nil)
    refine WB_rn [1, 2, 3, 4, 5, 8, 9] rfl rfl (WX_call 11 rfl rfl rfl (ArgsOK.of rfl) (c_impl_copyInts _ (by omega)) rfl rfl (WL_nil ⟨rfl, ?_⟩))
    refine WA_branch (rs := [5]) vm175 rfl (AllB.cons ?_ AllB.nil)
    refine WB_rn [1, 2, 3, 4, 5, 8, 9] rfl rfl (WX_lit_nest G 12 rfl rfl rfl rfl rfl rfl rfl rfl (.own rfl .nil) rfl rfl rfl rfl (WL_nil ⟨rfl, ?_⟩))
    refine WA_branch (rs := [6]) vm175 rfl (AllB.cons ?_ AllB.nil)
    refine WB_run [1, 2, 3, 4, 5, 8, 9] rfl rfl (WX_gh (Gh.forget (id := 7) (k := 4) rfl rfl) <| WX_gh (Gh.keep [1, 2, 3, 4, 5, 6, 7, 8, 9, 11] rfl) <| WX_ren (tx := 35) 13 rfl rfl rfl rfl rfl <| WX_append_nest G vm181 rfl rfl rfl rfl rfl rfl rfl rfl rfl rfl vm179 rfl rfl (WL_nil ⟨rfl, ?_⟩))
    refine zsa 7 ?_
    refine WA_branch (rs := [8]) vm175 rfl (AllB.cons ?_ AllB.nil)
    refine vm83 ?_
    exact WA_end vm175 (Meet.mk rfl rfl rfl rfl)
   refine WB_rn [1, 2, 3, 4, 5, 8, 9] rfl rfl (WX_call 11 rfl rfl rfl (ArgsOK.of rfl) (c_impl_copyInts _ (by omega)) rfl rfl (WL_nil ⟨rfl, ?_⟩))
   refine WA_branch (rs := [1, 5]) vm175 rfl (AllB.cons ?_ (AllB.cons ?_ AllB.nil))
   ·refine vm83 ?_
    refine WA_branch (rs := [5]) vm175 rfl (AllB.cons ?_ AllB.nil)
    refine WB_rn [1, 2, 3, 4, 5, 8, 9] rfl rfl (WX_lit_nest G 12 rfl rfl rfl rfl rfl rfl rfl rfl (.own rfl .nil) rfl rfl rfl rfl (WL_nil ⟨rfl, ?_⟩))
    refine WA_branch (rs := [6]) vm175 rfl (AllB.cons ?_ AllB.nil)
    refine WB_run [1, 2, 3, 4, 5, 8, 9] rfl rfl (WX_gh (Gh.forget (id := 7) (k := 4) rfl rfl) <| WX_gh (Gh.keep [1, 2, 3, 4, 5, 6, 7, 8, 9, 11] rfl) <| WX_ren (tx := 35) 13 rfl rfl rfl rfl rfl <| WX_append_nest G vm181 rfl rfl rfl rfl rfl rfl rfl rfl rfl rfl vm179 rfl rfl (WL_nil ⟨rfl, ?_⟩))
    refine zsa 7 ?_
    refine WA_branch (rs := [8]) vm175 rfl (AllB.cons ?_ AllB.nil)
    refine vm83 ?_
    exact WA_end vm175 (Meet.mk rfl rfl rfl rfl)
   refine WB_rn [1, 2, 3, 4, 5, 8, 9] rfl rfl (WX_lit_nest G 12 rfl rfl rfl rfl rfl rfl rfl rfl (.own rfl .nil) rfl rfl rfl rfl (WL_nil ⟨rfl, ?_⟩))
   refine WA_branch (rs := [1]) vm175 rfl (AllB.cons ?_ AllB.nil)
   refine vm83 ?_
   refine WA_branch (rs := [6]) vm175 rfl (AllB.cons ?_ AllB.nil)
   refine WB_run [1, 2, 3, 4, 5, 8, 9] rfl rfl (WX_gh (Gh.forget (id := 7) (k := 4) rfl rfl) <| WX_gh (Gh.keep [1, 2, 3, 4, 5, 6, 7, 8, 9, 11] rfl) <| WX_ren (tx := 35) 13 rfl rfl rfl rfl rfl <| WX_append_nest G vm181 rfl rfl rfl rfl rfl rfl rfl rfl rfl rfl vm179 rfl rfl (WL_nil ⟨rfl, ?_⟩))
   refine zsa 7 ?_
   refine WA_branch (rs := [8]) vm175 rfl (AllB.cons ?_ AllB.nil)
   refine vm83 ?_
   exact WA_end vm175 (Meet.mk rfl rfl rfl rfl)
  refine vm52 ?_
  refine WX_call 14 rfl rfl rfl (ArgsOK.of rfl) (c_impl_pendingIrqs (m.cp.getD k default).qu hI.qu) rfl rfl ?_
  refine zgo ?_
  refine W_loopK [2, 3, 21, 22, 23, 44, 45] [1, 2, 3, 5, 7, 12, 13] (fun (i : Nat) => [(46, .v (.int .i64 (i : Int)))]) (fun (i : Nat) => [(4, some (.row 4 1 ((setP (poN m k) (pndI (m.cp.getD k default).qu) i).map encO)))]) (fun (i : Nat) => i ≤ (pndI (m.cp.getD k default).qu).length) (fun (i : Nat) => (pndI (m.cp.getD k default).qu).length - i) 0 rfl rfl ?_ ?_ ?_ ?_
  ·exact Nat.zero_le _
  ·exact ⟨⟨_, rfl, by rfl⟩, rfl, trivial⟩
  ·exact ⟨⟨_, rfl, by rfl⟩, rfl, rfl, trivial⟩
  intro i hi
  have hbp := fun h => pndI_bd hI.qu (i := i) h
  have hpo := @setP_len (poN m k) (pndI (m.cp.getD k default).qu) i
  have hp8 := @poN_len m k
  simp only [List.cons_append, List.nil_append]
  refine zcd (fun h2 => ?_) (fun h2 => ?_)
  ·have hbq := hbp (by omega)
   refine vm43 ?_
   first | refine WX_q rfl rfl (q_load_rpt G rfl rfl rfl rfl rfl (getN (by omega)) rfl) ?_ | refine WX_q rfl rfl (q_load_rpt G rfl rfl rfl rfl rfl (getM (by omega) vm209) rfl) ?_ | refine WX_q rfl rfl (q_load_rpt G rfl rfl rfl rfl rfl (getM (by omega) (by omega)) rfl) ?_
   refine vm43 ?_
   first | refine WX_store_row G rfl rfl rfl rfl rfl (getN (by omega)) rfl rfl rfl rfl rfl (Nat.le_of_ble_eq_true rfl) rfl ?_ | refine WX_store_row G rfl rfl rfl rfl rfl (getM (by omega) vm209) rfl rfl rfl rfl rfl (Nat.le_of_ble_eq_true rfl) rfl ?_ | refine WX_store_row G rfl rfl rfl rfl rfl (getM (by omega) (by omega)) rfl rfl rfl rfl rfl (Nat.le_of_ble_eq_true rfl) rfl ?_
   refine zgo ?_
   refine ⟨(i + 1), ?_, ?_, ⟨⟨_, rfl, by rfl⟩, rfl, trivial⟩, ⟨⟨_, rfl, by (first | rfl | (exact congrArg (fun z => Row.row _ _ z) (take_ma (by omega))) | (exact congrArg (fun z => Row.nest _ _ z []) (take_st (by omega) rfl)) | (exact congrArg (fun z => Row.row _ _ z) vm195) | (obtain rfl : i = (pndI (m.cp.getD k default).qu).length := (by omega); rfl))⟩, rfl, rfl, trivial⟩, rfl, rfl, rfl⟩
   ·omega
   omega
  refine zgn ?_
  refine W_region ?_
  refine vm33 ?_
  refine WL_gh (Gh.sub 12 6 np rfl rfl rfl) (WL_nil ⟨(k + 1), ?_, ?_, ⟨⟨_, rfl, by rfl⟩, rfl, trivial⟩, ⟨⟨_, rfl, by (first | rfl | (exact congrArg (fun z => Row.row _ _ z) (take_ma (by omega))) | (exact congrArg (fun z => Row.nest _ _ z []) (take_st (by omega) rfl)) | (exact congrArg (fun z => Row.row _ _ z) vm195) | (obtain rfl : i = (pndI (m.cp.getD k default).qu).length := (by omega); rfl))⟩, rfl, rfl, ⟨⟨_, rfl, by (first | rfl | (exact congrArg (fun z => Row.row _ _ z) (take_ma (by omega))) | (exact congrArg (fun z => Row.nest _ _ z []) (take_st (by omega) rfl)) | (exact congrArg (fun z => Row.row _ _ z) vm195) | (obtain rfl : i = (pndI (m.cp.getD k default).qu).length := (by omega); rfl))⟩, rfl, rfl, ⟨⟨_, rfl, by (first | rfl | (exact congrArg (fun z => Row.row _ _ z) (take_ma (by omega))) | (exact congrArg (fun z => Row.nest _ _ z []) (take_st (by omega) rfl)) | (exact congrArg (fun z => Row.row _ _ z) vm195) | (obtain rfl : i = (pndI (m.cp.getD k default).qu).length := (by omega); rfl))⟩, rfl, rfl, trivial⟩⟩⟩, rfl, rfl, rfl⟩)
  ·omega
  omega
 refine zgo ?_
 refine W_ret (fin_shp rfl rfl rfl rfl (rcs_cons (rc_own rfl ?_) (rcs_cons (rc_own rfl ?_) (rcs_cons (rc_own rfl ?_) (rcs_cons (rc_own rfl ?_) (rcs_cons (rc_ne rfl ?_) rcs_nil))))))
 all_goals exact vm153
set_option maxHeartbeats 2000000 in
set_option maxHeartbeats 4000000 in
theorem c_spec_l25Of_g (m : Mach) (hM : MaG m) (hs : SmallM m) : Ctr Tryz.prog 97 [.agg [.lst 2 (m.rs.map encRo), .lst 1 (m.en.map encO), .lst 1 (m.ra.map encO), .nst none 4 (m.cp.map (encIf 154 183))]] (.shp true [some 5] [.fr 4 1 ((abOf m).en.map encO), .fr 4 1 ((abOf m).ra.map encO), .fr 4 1 ((abOf m).po.map encO), .fr 3 1 ((abOf m).ma.map Rf.encI), .ne 26 1 ((abOf m).st.map encSt)]) := by
 have f1 := hM.n
 have f2 := hM.en
 have f3 := hM.ra
 have f4 := hM.rn
 refine Ctr.of (n := 70) G Tryz.func97 rfl vm175 rfl rfl rfl (fun w0 => ?_)
 refine W_pinS 0 rfl (fun _ => rfl) (fun u0 => ?_)
 refine vm91 ?_
 refine W_sq (W_drawsH 14 [0, 1] mixed vm175 rfl rfl (fun r0 => ?_) (fun _ h => h))
 refine vm77 ?_
 refine WA_more (N := 8) rfl (WAV_startH (fuel := 4) [⟨0, 7, 2, false, .row 4 1 []⟩, ⟨4, 11, 3, false, .row 4 1 []⟩, ⟨8, 15, 4, false, .row 4 1 (List.replicate 8 [.bool false])⟩, ⟨9, 16, 5, false, .row 3 1 []⟩, ⟨10, 17, 6, false, .row 26 1 []⟩, ⟨12, 3, 7, true, .box (avR [.slice none 0 0, .slice none 0 0, .slice none 0 0, .slice none 0 0, .slice none 0 0] [])⟩] (AllVOK.cons (VOK.lit G rfl rfl rfl rfl rfl) (AllVOK.cons (VOK.lit G rfl rfl rfl rfl rfl) (AllVOK.cons (VOK.make (n := 8) G rfl rfl rfl rfl rfl (by decide) (by decide)) (AllVOK.cons (VOK.lit G rfl rfl rfl rfl rfl) (AllVOK.cons (VOK.lit G rfl rfl rfl rfl rfl) (AllVOK.cons (VOK.boxS G rfl rfl rfl rfl rfl) (AllVOK.nil))))))) (fun hok => ?_))
 refine WAV_go [(3, [0])] vm175 vm175 (fun e he => hok e he) vm175 (AllVS.cons ?_ AllVS.nil)
 refine VStep.mk1 [0, 1] 7 (.own 2) 2 (.row 4 1 []) [⟨4, 11, 3, false, .row 4 1 []⟩, ⟨8, 15, 4, false, .row 4 1 (List.replicate 8 [.bool false])⟩, ⟨9, 16, 5, false, .row 3 1 []⟩, ⟨10, 17, 6, false, .row 26 1 []⟩, ⟨12, 3, 7, true, .box (avR [.slice none 0 0, .slice none 0 0, .slice none 0 0, .slice none 0 0, .slice none 0 0] [])⟩] rfl rfl rfl rfl rfl (fun b1 _ hbn => WX_append G vm185 rfl rfl rfl rfl rfl rfl rfl rfl rfl vm179 rfl rfl (WL_nil rfl)) vm175 vm175 vm175 vm175 (WAV_go [(7, [4])] vm175 vm175 (fun e he => hok e (vin (is := [0]) rfl he)) vm175 (AllVS.cons ?_ AllVS.nil))
 refine VStep.mk1 [0, 1] 11 (.own 3) 3 (.row 4 1 []) [⟨8, 15, 4, false, .row 4 1 (List.replicate 8 [.bool false])⟩, ⟨9, 16, 5, false, .row 3 1 []⟩, ⟨10, 17, 6, false, .row 26 1 []⟩, ⟨12, 3, 7, true, .box (avR [.slice none 0 0, .slice none 0 0, .slice none 0 0, .slice none 0 0, .slice none 0 0] [])⟩] rfl rfl rfl rfl rfl (fun b1 _ hbn => WX_append G vm185 rfl rfl rfl rfl rfl rfl rfl rfl rfl vm179 rfl rfl (WL_nil rfl)) vm175 vm175 vm175 vm175 (WAV_go [(11, [8, 9, 10])] vm175 vm175 (fun e he => hok e (vin (is := [0, 4]) rfl he)) vm175 (AllVS.cons ?_ AllVS.nil))
 refine VStep.mk3 [0, 1] 15 (.own 4) 4 (.row 4 1 (List.replicate 8 [.bool false])) 16 (.own 5) 5 (.row 3 1 []) 17 (.own 6) 6 (.row 26 1 []) [⟨12, 3, 7, true, .box (avR [.slice none 0 0, .slice none 0 0, .slice none 0 0, .slice none 0 0, .slice none 0 0] [])⟩] rfl rfl rfl rfl rfl (fun b1 _ hbn => WX_q rfl rfl (q_build G rfl rfl rfl rfl) (WL_nil rfl)) vm175 vm175 vm175 vm175 (WAV_go [(13, [12])] vm175 vm175 (fun e he => hok e (vin (is := [0, 4, 8, 9, 10]) rfl he)) vm175 (AllVS.cons ?_ AllVS.nil))
 refine vm31 ?_
 clear hok
 refine vm87 ?_
 refine W_loopK [1, 2, 3] [0, 1, 2, 3, 7] (fun (k : Nat) => [(4, .v (.int .i64 (k : Int)))]) (fun (k : Nat) => [(4, some (.row 4 1 ((poN m k).map encO))), (5, some (.row 3 1 (((m.cp.map (fun x => x.ma)).take k).map Rf.encI))), (6, some (.nest 26 1 (((m.cp.map (fun x => x.st)).take k).map encSt) []))]) (fun (k : Nat) => k ≤ m.cp.length) (fun (k : Nat) => m.cp.length - k) 0 rfl rfl ?_ ?_ ?_ ?_
 ·exact Nat.zero_le _
 ·exact ⟨⟨_, rfl, by rfl⟩, rfl, trivial⟩
 ·exact ⟨⟨_, rfl, by rfl⟩, rfl, rfl, ⟨⟨_, rfl, by rfl⟩, rfl, rfl, ⟨⟨_, rfl, by rfl⟩, rfl, rfl, trivial⟩⟩⟩
 intro k hk
 have hp8 := @poN_len m k
 have hm1 : (m.cp.map (fun x => x.ma)).length = m.cp.length := List.length_map _
 have hm2 : (m.cp.map (fun x => x.st)).length = m.cp.length := List.length_map _
 simp only [List.cons_append, List.nil_append]
 refine zcd (fun h1 => ?_) (fun h1 => ?_)
 ·have hI := (hM.ok k (by omega)).f
  have hsn := hI.sn
  have hpl := pndI_len hI.qu
  refine vm90 ?_
  refine W_loopK [1, 2, 3, 4, 5] [0, 1, 2, 3, 5, 6, 7, 8] (fun (i : Nat) => [(6, .v (.int .i64 (i : Int)))]) (fun (i : Nat) => [(4, some (.row 4 1 ((setP (poN m k) (pndI (m.cp.getD k default).qu) i).map encO)))]) (fun (i : Nat) => i ≤ (pndI (m.cp.getD k default).qu).length) (fun (i : Nat) => (pndI (m.cp.getD k default).qu).length - i) 0 rfl rfl ?_ ?_ ?_ ?_
  ·exact Nat.zero_le _
  ·exact ⟨⟨_, rfl, by rfl⟩, rfl, trivial⟩
  ·exact ⟨⟨_, rfl, by rfl⟩, rfl, rfl, trivial⟩
  intro i hi
  have hbp := fun h => pndI_bd hI.qu (i := i) h
  have hpo := @setP_len (poN m k) (pndI (m.cp.getD k default).qu) i
  have hp8 := @poN_len m k
  simp only [List.cons_append, List.nil_append]
  refine zcd (fun h2 => ?_) (fun h2 => ?_)
  ·have hbq := hbp (by omega)
   refine zgn ?_
   refine W_sq (W_block (W_drawsH 8 [0, 1, 2, 3, 5, 6, 7, 8] mixed vm175 rfl rfl (fun r0 => ?_) (fun _ h => h)))
   refine vm18 ?_
   refine WA_branch (rs := [6]) vm175 rfl (AllB.cons ?_ AllB.nil)
   first | refine WB_run [0, 1, 2, 3, 5, 6, 7, 8] rfl rfl (WX_q rfl rfl (q_index_own G rfl rfl rfl rfl rfl (by omega) vm198) (WL_nil ⟨rfl, ?_⟩)) | refine WB_run [0, 1, 2, 3, 5, 6, 7, 8] rfl rfl (WX_q rfl rfl (q_index_own G rfl rfl rfl rfl rfl (by omega) vm207) (WL_nil ⟨rfl, ?_⟩)) | refine WB_run [0, 1, 2, 3, 5, 6, 7, 8] rfl rfl (WX_q rfl rfl (q_index_own G rfl rfl rfl rfl rfl (by omega) vm187) (WL_nil ⟨rfl, ?_⟩)) | refine WB_run [0, 1, 2, 3, 5, 6, 7, 8] rfl rfl (WX_q rfl rfl (q_index_own G rfl rfl rfl rfl rfl (by omega) (by omega)) (WL_nil ⟨rfl, ?_⟩))
   refine WA_branch (rs := [7]) vm175 rfl (AllB.cons ?_ AllB.nil)
   first | refine WB_run [0, 1, 2, 3, 5, 6, 7, 8] rfl rfl (WX_store_row G rfl rfl rfl rfl rfl (getN (by omega)) rfl rfl rfl rfl rfl (Nat.le_of_ble_eq_true rfl) rfl (WL_nil ⟨rfl, ?_⟩)) | refine WB_run [0, 1, 2, 3, 5, 6, 7, 8] rfl rfl (WX_store_row G rfl rfl rfl rfl rfl (getM (by omega) vm209) rfl rfl rfl rfl rfl (Nat.le_of_ble_eq_true rfl) rfl (WL_nil ⟨rfl, ?_⟩)) | refine WB_run [0, 1, 2, 3, 5, 6, 7, 8] rfl rfl (WX_store_row G rfl rfl rfl rfl rfl (getM (by omega) (by omega)) rfl rfl rfl rfl rfl (Nat.le_of_ble_eq_true rfl) rfl (WL_nil ⟨rfl, ?_⟩))
   refine vm15 ?_
   refine zgo ?_
   refine ⟨(i + 1), ?_, ?_, ⟨⟨_, rfl, by rfl⟩, rfl, trivial⟩, ⟨⟨_, rfl, by (first | rfl | (exact congrArg (fun z => Row.row _ _ z) (take_ma (by omega))) | (exact congrArg (fun z => Row.nest _ _ z []) (take_st (by omega) rfl)) | (exact congrArg (fun z => Row.row _ _ z) vm195) | (obtain rfl : i = (pndI (m.cp.getD k default).qu).length := (by omega); rfl))⟩, rfl, rfl, trivial⟩, rfl, rfl, rfl⟩
   ·omega
   omega
  refine zgo ?_
  apply W_drawsJ [1, 2, 3, 4] [0, 1, 2, 3, 4, 6, 7, 10] 11 12 [0, 1, 2, 3, 4, 6, 8] mixed vm175 rfl rfl (fun _ h => znk h)
  ·intro r0
   refine zsa 0 ?_
   refine zsa 2 ?_
   refine zsa 3 ?_
   refine vm61 ?_
   refine WA_take 6 rfl vm175 vm175 rfl rfl rfl rfl (q_field_eptN G rfl rfl rfl rfl) (WA_take 7 rfl vm175 vm175 rfl rfl rfl rfl (q_load_eptN G rfl rfl rfl rfl) (WA_branch (rs := [1, 8]) vm175 rfl (AllB.cons ?_ (AllB.cons ?_ AllB.nil))))
   ·refine vm69 ?_
    refine WA_branch (rs := [8]) vm175 rfl (AllB.cons ?_ AllB.nil)
    refine WB_rn [0, 1, 2, 3, 4, 6, 8] rfl rfl (WX_lit G 10 rfl rfl rfl rfl rfl rfl rfl rfl (WL_nil ⟨rfl, ?_⟩))
    refine WA_branch (rs := [9]) vm175 rfl (AllB.cons ?_ AllB.nil)
    refine WB_run [0, 1, 2, 3, 4, 6, 8] rfl rfl (WX_gh (Gh.forget (id := 7) (k := 3) rfl rfl) <| WX_gh (Gh.keep [0, 1, 2, 3, 4, 5, 6, 7, 8, 9] rfl) <| WX_ren (tx := 47) 11 rfl rfl rfl rfl rfl <| WX_append G vm181 rfl rfl rfl rfl rfl rfl rfl rfl rfl vm179 rfl rfl (WL_nil ⟨rfl, ?_⟩))
    refine zsa 10 ?_
    refine WA_branch (rs := [11]) vm175 rfl (AllB.cons ?_ AllB.nil)
    refine vm69 ?_
    exact WA_end vm175 (Meet.mk rfl rfl rfl rfl)
   refine WB_rn [0, 1, 2, 3, 4, 6, 8] rfl rfl (WX_lit G 10 rfl rfl rfl rfl rfl rfl rfl rfl (WL_nil ⟨rfl, ?_⟩))
   refine WA_branch (rs := [1]) vm175 rfl (AllB.cons ?_ AllB.nil)
   refine vm69 ?_
   refine WA_branch (rs := [9]) vm175 rfl (AllB.cons ?_ AllB.nil)
   refine WB_run [0, 1, 2, 3, 4, 6, 8] rfl rfl (WX_gh (Gh.forget (id := 7) (k := 3) rfl rfl) <| WX_gh (Gh.keep [0, 1, 2, 3, 4, 5, 6, 7, 8, 9] rfl) <| WX_ren (tx := 47) 11 rfl rfl rfl rfl rfl <| WX_append G vm181 rfl rfl rfl rfl rfl rfl rfl rfl rfl vm179 rfl rfl (WL_nil ⟨rfl, ?_⟩))
   refine zsa 10 ?_
   refine WA_branch (rs := [11]) vm175 rfl (AllB.cons ?_ AllB.nil)
   refine vm69 ?_
   exact WA_end vm175 (Meet.mk rfl rfl rfl rfl)
  apply W_drawsJ [1, 2, 3, 4] [0, 1, 2, 3, 4, 7, 10, 13] 14 13 [0, 1, 2, 3, 4, 10] mixed vm175 rfl rfl (fun _ h => znk h)
  ·intro r0
   refine zsa 0 ?_
   refine zsa 2 ?_
   refine zsa 3 ?_
   refine vm61 ?_
   refine WA_take 6 rfl vm175 vm175 rfl rfl rfl rfl (q_field_eptN G rfl rfl rfl rfl) (WA_take 7 rfl vm175 vm175 rfl rfl rfl rfl (q_load_eptN G rfl rfl rfl rfl) (WA_branch (rs := [1, 8]) vm175 rfl (AllB.cons ?_ (AllB.cons ?_ AllB.nil))))
   ·refine vm47 ?_
    refine WA_branch (rs := [8]) vm175 rfl (AllB.cons ?_ AllB.nil)
    refine WB_rn [0, 1, 2, 3, 4, 10] rfl rfl (WX_call 12 rfl rfl rfl (ArgsOK.of rfl) (c_spec_l1Own _ (by omega)) rfl rfl (WL_nil ⟨rfl, ?_⟩))
    refine WA_branch (rs := [9]) vm175 rfl (AllB.cons ?_ AllB.nil)
    refine WB_rn [0, 1, 2, 3, 4, 10] rfl rfl (WX_lit_nest G 13 rfl rfl rfl rfl rfl rfl rfl rfl (.own rfl .nil) rfl rfl rfl rfl (WL_nil ⟨rfl, ?_⟩))
    refine WA_branch (rs := [10]) vm175 rfl (AllB.cons ?_ AllB.nil)
    refine WB_run [0, 1, 2, 3, 4, 10] rfl rfl (WX_gh (Gh.forget (id := 7) (k := 4) rfl rfl) <| WX_gh (Gh.keep [0, 1, 2, 3, 4, 6, 7, 10, 12] rfl) <| WX_ren (tx := 58) 14 rfl rfl rfl rfl rfl <| WX_append_nest G vm181 rfl rfl rfl rfl rfl rfl rfl rfl rfl rfl vm179 rfl rfl (WL_nil ⟨rfl, ?_⟩))
    refine zsa 11 ?_
    refine WA_branch (rs := [12]) vm175 rfl (AllB.cons ?_ AllB.nil)
    refine vm47 ?_
    exact WA_end vm175 (Meet.mk rfl rfl rfl rfl)
   refine WB_rn [0, 1, 2, 3, 4, 10] rfl rfl (WX_call 12 rfl rfl rfl (ArgsOK.of rfl) (c_spec_l1Own _ (by omega)) rfl rfl (WL_nil ⟨rfl, ?_⟩))
   refine WA_branch (rs := [1, 9]) vm175 rfl (AllB.cons ?_ (AllB.cons ?_ AllB.nil))
   ·refine vm47 ?_
    refine WA_branch (rs := [9]) vm175 rfl (AllB.cons ?_ AllB.nil)
    refine WB_rn [0, 1, 2, 3, 4, 10] rfl rfl (WX_lit_nest G 13 rfl rfl rfl rfl rfl rfl rfl rfl (.own rfl .nil) rfl rfl rfl rfl (WL_nil ⟨rfl, ?_⟩))
    refine WA_branch (rs := [10]) vm175 rfl (AllB.cons ?_ AllB.nil)
    refine WB_run [0, 1, 2, 3, 4, 10] rfl rfl (WX_gh (Gh.forget (id := 7) (k := 4) rfl rfl) <| WX_gh (Gh.keep [0, 1, 2, 3, 4, 6, 7, 10, 12] rfl) <| WX_ren (tx := 58) 14 rfl rfl rfl rfl rfl <| WX_append_nest G vm181 rfl rfl rfl rfl rfl rfl rfl rfl rfl rfl vm179 rfl rfl (WL_nil ⟨rfl, ?_⟩))
    refine zsa 11 ?_
    refine WA_branch (rs := [12]) vm175 rfl (AllB.cons ?_ AllB.nil)
    refine vm47 ?_
    exact WA_end vm175 (Meet.mk rfl rfl rfl rfl)
   refine WB_rn [0, 1, 2, 3, 4, 10] rfl rfl (WX_lit_nest G 13 rfl rfl rfl rfl rfl rfl rfl rfl (.own rfl .nil) rfl rfl rfl rfl (WL_nil ⟨rfl, ?_⟩))
   refine WA_branch (rs := [1]) vm175 rfl (AllB.cons ?_ AllB.nil)
   refine vm47 ?_
   refine WA_branch (rs := [10]) vm175 rfl (AllB.cons ?_ AllB.nil)
   refine WB_run [0, 1, 2, 3, 4, 10] rfl rfl (WX_gh (Gh.forget (id := 7) (k := 4) rfl rfl) <| WX_gh (Gh.keep [0, 1, 2, 3, 4, 6, 7, 10, 12] rfl) <| WX_ren (tx := 58) 14 rfl rfl rfl rfl rfl <| WX_append_nest G vm181 rfl rfl rfl rfl rfl rfl rfl rfl rfl rfl vm179 rfl rfl (WL_nil ⟨rfl, ?_⟩))
   refine zsa 11 ?_
   refine WA_branch (rs := [12]) vm175 rfl (AllB.cons ?_ AllB.nil)
   refine vm47 ?_
   exact WA_end vm175 (Meet.mk rfl rfl rfl rfl)
  refine vm41 ?_
  refine WL_gh (Gh.sub 10 5 np rfl rfl rfl) (WL_gh (Gh.sub 13 6 np rfl rfl rfl) (WL_nil ⟨(k + 1), ?_, ?_, ⟨⟨_, rfl, by rfl⟩, rfl, trivial⟩, ⟨⟨_, rfl, by (first | rfl | (exact congrArg (fun z => Row.row _ _ z) (take_ma (by omega))) | (exact congrArg (fun z => Row.nest _ _ z []) (take_st (by omega) rfl)) | (exact congrArg (fun z => Row.row _ _ z) vm195) | (obtain rfl : i = (pndI (m.cp.getD k default).qu).length := (by omega); rfl))⟩, rfl, rfl, ⟨⟨_, rfl, by (first | rfl | (exact congrArg (fun z => Row.row _ _ z) (take_ma (by omega))) | (exact congrArg (fun z => Row.nest _ _ z []) (take_st (by omega) rfl)) | (exact congrArg (fun z => Row.row _ _ z) vm195) | (obtain rfl : i = (pndI (m.cp.getD k default).qu).length := (by omega); rfl))⟩, rfl, rfl, ⟨⟨_, rfl, by (first | rfl | (exact congrArg (fun z => Row.row _ _ z) (take_ma (by omega))) | (exact congrArg (fun z => Row.nest _ _ z []) (take_st (by omega) rfl)) | (exact congrArg (fun z => Row.row _ _ z) vm195) | (obtain rfl : i = (pndI (m.cp.getD k default).qu).length := (by omega); rfl))⟩, rfl, rfl, trivial⟩⟩⟩, rfl, rfl, rfl⟩))
  ·omega
  omega
 refine zgo ?_
 refine W_ret (fin_shp rfl rfl rfl rfl (rcs_cons (rc_own rfl ?_) (rcs_cons (rc_own rfl ?_) (rcs_cons (rc_own rfl ?_) (rcs_cons (rc_own rfl ?_) (rcs_cons (rc_ne rfl ?_) rcs_nil))))))
 all_goals exact vm153
set_option maxHeartbeats 4000000 in
theorem c_slices_Equal_bool_bool (l r : List Bool) (hl : l.length ≤ 1048576) (hr : r.length ≤ 1048576) : Ctr Tryz.prog 161 [.lst 1 (l.map encO), .lst 1 (r.map encO)] (.one (.v (.bool (decide (l = r))))) := by
 refine Ctr.of (n := 26) G Tryz.func161 rfl vm175 rfl rfl rfl (fun w0 => ?_)
 refine zcd (fun h1 => ?_) (fun h1 => ?_)
 ·refine zf1 ?_
  all_goals exact vm113
 refine zgo ?_
 refine W_loopK [0, 1, 12] [] (fun (i : Nat) => [(13, .v (.int .i64 (i : Int)))]) (fun (i : Nat) => []) (fun (i : Nat) => i ≤ l.length ∧ ∀ j, j < i → l.getD j default = r.getD j default) (fun (i : Nat) => l.length - i) 0 rfl rfl ?_ ?_ ?_ ?_
 ·exact ⟨Nat.zero_le _, fun j hj => by omega⟩
 ·exact ⟨⟨_, rfl, by (first | rfl | (simp; done) | (simp; omega))⟩, rfl, trivial⟩
 ·exact trivial
 intro i hinv
 simp only [List.cons_append, List.nil_append]
 refine zcd (fun h2 => ?_) (fun h2 => ?_)
 ·refine zgd ?_
  refine zgo ?_
  refine QL_cons rfl ?_
  refine vm86 ?_
  refine zcd (fun h3 => ?_) (fun h3 => ?_)
  ·refine zf1 ?_
   all_goals exact vm113
  refine zgo ?_
  refine ⟨(i + 1), ?_, ?_, ⟨⟨_, rfl, by rfl⟩, rfl, trivial⟩, trivial, rfl, rfl, rfl⟩
  ·exact ⟨by omega, upto_succ hinv.2 vm216⟩
  omega
 refine zf1 ?_
 all_goals exact vm113
set_option maxHeartbeats 4000000 in
theorem c_spec_l1Same (l r : List Int) (hl : l.length ≤ 1048576) (hr : r.length ≤ 1048576) : Ctr Tryz.prog 157 [.lst 1 (l.map Rf.encI), .lst 1 (r.map Rf.encI)] (.one (.v (.bool (decide (l = r))))) := by
 refine Ctr.of (n := 26) G Tryz.func157 rfl vm175 rfl rfl rfl (fun w0 => ?_)
 refine zcd (fun h1 => ?_) (fun h1 => ?_)
 ·refine zf1 ?_
  all_goals exact vm113
 refine zgo ?_
 refine W_loopK [0, 1] [] (fun (i : Nat) => [(5, .v (.int .i64 (i : Int)))]) (fun (i : Nat) => []) (fun (i : Nat) => i ≤ l.length ∧ ∀ j, j < i → l.getD j default = r.getD j default) (fun (i : Nat) => l.length - i) 0 rfl rfl ?_ ?_ ?_ ?_
 ·exact ⟨Nat.zero_le _, fun j hj => by omega⟩
 ·exact ⟨⟨_, rfl, by (first | rfl | (simp; done) | (simp; omega))⟩, rfl, trivial⟩
 ·exact trivial
 intro i hinv
 simp only [List.cons_append, List.nil_append]
 refine zcd (fun h2 => ?_) (fun h2 => ?_)
 ·refine zgd ?_
  refine zcd (fun h3 => ?_) (fun h3 => ?_)
  ·refine zf1 ?_
   all_goals exact vm113
  refine zgo ?_
  refine ⟨(i + 1), ?_, ?_, ⟨⟨_, rfl, by rfl⟩, rfl, trivial⟩, trivial, rfl, rfl, rfl⟩
  ·exact ⟨by omega, upto_succ hinv.2 vm216⟩
  omega
 refine zf1 ?_
 all_goals exact vm113
set_option maxHeartbeats 4000000 in
theorem c_slices_EqualFunc_int_int_int_int (xs ys : List (List Int)) (f : Nat) (hl : xs.length ≤ 1048576) (hr : ys.length ≤ 1048576) (hf : ∀ i, i < xs.length → Ctr Tryz.prog f [.lst 1 ((xs.getD i default).map Rf.encI), .lst 1 ((ys.getD i default).map Rf.encI)] (.one (.v (.bool (decide (xs.getD i default = ys.getD i default)))))) : Ctr Tryz.prog 163 [.nst none 1 (xs.map encSt), .nst none 1 (ys.map encSt), .fnc f []] (.one (.v (.bool (decide (xs = ys))))) := by
 refine Ctr.of (n := 32) G Tryz.func163 rfl vm175 rfl rfl rfl (fun w0 => ?_)
 refine zcd (fun h1 => ?_) (fun h1 => ?_)
 ·refine zf1 ?_
  all_goals exact vm154
 refine zgo ?_
 refine W_loopK [1, 2, 15, 16] [] (fun (i : Nat) => [(17, .v (.int .i64 (i : Int)))]) (fun (i : Nat) => []) (fun (i : Nat) => i ≤ xs.length ∧ ∀ j, j < i → xs.getD j default = ys.getD j default) (fun (i : Nat) => xs.length - i) 0 rfl rfl ?_ ?_ ?_ ?_
 ·exact ⟨Nat.zero_le _, fun j hj => by omega⟩
 ·exact ⟨⟨_, rfl, by (first | rfl | (simp; done) | (simp; omega))⟩, rfl, trivial⟩
 ·exact trivial
 intro i hinv
 simp only [List.cons_append, List.nil_append]
 refine zcd (fun h2 => ?_) (fun h2 => ?_)
 ·refine vm52 ?_
  refine vm58 ?_
  refine vm52 ?_
  refine vm58 ?_
  refine vm39 ?_
  refine zcd (fun h3 => ?_) (fun h3 => ?_)
  ·refine zf1 ?_
   all_goals exact vm154
  refine zgo ?_
  refine ⟨(i + 1), ?_, ?_, ⟨⟨_, rfl, by rfl⟩, rfl, trivial⟩, trivial, rfl, rfl, rfl⟩
  ·exact ⟨by omega, upto_succ hinv.2 vm216⟩
  omega
 refine zf1 ?_
 all_goals exact vm154
set_option maxHeartbeats 4000000 in
theorem c_impl_sameAbstracts (rs : List Route) (a b : Abs) (hA : AbsF rs a) (hB : AbsF rs b) : Ctr Tryz.prog 108 [.agg [.lst 1 (a.en.map encO), .lst 1 (a.ra.map encO), .lst 1 (a.po.map encO), .lst 1 (a.ma.map Rf.encI), .nst none 1 (a.st.map encSt)], .agg [.lst 1 (b.en.map encO), .lst 1 (b.ra.map encO), .lst 1 (b.po.map encO), .lst 1 (b.ma.map Rf.encI), .nst none 1 (b.st.map encSt)]] (.one (.v (.bool (eqAb a b)))) := by
 have a0 := hA.n
 have b0 := hB.n
 have a1 := hA.st
 have b1 := hB.st
 have a2 := hA.en
 have b2 := hB.en
 have a3 := hA.ra
 have b3 := hB.ra
 have a4 := hA.po
 have b4 := hB.po
 refine Ctr.of (n := 38) G Tryz.func108 rfl vm175 rfl rfl rfl (fun w0 => ?_)
 refine W_pinS 0 rfl (fun _ => rfl) (fun u0 => ?_)
 refine W_pinS 1 rfl (fun _ => rfl) (fun u1 => ?_)
 refine vm26 ?_
 refine zcl (c_slices_Equal_bool_bool a.en b.en (by omega) (by omega)) ?_
 refine zcd (fun h1 => ?_) (fun h1 => ?_)
 ·refine zcl (c_slices_Equal_bool_bool a.ra b.ra (by omega) (by omega)) ?_
  refine zcd (fun h2 => ?_) (fun h2 => ?_)
  ·refine zcl (c_slices_Equal_bool_bool a.po b.po (by omega) (by omega)) ?_
   refine zcd (fun h3 => ?_) (fun h3 => ?_)
   ·refine zcl (c_slices_Equal_int_int a.ma b.ma (by omega) (by omega)) ?_
    refine zcd (fun h4 => ?_) (fun h4 => ?_)
    ·refine zcl (Ctr.argsTo (c_slices_EqualFunc_int_int_int_int a.st b.st 162 (by omega) (by omega) (fun i hi => c_slices_Equal_int_int _ _ (hA.slen i) (hB.slen i))) (fun w vs h => argFn3 vs h)) ?_
     refine zf1 ?_
     all_goals exact vm132
    refine zf1 ?_
    all_goals exact vm132
   refine zf1 ?_
   all_goals exact vm132
  refine zf1 ?_
  all_goals exact vm132
 refine zf1 ?_
 all_goals exact vm132
set_option maxHeartbeats 4000000 in
theorem c_spec_l25Same (rs : List Route) (a b : Abs) (hA : AbsF rs a) (hB : AbsF rs b) : Ctr Tryz.prog 103 [.agg [.lst 1 (a.en.map encO), .lst 1 (a.ra.map encO), .lst 1 (a.po.map encO), .lst 1 (a.ma.map Rf.encI), .nst none 1 (a.st.map encSt)], .agg [.lst 1 (b.en.map encO), .lst 1 (b.ra.map encO), .lst 1 (b.po.map encO), .lst 1 (b.ma.map Rf.encI), .nst none 1 (b.st.map encSt)]] (.one (.v (.bool (eqAb a b)))) := by
 have a0 := hA.n
 have b0 := hB.n
 have a1 := hA.st
 have b1 := hB.st
 have a2 := hA.en
 have b2 := hB.en
 have a3 := hA.ra
 have b3 := hB.ra
 have a4 := hA.po
 have b4 := hB.po
 refine Ctr.of (n := 87) G Tryz.func103 rfl vm175 rfl rfl rfl (fun w0 => ?_)
 refine W_pinS 0 rfl (fun _ => rfl) (fun u0 => ?_)
 refine W_pinS 1 rfl (fun _ => rfl) (fun u1 => ?_)
 refine vm26 ?_
 refine zcd (fun h1 => ?_) (fun h1 => ?_)
 ·refine zf1 ?_
  all_goals exact vm120
 refine zgo ?_
 refine W_loopK [2, 3] [0, 1] (fun (i : Nat) => [(5, .v (.int .i64 (i : Int)))]) (fun (i : Nat) => []) (fun (i : Nat) => i ≤ 8 ∧ ∀ j, j < i → (a.en.getD j default = b.en.getD j default ∧ a.ra.getD j default = b.ra.getD j default ∧ a.po.getD j default = b.po.getD j default)) (fun (i : Nat) => 8 - i) 0 rfl rfl ?_ ?_ ?_ ?_
 ·exact ⟨Nat.zero_le _, fun j hj => by omega⟩
 ·exact ⟨⟨_, rfl, by (first | rfl | (simp; done) | (simp; omega))⟩, rfl, trivial⟩
 ·exact trivial
 intro i hi
 simp only [List.cons_append, List.nil_append]
 refine zcd (fun h2 => ?_) (fun h2 => ?_)
 ·refine zgd ?_
  refine zgo ?_
  refine QL_cons rfl ?_
  refine vm86 ?_
  refine zcd (fun h3 => ?_) (fun h3 => ?_)
  ·refine zwt ?_
   refine zf1 ?_
   all_goals exact vm120
  refine zgo ?_
  refine vm94 ?_
  refine vm86 ?_
  refine zcd (fun h4 => ?_) (fun h4 => ?_)
  ·refine zwt ?_
   refine zf1 ?_
   all_goals exact vm120
  refine zgo ?_
  refine vm94 ?_
  refine vm86 ?_
  refine zcd (fun h5 => ?_) (fun h5 => ?_)
  ·refine zf1 ?_
   all_goals exact vm120
  refine zgo ?_
  refine ⟨(i + 1), ?_, ?_, ⟨⟨_, rfl, by rfl⟩, rfl, trivial⟩, trivial, rfl, rfl, rfl⟩
  ·exact ⟨by omega, upto_succ (p := fun j => a.en.getD j default = b.en.getD j default ∧ a.ra.getD j default = b.ra.getD j default ∧ a.po.getD j default = b.po.getD j default) hi.2 ⟨by first | assumption | (simp_all; done), by first | assumption | (simp_all; done), by first | assumption | (simp_all; done)⟩⟩
  omega
 refine zgo ?_
 refine W_loopK [2, 3] [0, 1] (fun (k : Nat) => [(6, .v (.int .i64 (k : Int)))]) (fun (k : Nat) => []) (fun (k : Nat) => k ≤ a.ma.length ∧ ∀ j, j < k → (a.ma.getD j default = b.ma.getD j default ∧ a.st.getD j default = b.st.getD j default)) (fun (k : Nat) => a.ma.length - k) 0 rfl rfl ?_ ?_ ?_ ?_
 ·exact ⟨Nat.zero_le _, fun j hj => by omega⟩
 ·exact ⟨⟨_, rfl, by (first | rfl | (simp; done) | (simp; omega))⟩, rfl, trivial⟩
 ·exact trivial
 intro k hk
 simp only [List.cons_append, List.nil_append]
 refine zcd (fun h6 => ?_) (fun h6 => ?_)
 ·refine zgd ?_
  refine zcd (fun h7 => ?_) (fun h7 => ?_)
  ·refine zwt ?_
   refine zf1 ?_
   all_goals exact vm120
  refine zgo ?_
  refine vm73 ?_
  refine zgo ?_
  refine vm73 ?_
  refine zcl (c_spec_l1Same (a.st.getD k default) (b.st.getD k default) (by have := hA.len k (by omega); omega) (by have := hB.len k (by omega); omega)) ?_
  refine zcd (fun h8 => ?_) (fun h8 => ?_)
  ·refine zf1 ?_
   all_goals exact vm120
  refine zgo ?_
  refine ⟨(k + 1), ?_, ?_, ⟨⟨_, rfl, by rfl⟩, rfl, trivial⟩, trivial, rfl, rfl, rfl⟩
  ·exact ⟨by omega, upto_succ (p := fun j => a.ma.getD j default = b.ma.getD j default ∧ a.st.getD j default = b.st.getD j default) hk.2 ⟨by first | assumption | (simp_all; done), by first | assumption | (simp_all; done)⟩⟩
  omega
 refine zf1 ?_
 all_goals exact vm120
set_option maxHeartbeats 4000000 in
theorem c_impl_Machine_hasCpu_m (m : Mach) (c : Int) (hn : m.cp.length ≤ 1048576) : Ctr Tryz.prog 158 [.agg [.lst 2 (m.rs.map encRo), .lst 1 (m.en.map encO), .lst 1 (m.ra.map encO), .nst none 4 (m.cp.map (encIf 154 183))], .v (.int .i64 c)] (.one (.v (.bool (inside c 0 ((m.cp.length : Int) - 1))))) := by
 refine Ctr.of (n := 11) G Tryz.func158 rfl vm175 rfl rfl rfl (fun w0 => ?_)
 refine W_pinS 0 rfl (fun _ => rfl) (fun u0 => ?_)
 refine vm1 ?_
 refine vm97 ?_
 refine zf1 ?_
 all_goals exact vm111
set_option maxHeartbeats 4000000 in
theorem c_impl_isMachStep_m (m : Mach) (s : MStep) (hn : m.cp.length ≤ 1048576) : Ctr Tryz.prog 106 [.agg [.lst 2 (m.rs.map encRo), .lst 1 (m.en.map encO), .lst 1 (m.ra.map encO), .nst none 4 (m.cp.map (encIf 154 183))], .v (encMs s)] (.one (.v (.bool (stepV m.cp.length s)))) := by
 refine Ctr.of (n := 75) G Tryz.func106 rfl vm175 rfl rfl rfl (fun w0 => ?_)
 refine W_pinS 0 rfl (fun _ => rfl) (fun u0 => ?_)
 refine vm26 ?_
 refine zcd (fun h1 => ?_) (fun h1 => ?_)
 ·refine zcl (c_impl_isIrq _) ?_
  refine zcd (fun h2 => ?_) (fun h2 => ?_)
  ·refine zcd (fun h3 => ?_) (fun h3 => ?_)
   ·refine zf1 ?_
    all_goals exact vm106
   refine zf1 ?_
   all_goals exact vm106
  refine zf1 ?_
  all_goals exact vm106
 refine zcd (fun h4 => ?_) (fun h4 => ?_)
 ·refine vm52 ?_
  refine WX_q rfl rfl (q_eqs [.int .i64, .int .i64, .int .i64, .int .i64] rfl rfl rfl rfl rfl rfl rfl (.inl rfl) (.inl rfl) eqT40_implabstractOfg ⟨_, _, rfl, ⟨_, rfl⟩, _, _, rfl, ⟨_, rfl⟩, _, _, rfl, ⟨_, rfl⟩, _, _, rfl, ⟨_, rfl⟩, rfl⟩ ⟨_, _, rfl, ⟨_, rfl⟩, _, _, rfl, ⟨_, rfl⟩, _, _, rfl, ⟨_, rfl⟩, _, _, rfl, ⟨_, rfl⟩, rfl⟩) ?_
  refine zf1 ?_
  all_goals exact vm106
 refine zcd (fun h5 => ?_) (fun h5 => ?_)
 ·refine zwt ?_
  refine zcd (fun h6 => ?_) (fun h6 => ?_)
  ·refine zcl (c_impl_Machine_hasCpu_m m s.c hn) ?_
   refine zcd (fun h7 => ?_) (fun h7 => ?_)
   ·refine zf1 ?_
    all_goals exact vm106
   refine zf1 ?_
   all_goals exact vm106
  refine zf1 ?_
  all_goals exact vm106
 refine zcd (fun h8 => ?_) (fun h8 => ?_)
 ·refine zcd (fun h9 => ?_) (fun h9 => ?_)
  ·refine zcl (c_impl_Machine_hasCpu_m m s.c hn) ?_
   refine zcd (fun h10 => ?_) (fun h10 => ?_)
   ·refine zf1 ?_
    all_goals exact vm106
   refine zf1 ?_
   all_goals exact vm106
  refine zf1 ?_
  all_goals exact vm106
 refine zcd (fun h11 => ?_) (fun h11 => ?_)
 ·refine zcd (fun h12 => ?_) (fun h12 => ?_)
  ·refine zcl (c_impl_Machine_hasCpu_m m s.c hn) ?_
   refine zcd (fun h13 => ?_) (fun h13 => ?_)
   ·refine zcl (c_impl_isMask _) ?_
    refine zf1 ?_
    all_goals exact vm106
   refine zf1 ?_
   all_goals exact vm106
  refine zf1 ?_
  all_goals exact vm106
 refine zcd (fun h14 => ?_) (fun h14 => ?_)
 ·refine zcl (c_impl_isIrq _) ?_
  refine zcd (fun h15 => ?_) (fun h15 => ?_)
  ·refine zcd (fun h16 => ?_) (fun h16 => ?_)
   ·refine vm97 ?_
    refine zf1 ?_
    all_goals exact vm106
   refine zf1 ?_
   all_goals exact vm106
  refine zf1 ?_
  all_goals exact vm106
 refine zf1 ?_
 all_goals exact vm106
set_option maxHeartbeats 4000000 in
theorem c_impl_AgreeOn_1 (x : MStep) (m : Mach) (hn : m.cp.length ≤ 1048576) : Ctr Tryz.prog 105 [.v (encMs x), .eptN [.lst 2 (m.rs.map encRo), .lst 1 (m.en.map encO), .lst 1 (m.ra.map encO), .nst none 4 (m.cp.map (encIf 154 183))]] (.one (.v (.bool (!stepV m.cp.length x)))) := by
 refine Ctr.of (n := 8) G Tryz.func105 rfl vm175 rfl rfl rfl (fun w0 => ?_)
 refine vm1 ?_
 refine zcl (c_impl_isMachStep_m m x hn) ?_
 refine zf1 ?_
 all_goals exact vm131
set_option maxHeartbeats 4000000 in
theorem c_slices_IndexFunc_impl_MachStep_impl_MachStep_m (xs : List MStep) (f : Nat) (m : Mach) (p : MStep → Bool) (hl : xs.length ≤ 1048576) (hf : ∀ i, i < xs.length → Ctr Tryz.prog f [.v (encMs (xs.getD i default)), .eptN [.lst 2 (m.rs.map encRo), .lst 1 (m.en.map encO), .lst 1 (m.ra.map encO), .nst none 4 (m.cp.map (encIf 154 183))]] (.one (.v (.bool (p (xs.getD i default)))))) : Ctr Tryz.prog 127 [.lst 4 (xs.map encMc), .fnc f [.eptN [.lst 2 (m.rs.map encRo), .lst 1 (m.en.map encO), .lst 1 (m.ra.map encO), .nst none 4 (m.cp.map (encIf 154 183))]]] (.one (.v (.int .i64 (idxN (fun i => p (xs.getD i default)) xs.length)))) := by
 refine Ctr.of (n := 19) G Tryz.func127 rfl vm175 rfl rfl rfl (fun w0 => ?_)
 refine zgo ?_
 refine W_loopK [0, 1, 7] [] (fun (i : Nat) => [(8, .v (.int .i64 (i : Int)))]) (fun (i : Nat) => []) (fun (i : Nat) => i ≤ xs.length ∧ ∀ j, j < i → p (xs.getD j default) = false) (fun (i : Nat) => xs.length - i) 0 rfl rfl ?_ ?_ ?_ ?_
 ·exact ⟨Nat.zero_le _, fun j hj => by omega⟩
 ·exact ⟨⟨_, rfl, by (first | rfl | (simp; done) | (simp; omega))⟩, rfl, trivial⟩
 ·exact trivial
 intro i hinv
 simp only [List.cons_append, List.nil_append]
 refine zcd (fun h1 => ?_) (fun h1 => ?_)
 ·refine vm39 ?_
  refine zcd (fun h2 => ?_) (fun h2 => ?_)
  ·refine zf1 ?_
   all_goals exact vm109
  refine zgo ?_
  refine ⟨(i + 1), ?_, ?_, ⟨⟨_, rfl, by rfl⟩, rfl, trivial⟩, trivial, rfl, rfl, rfl⟩
  ·exact ⟨by omega, upto_succ hinv.2 vm177⟩
  omega
 refine zf1 ?_
 all_goals exact vm109
set_option maxHeartbeats 4000000 in
theorem c_slices_ContainsFunc_impl_MachStep_impl_MachStep_m (xs : List MStep) (f : Nat) (m : Mach) (p : MStep → Bool) (hl : xs.length ≤ 1048576) (hf : ∀ i, i < xs.length → Ctr Tryz.prog f [.v (encMs (xs.getD i default)), .eptN [.lst 2 (m.rs.map encRo), .lst 1 (m.en.map encO), .lst 1 (m.ra.map encO), .nst none 4 (m.cp.map (encIf 154 183))]] (.one (.v (.bool (p (xs.getD i default)))))) : Ctr Tryz.prog 53 [.lst 4 (xs.map encMc), .fnc f [.eptN [.lst 2 (m.rs.map encRo), .lst 1 (m.en.map encO), .lst 1 (m.ra.map encO), .nst none 4 (m.cp.map (encIf 154 183))]]] (.one (.v (.bool (anyN xs.length (fun i => p (xs.getD i default)))))) := by
 refine Ctr.of (n := 9) G Tryz.func53 rfl vm175 rfl rfl rfl (fun w0 => ?_)
 refine zcl (c_slices_IndexFunc_impl_MachStep_impl_MachStep_m xs f m p hl hf) ?_
 refine zf1 ?_
 all_goals (rw [idx_any])
end Go.Proofs.YtcnodpipinlpcaaGreat
set_option maxRecDepth 20000
set_option linter.unusedVariables false
set_option linter.unusedSimpArgs false
namespace Go.Proofs.YtcnodpipinlpcaaGreat
open Go Go.Rf
set_option maxHeartbeats 4000000 in
theorem c_impl_endSlot (sl : List Slot) (irq : Int) (hF : SlF sl) (h0 : 0 ≤ fndS sl irq) (ha : actP (sl.getD (fndS sl irq).toNat default) = true) : Ctr Tryz.prog 240 [.lst 3 (sl.map encSl), .v (.int .i64 irq)] (.many [.fr 154 3 ((edS sl irq).map encSl), .v (.bool true)]) := by
 have hl4 := hF.len
 have hf := @fnd_bd sl irq
 have haa := actP_iff.mp ha
 refine Ctr.of (n := 39) G Tryz.func240 rfl vm175 rfl rfl rfl (fun w0 => ?_)
 refine zcl (c_impl_findSlot sl irq (by omega)) ?_
 refine zcd (fun h1 => ?_) (fun h1 => ?_)
 ·first | (exfalso; omega) | (exfalso; simp_all; done)
 refine zcl (c_impl_isActive _) ?_
 refine zcd (fun h2 => ?_) (fun h2 => ?_)
 ·first | (exfalso; omega) | (exfalso; simp_all; done)
 refine vm37 ?_
 refine zcd (fun h3 => ?_) (fun h3 => ?_)
 ·refine vm50 ?_
  refine W_ret (fin_many rfl rfl rfl rfl (rcs_cons (rc_own rfl ?_) (rcs_cons (rc_v ?_) rcs_nil)))
  all_goals exact vm141
 refine vm50 ?_
 refine W_ret (fin_many rfl rfl rfl rfl (rcs_cons (rc_own rfl ?_) (rcs_cons (rc_v ?_) rcs_nil)))
 all_goals exact vm141
set_option maxHeartbeats 4000000 in
theorem c_spec_l8End (sl : List Slot) (irq : Int) (hF : SlF sl) (h0 : 0 ≤ fndS sl irq) (ha : actP (sl.getD (fndS sl irq).toNat default) = true) : Ctr Tryz.prog 239 [.lst 3 (sl.map encSl), .v (.int .i64 irq)] (.many [.fr 154 3 ((edS sl irq).map encSl), .v (.bool true)]) := by
 have hl4 := hF.len
 have hf := @fnd_bd sl irq
 have haa := actP_iff.mp ha
 refine Ctr.of (n := 41) G Tryz.func239 rfl vm175 rfl rfl rfl (fun w0 => ?_)
 refine zcl (c_spec_l8Find sl irq (by omega)) ?_
 refine zcd (fun h1 => ?_) (fun h1 => ?_)
 ·first | (exfalso; omega) | (exfalso; simp_all; done)
 refine zcd (fun h2 => ?_) (fun h2 => ?_)
 ·first | (exfalso; omega) | (exfalso; simp_all; done)
 refine zcd (fun h3 => ?_) (fun h3 => ?_)
 ·refine vm52 ?_
  refine WX_call 1 rfl rfl rfl (ArgsOK.of rfl) (c_spec_l8With sl _ ⟨_, _, _⟩ (by omega) (by omega)) rfl rfl ?_
  refine zgo ?_
  refine W_ret (fin_many rfl rfl rfl rfl (rcs_cons (rc_own rfl ?_) (rcs_cons (rc_v ?_) rcs_nil)))
  all_goals exact vm141
 refine vm37 ?_
 refine vm75 ?_
 refine W_ret (fin_many rfl rfl rfl rfl (rcs_cons (rc_own rfl ?_) (rcs_cons (rc_v ?_) rcs_nil)))
 all_goals exact vm141
theorem c_impl_endQueue (q : Que) (irq : Int) (hF : QF q) (h0 : 0 ≤ fndS q.sl irq) (ha : actP (q.sl.getD (fndS q.sl irq).toNat default) = true) : Ctr Tryz.prog 204 [.agg [.lst 3 (q.sl.map encSl), .lst 2 (q.wa.map encWa)], .v (.int .i64 irq)] (.shp false [some 2, none] [.fr 154 3 ((endQ q irq).sl.map encSl), .fr 183 2 ((endQ q irq).wa.map encWa) true, .v (.bool true)]) := by
 have hl4 := hF.sl.len
 have hwn := hF.wn
 have hQ := endQ_F0 hF h0
 refine Ctr.of (n := 23) G Tryz.func204 rfl vm175 rfl rfl rfl (fun w0 => ?_)
 refine W_pinS 0 rfl (fun _ => rfl) (fun u0 => ?_)
 refine W_seq (fun K1 hK1 => ?_)
 refine vm38 ?_
 refine vm12 ?_
 refine vm7 ?_
 refine WX_q rfl rfl (q_assign rfl rfl) (WL_nil (hK1 _ ?_))
 clear hK1 K1
 refine W_seq (fun K2 hK2 => ?_)
 refine vm29 ?_
 refine WX_call 3 rfl rfl rfl (ArgsOK.of rfl) (c_impl_endSlot q.sl irq hF.sl h0 ha) rfl rfl ?_
 refine vm7 ?_
 refine vm45 ?_
 refine hK2 _ ?_
 clear hK2 K2
 refine W_seq (fun K3 hK3 => ?_)
 refine W_seq (fun K4 hK4 => ?_)
 refine W_region ?_
 refine vm7 ?_
 refine WX_q rfl rfl (q_move rfl rfl) ?_
 refine vm7 ?_
 refine WX_q rfl rfl (q_not rfl rfl) (WL_nil (hK4 _ ?_))
 clear hK4 K4
 refine W_cond rfl (fun h1 => ?_) (fun h1 => ?_)
 ·try rw [h1]
  try simp only [rfb] at h1
  refine W_seq (fun K5 hK5 => ?_)
  refine W_region ?_
  refine vm7 ?_
  refine WX_q rfl rfl (q_build G rfl rfl rfl rfl) ?_
  refine vm59 ?_
  refine hK5 _ ?_
  clear hK5 K5
  refine W_ret (fin_shp rfl rfl rfl rfl (rcs_cons (rc_nil ?_) (rcs_cons (rc_nil ?_) (rcs_cons (rc_v ?_) rcs_nil))))
  all_goals clear hK3 K3
  all_goals exact vm142
 ·try rw [h1]
  try simp only [rfb] at h1
  refine W_skip (hK3 _ ?_)
  clear hK3 K3
  refine W_seq (fun K6 hK6 => ?_)
  refine vm44 ?_
  refine WX_call 5 rfl rfl rfl (ArgsOK.of rfl) (c_impl_settled _ hQ) rfl rfl ?_
  refine vm59 ?_
  refine hK6 _ ?_
  clear hK6 K6
  refine W_ret (fin_shp rfl rfl rfl rfl (rcs_cons (rc_own rfl ?_) (rcs_cons (rc_own rfl ?_) (rcs_cons (rc_v ?_) rcs_nil))))
  all_goals exact vm142
theorem c_spec_l9End (q : Que) (irq : Int) (hF : QF q) (h0 : 0 ≤ fndS q.sl irq) (ha : actP (q.sl.getD (fndS q.sl irq).toNat default) = true) : Ctr Tryz.prog 203 [.agg [.lst 3 (q.sl.map encSl), .lst 2 (q.wa.map encWa)], .v (.int .i64 irq)] (.shp false [some 2, none] [.fr 154 3 ((endQ q irq).sl.map encSl), .fr 183 2 ((endQ q irq).wa.map encWa), .v (.bool true)]) := by
 have hl4 := hF.sl.len
 have hwn := hF.wn
 have hQ := endQ_F0 hF h0
 refine Ctr.of (n := 23) G Tryz.func203 rfl vm175 rfl rfl rfl (fun w0 => ?_)
 refine W_pinS 0 rfl (fun _ => rfl) (fun u0 => ?_)
 refine W_seq (fun K1 hK1 => ?_)
 refine vm38 ?_
 refine vm12 ?_
 refine vm7 ?_
 refine WX_q rfl rfl (q_assign rfl rfl) (WL_nil (hK1 _ ?_))
 clear hK1 K1
 refine W_seq (fun K2 hK2 => ?_)
 refine vm29 ?_
 refine WX_call 3 rfl rfl rfl (ArgsOK.of rfl) (c_spec_l8End q.sl irq hF.sl h0 ha) rfl rfl ?_
 refine vm7 ?_
 refine vm45 ?_
 refine hK2 _ ?_
 clear hK2 K2
 refine W_seq (fun K3 hK3 => ?_)
 refine W_seq (fun K4 hK4 => ?_)
 refine W_region ?_
 refine vm7 ?_
 refine WX_q rfl rfl (q_move rfl rfl) ?_
 refine vm7 ?_
 refine WX_q rfl rfl (q_not rfl rfl) (WL_nil (hK4 _ ?_))
 clear hK4 K4
 refine W_cond rfl (fun h1 => ?_) (fun h1 => ?_)
 ·try rw [h1]
  try simp only [rfb] at h1
  refine W_seq (fun K5 hK5 => ?_)
  refine W_region ?_
  refine vm7 ?_
  refine WX_q rfl rfl (q_build G rfl rfl rfl rfl) ?_
  refine vm59 ?_
  refine hK5 _ ?_
  clear hK5 K5
  refine W_ret (fin_shp rfl rfl rfl rfl (rcs_cons (rc_nil ?_) (rcs_cons (rc_nil ?_) (rcs_cons (rc_v ?_) rcs_nil))))
  all_goals clear hK3 K3
  all_goals exact vm142
 ·try rw [h1]
  try simp only [rfb] at h1
  refine W_skip (hK3 _ ?_)
  clear hK3 K3
  refine W_seq (fun K6 hK6 => ?_)
  refine vm44 ?_
  refine WX_call 5 rfl rfl rfl (ArgsOK.of rfl) (c_spec_l9Settle_n _ hQ) rfl rfl ?_
  refine vm59 ?_
  refine hK6 _ ?_
  clear hK6 K6
  refine W_ret (fin_shp rfl rfl rfl rfl (rcs_cons (rc_own rfl ?_) (rcs_cons (rc_own rfl ?_) (rcs_cons (rc_v ?_) rcs_nil))))
  all_goals exact vm142
set_option maxHeartbeats 4000000 in
theorem c_impl_leaveIrq (x : Ifc) (hG : IfG x) (hn : x.st.length ≠ 0) : Ctr Tryz.prog 160 [.agg [.v (.int .i64 x.ma), .lst 1 (x.st.map Rf.encI), .lst 3 (x.qu.sl.map encSl), .lst 2 (x.qu.wa.map encWa)]] (.shp false [some 4, none, none] [.v (.int .i64 x.ma), .fr 3 1 ((x.st.take (x.st.length - 1)).map Rf.encI), .fr 154 3 ((endQ x.qu (lastI x)).sl.map encSl), .fr 183 2 ((endQ x.qu (lastI x)).wa.map encWa) true, .v (.int .i64 (lastI x)), .v (.bool true)]) := by
 have hl4 := hG.f.qu.sl.len
 have hwn := hG.f.qu.wn
 have hsn := hG.f.sn
 obtain ⟨hla, hlb⟩ := lea_f hG hn
 have hls := lastI_sub hn
 have htn : ((x.st.length : Int) - 1).toNat = x.st.length - 1 := (by omega)
 refine Ctr.of (n := 40) G Tryz.func160 rfl vm175 rfl rfl rfl (fun w0 => ?_)
 refine W_pinS 0 rfl (fun _ => rfl) (fun u0 => ?_)
 refine vm1 ?_
 refine vm12 ?_
 refine zcd (fun h1 => ?_) (fun h1 => ?_)
 ·exfalso; omega
 refine zgn ?_
 refine W_sq (W_drawsH 14 [0, 1] mixed vm175 rfl rfl (fun r0 => ?_) (fun _ h => h))
 refine vm99 ?_
 refine WA_more (N := 3) rfl (WAV_startH (fuel := 6) [⟨11, 6, 2, true, .box (avR [.slice none 0 0, .slice none 0 0] [])⟩] (AllVOK.cons (VOK.boxS G rfl rfl rfl rfl rfl) (AllVOK.nil)) (fun hok => ?_))
 refine WAV_go [(7, [])] vm175 vm175 (fun e he => hok e he) vm175 (AllVS.cons ?_ AllVS.nil)
 refine VStep.mk0 [0, 1] rfl rfl (fun b1 _ hbn => WX_call 5 rfl rfl rfl (ArgsOK.of rfl) (c_impl_endQueue x.qu _ hG.f.qu (by rw [hls]; exact hla) (by rw [hls]; exact hlb)) rfl rfl (WL_nil rfl)) vm175 vm175 vm175 vm175 (WAV_take 8 rfl vm175 rfl rfl rfl rfl (q_move rfl rfl) vm175 vm175 vm175 (WAV_take 9 rfl vm175 rfl rfl rfl rfl (q_extract rfl rfl rfl) vm175 vm175 vm175 (WAV_take 10 rfl vm175 rfl rfl rfl rfl (q_extract rfl rfl rfl) vm175 vm175 vm175 (WAV_go [(12, [11])] vm175 vm175 (fun e he => hok e he) vm175 (AllVS.cons ?_ AllVS.nil)))))
 refine VStep.mk1 [0, 1] 6 (.ptr 2 0) 2 (.box (avR [.slice none 0 0, .slice none 0 0] [])) [] rfl rfl rfl rfl rfl (fun b1 _ hbn => WX_store G rfl rfl rfl rfl rfl rfl rfl rfl rfl rfl rfl (WL_nil rfl)) vm175 vm175 vm175 vm175 (WAV_nil ?_)
 clear hok
 refine zsa 13 ?_
 refine vm15 ?_
 refine W_sq (W_drawsH 17 [0, 2, 3, 4] mixed vm175 rfl rfl (fun r0 => ?_) (fun _ h => h))
 refine vm23 ?_
 refine zsa 4 ?_
 first | refine WA_take 5 rfl vm175 vm175 rfl rfl rfl rfl (q_cut_lst G rfl rfl rfl rfl rfl (by omega) (by omega) (by omega)) ?_ | refine WA_take 5 rfl vm175 vm175 rfl rfl rfl rfl (q_cut_lst G rfl rfl rfl rfl rfl (by omega) vm199 vm199) ?_
 refine zsa 7 ?_
 refine zsa 9 ?_
 refine zsa 10 ?_
 refine zsa 11 ?_
 refine zsa 12 ?_
 refine zsa 13 ?_
 refine WA_branch (rs := [6]) vm175 rfl (AllB.cons ?_ AllB.nil)
 refine WB_rn [0, 2, 3, 4] rfl rfl (WX_call 6 rfl rfl rfl (ArgsOK.of (congrArg some (congrArg (fun z => [AV.lst 1 z]) cut_last))) (c_impl_copyInts (x.st.take (x.st.length - 1)) (by rw [List.length_take]; omega)) rfl rfl (WL_nil ⟨rfl, ?_⟩))
 refine WA_branch (rs := [8]) vm175 rfl (AllB.cons ?_ AllB.nil)
 refine vm79 ?_
 refine WA_branch (rs := [14]) vm175 rfl (AllB.cons ?_ AllB.nil)
 refine vm79 ?_
 refine zsa 15 ?_
 refine zsa 16 ?_
 refine vm15 ?_
 refine W_ret (fin_shp rfl rfl rfl rfl (rcs_cons (rc_v ?_) (rcs_cons (rc_own rfl ?_) (rcs_cons (rc_own rfl ?_) (rcs_cons (rc_own rfl ?_) (rcs_cons (rc_v ?_) (rcs_cons (rc_v ?_) rcs_nil)))))))
 all_goals (first | rfl | (rw [hls]; done))
set_option maxHeartbeats 4000000 in
theorem c_spec_l10Leave (x : Ifc) (hG : IfG x) (hn : x.st.length ≠ 0) : Ctr Tryz.prog 156 [.agg [.v (.int .i64 x.ma), .lst 1 (x.st.map Rf.encI), .lst 3 (x.qu.sl.map encSl), .lst 2 (x.qu.wa.map encWa)]] (.shp false [some 4, none] [.v (.int .i64 x.ma), .fr 3 1 ((x.st.take (x.st.length - 1)).map Rf.encI), .fr 154 3 ((endQ x.qu (lastI x)).sl.map encSl), .fr 183 2 ((endQ x.qu (lastI x)).wa.map encWa), .v (.int .i64 (lastI x))]) := by
 have hl4 := hG.f.qu.sl.len
 have hwn := hG.f.qu.wn
 have hsn := hG.f.sn
 obtain ⟨hla, hlb⟩ := lea_f hG hn
 have hls := lastI_sub hn
 have htn : ((x.st.length : Int) - 1).toNat = x.st.length - 1 := (by omega)
 refine Ctr.of (n := 41) G Tryz.func156 rfl vm175 rfl rfl rfl (fun w0 => ?_)
 refine W_pinS 0 rfl (fun _ => rfl) (fun u0 => ?_)
 refine vm1 ?_
 refine vm12 ?_
 refine zcd (fun h1 => ?_) (fun h1 => ?_)
 ·exfalso; omega
 refine zgn ?_
 refine W_sq (W_drawsH 15 [0, 1] mixed vm175 rfl rfl (fun r0 => ?_) (fun _ h => h))
 refine vm74 ?_
 refine zsa 6 ?_
 refine zsa 7 ?_
 refine WA_more (N := 3) rfl (WAV_startH (fuel := 6) [⟨12, 5, 2, true, .box (avR [.slice none 0 0, .slice none 0 0] [])⟩] (AllVOK.cons (VOK.boxS G rfl rfl rfl rfl rfl) (AllVOK.nil)) (fun hok => ?_))
 refine WAV_go [(8, [])] vm175 vm175 (fun e he => hok e he) vm175 (AllVS.cons ?_ AllVS.nil)
 refine VStep.mk0 [0, 1] rfl rfl (fun b1 _ hbn => WX_call 5 rfl rfl rfl (ArgsOK.of rfl) (c_spec_l9End x.qu _ hG.f.qu (by rw [hls]; exact hla) (by rw [hls]; exact hlb)) rfl rfl (WL_nil rfl)) vm175 vm175 vm175 vm175 (WAV_take 9 rfl vm175 rfl rfl rfl rfl (q_move rfl rfl) vm175 vm175 vm175 (WAV_take 10 rfl vm175 rfl rfl rfl rfl (q_extract rfl rfl rfl) vm175 vm175 vm175 (WAV_take 11 rfl vm175 rfl rfl rfl rfl (q_extract rfl rfl rfl) vm175 vm175 vm175 (WAV_go [(13, [12])] vm175 vm175 (fun e he => hok e he) vm175 (AllVS.cons ?_ AllVS.nil)))))
 refine vm65 ?_
 clear hok
 refine zsa 14 ?_
 refine vm15 ?_
 refine W_sq (W_drawsH 18 [0, 2, 3, 4] mixed vm175 rfl rfl (fun r0 => ?_) (fun _ h => h))
 refine vm74 ?_
 first | refine WA_take 6 rfl vm175 vm175 rfl rfl rfl rfl (q_cut_lst G rfl rfl rfl rfl rfl (by omega) (by omega) (by omega)) ?_ | refine WA_take 6 rfl vm175 vm175 rfl rfl rfl rfl (q_cut_lst G rfl rfl rfl rfl rfl (by omega) vm199 vm199) ?_
 refine zsa 8 ?_
 refine zsa 10 ?_
 refine zsa 11 ?_
 refine zsa 12 ?_
 first | refine WA_take 13 rfl vm175 vm175 rfl rfl rfl rfl (q_arith rfl rfl rfl rfl (by omega) (by omega)) ?_ | refine WA_take 13 rfl vm175 vm175 rfl rfl rfl rfl (q_wrap rfl rfl rfl rfl) ?_
 refine zsa 14 ?_
 refine zsa 15 ?_
 refine WA_branch (rs := [7]) vm175 rfl (AllB.cons ?_ AllB.nil)
 refine WB_rn [0, 2, 3, 4] rfl rfl (WX_call 6 rfl rfl rfl (ArgsOK.of (congrArg some (congrArg (fun z => [AV.lst 1 z]) cut_last))) (c_spec_l1Own (x.st.take (x.st.length - 1)) (by rw [List.length_take]; omega)) rfl rfl (WL_nil ⟨rfl, ?_⟩))
 refine WA_branch (rs := [9]) vm175 rfl (AllB.cons ?_ AllB.nil)
 refine vm79 ?_
 refine WA_branch (rs := [16]) vm175 rfl (AllB.cons ?_ AllB.nil)
 refine vm79 ?_
 refine zsa 17 ?_
 refine vm15 ?_
 refine W_ret (fin_shp rfl rfl rfl rfl (rcs_cons (rc_v ?_) (rcs_cons (rc_own rfl ?_) (rcs_cons (rc_own rfl ?_) (rcs_cons (rc_own rfl ?_) (rcs_cons (rc_v ?_) rcs_nil))))))
 all_goals (first | rfl | (rw [hls]; done))
end Go.Proofs.YtcnodpipinlpcaaGreat
set_option maxRecDepth 20000
set_option linter.unusedVariables false
set_option linter.unusedSimpArgs false
namespace Go.Proofs.YtcnodpipinlpcaaGreat
open Go Go.Rf
set_option maxHeartbeats 4000000 in
theorem c_spec_l10Own (x : Ifc) (hn : x.st.length ≤ 1048576) (hl : x.qu.sl.length ≤ 1048576) (hw : x.qu.wa.length ≤ 1048576) : Ctr Tryz.prog 202 [.agg [.v (.int .i64 x.ma), .lst 1 (x.st.map Rf.encI), .lst 3 (x.qu.sl.map encSl), .lst 2 (x.qu.wa.map encWa)]] (.shp true [some 4] [.v (.int .i64 x.ma), .fr 3 1 (x.st.map Rf.encI), .fr 154 3 (x.qu.sl.map encSl), .fr 183 2 (x.qu.wa.map encWa)]) := by
 refine Ctr.of (n := 12) G Tryz.func202 rfl vm175 rfl rfl rfl (fun w0 => ?_)
 refine W_pinS 0 rfl (fun _ => rfl) (fun u0 => ?_)
 refine vm91 ?_
 refine W_sq (W_drawsH 10 [0] mixed vm175 rfl rfl (fun r0 => ?_) (fun _ h => h))
 refine vm23 ?_
 refine zsa 5 ?_
 refine zsa 6 ?_
 refine WA_branch (rs := [4]) vm175 rfl (AllB.cons ?_ AllB.nil)
 refine WB_rn [0] rfl rfl (WX_call 3 rfl rfl rfl (ArgsOK.of rfl) (c_spec_l1Own x.st hn) rfl rfl (WL_nil ⟨rfl, ?_⟩))
 refine WA_branch (rs := [7]) vm175 rfl (AllB.cons ?_ AllB.nil)
 refine WB_rn [0] rfl rfl (WX_call 5 rfl rfl rfl (ArgsOK.of rfl) (c_spec_l9Own x.qu hl hw) rfl rfl (WL_nil ⟨rfl, ?_⟩))
 refine WA_branch (rs := [8]) vm175 rfl (AllB.cons ?_ AllB.nil)
 refine vm71 ?_
 refine WA_branch (rs := [9]) vm175 rfl (AllB.cons ?_ AllB.nil)
 refine vm71 ?_
 refine vm15 ?_
 refine W_ret (fin_shp rfl rfl rfl rfl (rcs_cons (rc_v ?_) (rcs_cons (rc_own rfl ?_) (rcs_cons (rc_own rfl ?_) (rcs_cons (rc_own rfl ?_) rcs_nil)))))
 all_goals (rfl)
set_option maxHeartbeats 1000000 in
set_option maxHeartbeats 4000000 in
theorem c_spec_l21Own (m : Mach) (hM : MaG m) : Ctr Tryz.prog 154 [.agg [.lst 2 (m.rs.map encRo), .lst 1 (m.en.map encO), .lst 1 (m.ra.map encO), .nst none 4 (m.cp.map (encIf 154 183))]] (.shp true [some 4] [.fr 118 2 (m.rs.map encRo), .fr 4 1 (m.en.map encO), .fr 4 1 (m.ra.map encO), .ne 113 4 (m.cp.map (encIf 154 183))]) := by
 have f1 := hM.n
 have f2 := hM.en
 have f3 := hM.ra
 have f4 := hM.rn
 refine Ctr.of (n := 38) G Tryz.func154 rfl vm175 rfl rfl rfl (fun w0 => ?_)
 refine W_pinS 0 rfl (fun _ => rfl) (fun u0 => ?_)
 refine vm91 ?_
 refine W_sq (W_drawsH 16 [0, 1] mixed vm175 rfl rfl (fun r0 => ?_) (fun _ h => h))
 refine vm77 ?_
 refine zsa 9 ?_
 refine zsa 10 ?_
 refine WA_more (N := 7) rfl (WAV_startH (fuel := 5) [⟨0, 5, 2, false, .row 118 2 []⟩, ⟨4, 9, 3, false, .row 4 1 []⟩, ⟨8, 13, 4, false, .row 4 1 []⟩, ⟨12, 17, 5, false, .row 113 4 []⟩, ⟨14, 3, 6, true, .box (avR [.slice none 0 0, .slice none 0 0, .slice none 0 0, .slice none 0 0] [])⟩] (AllVOK.cons (VOK.lit G rfl rfl rfl rfl rfl) (AllVOK.cons (VOK.lit G rfl rfl rfl rfl rfl) (AllVOK.cons (VOK.lit G rfl rfl rfl rfl rfl) (AllVOK.cons (VOK.lit G rfl rfl rfl rfl rfl) (AllVOK.cons (VOK.boxS G rfl rfl rfl rfl rfl) (AllVOK.nil)))))) (fun hok => ?_))
 refine WAV_go [(3, [0])] vm175 vm175 (fun e he => hok e he) vm175 (AllVS.cons ?_ AllVS.nil)
 refine VStep.mk1 [0, 1] 5 (.own 2) 2 (.row 118 2 []) [⟨4, 9, 3, false, .row 4 1 []⟩, ⟨8, 13, 4, false, .row 4 1 []⟩, ⟨12, 17, 5, false, .row 113 4 []⟩, ⟨14, 3, 6, true, .box (avR [.slice none 0 0, .slice none 0 0, .slice none 0 0, .slice none 0 0] [])⟩] rfl rfl rfl rfl rfl (fun b1 _ hbn => WX_append G vm185 rfl rfl rfl rfl rfl rfl rfl rfl rfl vm179 rfl rfl (WL_nil rfl)) vm175 vm175 vm175 vm175 (WAV_go [(7, [4])] vm175 vm175 (fun e he => hok e (vin (is := [0]) rfl he)) vm175 (AllVS.cons ?_ AllVS.nil))
 refine VStep.mk1 [0, 1] 9 (.own 3) 3 (.row 4 1 []) [⟨8, 13, 4, false, .row 4 1 []⟩, ⟨12, 17, 5, false, .row 113 4 []⟩, ⟨14, 3, 6, true, .box (avR [.slice none 0 0, .slice none 0 0, .slice none 0 0, .slice none 0 0] [])⟩] rfl rfl rfl rfl rfl (fun b1 _ hbn => WX_append G vm185 rfl rfl rfl rfl rfl rfl rfl rfl rfl vm179 rfl rfl (WL_nil rfl)) vm175 vm175 vm175 vm175 (WAV_go [(11, [8])] vm175 vm175 (fun e he => hok e (vin (is := [0, 4]) rfl he)) vm175 (AllVS.cons ?_ AllVS.nil))
 refine VStep.mk1 [0, 1] 13 (.own 4) 4 (.row 4 1 []) [⟨12, 17, 5, false, .row 113 4 []⟩, ⟨14, 3, 6, true, .box (avR [.slice none 0 0, .slice none 0 0, .slice none 0 0, .slice none 0 0] [])⟩] rfl rfl rfl rfl rfl (fun b1 _ hbn => WX_append G vm185 rfl rfl rfl rfl rfl rfl rfl rfl rfl vm179 rfl rfl (WL_nil rfl)) vm175 vm175 vm175 vm175 (WAV_go [(13, [12])] vm175 vm175 (fun e he => hok e (vin (is := [0, 4, 8]) rfl he)) vm175 (AllVS.cons ?_ AllVS.nil))
 refine VStep.mk1 [0, 1] 17 (.own 5) 5 (.row 113 4 []) [⟨14, 3, 6, true, .box (avR [.slice none 0 0, .slice none 0 0, .slice none 0 0, .slice none 0 0] [])⟩] rfl rfl rfl rfl rfl (fun b1 _ hbn => WX_q rfl rfl (q_build G rfl rfl rfl rfl) (WL_nil rfl)) vm175 vm175 vm175 vm175 (WAV_go [(15, [14])] vm175 vm175 (fun e he => hok e (vin (is := [0, 4, 8, 12]) rfl he)) vm175 (AllVS.cons ?_ AllVS.nil))
 refine vm63 ?_
 clear hok
 refine vm70 ?_
 refine W_loopK [1, 2, 3] [0, 1, 2, 3, 4, 6] (fun (k : Nat) => [(4, .v (.int .i64 (k : Int)))]) (fun (k : Nat) => [(5, some (.nest 113 4 ((m.cp.take k).map (encIf 154 183)) []))]) (fun (k : Nat) => k ≤ m.cp.length) (fun (k : Nat) => m.cp.length - k) 0 rfl rfl ?_ ?_ ?_ ?_
 ·exact Nat.zero_le _
 ·exact ⟨⟨_, rfl, by rfl⟩, rfl, trivial⟩
 ·exact ⟨⟨_, rfl, by rfl⟩, rfl, rfl, trivial⟩
 intro k hk
 have hkl : ((m.cp.take k).map (encIf 154 183)).length = k := (by rw [List.length_map, List.length_take]; omega)
 simp only [List.cons_append, List.nil_append]
 refine zcd (fun h1 => ?_) (fun h1 => ?_)
 ·obtain ⟨g1, g2, g3⟩ := hM.lens (k := k) (by omega)
  refine zgo ?_
  apply W_drawsJ [1, 2, 3, 4] [0, 1, 2, 3, 4, 6, 11] 12 12 [0, 1, 2, 3, 4] mixed vm175 rfl rfl (fun _ h => znk h)
  ·intro r0
   refine zsa 0 ?_
   refine zsa 2 ?_
   refine zsa 3 ?_
   refine vm61 ?_
   refine zsa 6 ?_
   refine WA_branch (rs := [1, 7]) vm175 rfl (AllB.cons ?_ (AllB.cons ?_ AllB.nil))
   ·refine vm95 ?_
    refine WA_branch (rs := [7]) vm175 rfl (AllB.cons ?_ AllB.nil)
    refine WB_rn [0, 1, 2, 3, 4] rfl rfl (WX_call 10 rfl rfl rfl (ArgsOK.of rfl) (c_spec_l10Own (m.cp.getD k default) (by omega) (by omega) (by omega)) rfl rfl (WL_nil ⟨rfl, ?_⟩))
    refine WA_branch (rs := [8]) vm175 rfl (AllB.cons ?_ AllB.nil)
    refine WB_rn [0, 1, 2, 3, 4] rfl rfl (WX_lit_nest G 11 rfl rfl rfl rfl rfl rfl rfl rfl (.v rfl (.own rfl (.own rfl (.own rfl .nil)))) rfl rfl rfl rfl (WL_nil ⟨rfl, ?_⟩))
    refine WA_branch (rs := [9]) vm175 rfl (AllB.cons ?_ AllB.nil)
    refine WB_run [0, 1, 2, 3, 4] rfl rfl (WX_gh (Gh.forget (id := 6) (k := 3) rfl rfl) <| WX_gh (Gh.keep [0, 1, 2, 3, 4, 5, 6, 10] rfl) <| WX_ren (tx := 27) 12 rfl rfl rfl rfl rfl <| WX_append_nest G vm181 rfl rfl rfl rfl rfl rfl rfl rfl rfl rfl vm179 rfl rfl (WL_nil ⟨rfl, ?_⟩))
    refine zsa 10 ?_
    refine WA_branch (rs := [11]) vm175 rfl (AllB.cons ?_ AllB.nil)
    refine vm95 ?_
    exact WA_end vm175 (Meet.mk rfl rfl rfl rfl)
   refine WB_rn [0, 1, 2, 3, 4] rfl rfl (WX_call 10 rfl rfl rfl (ArgsOK.of rfl) (c_spec_l10Own (m.cp.getD k default) (by omega) (by omega) (by omega)) rfl rfl (WL_nil ⟨rfl, ?_⟩))
   refine WA_branch (rs := [1, 8]) vm175 rfl (AllB.cons ?_ (AllB.cons ?_ AllB.nil))
   ·refine vm95 ?_
    refine WA_branch (rs := [8]) vm175 rfl (AllB.cons ?_ AllB.nil)
    refine WB_rn [0, 1, 2, 3, 4] rfl rfl (WX_lit_nest G 11 rfl rfl rfl rfl rfl rfl rfl rfl (.v rfl (.own rfl (.own rfl (.own rfl .nil)))) rfl rfl rfl rfl (WL_nil ⟨rfl, ?_⟩))
    refine WA_branch (rs := [9]) vm175 rfl (AllB.cons ?_ AllB.nil)
    refine WB_run [0, 1, 2, 3, 4] rfl rfl (WX_gh (Gh.forget (id := 6) (k := 3) rfl rfl) <| WX_gh (Gh.keep [0, 1, 2, 3, 4, 5, 6, 10] rfl) <| WX_ren (tx := 27) 12 rfl rfl rfl rfl rfl <| WX_append_nest G vm181 rfl rfl rfl rfl rfl rfl rfl rfl rfl rfl vm179 rfl rfl (WL_nil ⟨rfl, ?_⟩))
    refine zsa 10 ?_
    refine WA_branch (rs := [11]) vm175 rfl (AllB.cons ?_ AllB.nil)
    refine vm95 ?_
    exact WA_end vm175 (Meet.mk rfl rfl rfl rfl)
   refine WB_rn [0, 1, 2, 3, 4] rfl rfl (WX_lit_nest G 11 rfl rfl rfl rfl rfl rfl rfl rfl (.v rfl (.own rfl (.own rfl (.own rfl .nil)))) rfl rfl rfl rfl (WL_nil ⟨rfl, ?_⟩))
   refine WA_branch (rs := [1]) vm175 rfl (AllB.cons ?_ AllB.nil)
   refine vm95 ?_
   refine WA_branch (rs := [9]) vm175 rfl (AllB.cons ?_ AllB.nil)
   refine WB_run [0, 1, 2, 3, 4] rfl rfl (WX_gh (Gh.forget (id := 6) (k := 3) rfl rfl) <| WX_gh (Gh.keep [0, 1, 2, 3, 4, 5, 6, 10] rfl) <| WX_ren (tx := 27) 12 rfl rfl rfl rfl rfl <| WX_append_nest G vm181 rfl rfl rfl rfl rfl rfl rfl rfl rfl rfl vm179 rfl rfl (WL_nil ⟨rfl, ?_⟩))
   refine zsa 10 ?_
   refine WA_branch (rs := [11]) vm175 rfl (AllB.cons ?_ AllB.nil)
   refine vm95 ?_
   exact WA_end vm175 (Meet.mk rfl rfl rfl rfl)
  refine vm41 ?_
  refine WL_gh (Gh.sub 11 5 np rfl rfl rfl) (WL_nil ⟨(k + 1), ?_, ?_, ⟨⟨_, rfl, by rfl⟩, rfl, trivial⟩, ⟨⟨_, rfl, by (exact congrArg (fun z => Row.nest _ _ z []) (takeG (by omega) rfl))⟩, rfl, rfl, trivial⟩, rfl, rfl, rfl⟩)
  ·omega
  omega
 obtain rfl : k = m.cp.length := (by omega)
 refine zgo ?_
 refine W_ret (fin_shp rfl rfl rfl rfl (rcs_cons (rc_own rfl ?_) (rcs_cons (rc_own rfl ?_) (rcs_cons (rc_own rfl ?_) (rcs_cons (rc_ne rfl ?_) rcs_nil)))))
 all_goals (first | rfl | (rw [List.take_length]; done) | (rw [List.take_length]; rfl) | simp)
set_option maxHeartbeats 1000000 in
set_option maxHeartbeats 4000000 in
theorem c_impl_newMachine (m : Mach) (hM : MaG m) : Ctr Tryz.prog 112 [.agg [.lst 2 (m.rs.map encRo), .lst 1 (m.en.map encO), .lst 1 (m.ra.map encO), .nst none 4 (m.cp.map (encIf 154 183))]] (.shp true [some 4] [.fr 118 2 (m.rs.map encRo), .fr 4 1 (m.en.map encO), .fr 4 1 (m.ra.map encO), .ne 113 4 (m.cp.map (encIf 154 183))]) := by
 have f1 := hM.n
 have f2 := hM.en
 have f3 := hM.ra
 have f4 := hM.rn
 refine Ctr.of (n := 36) G Tryz.func112 rfl vm175 rfl rfl rfl (fun w0 => ?_)
 refine W_pinS 0 rfl (fun _ => rfl) (fun u0 => ?_)
 refine vm91 ?_
 refine W_sq (W_drawsH 16 [0, 1] mixed vm175 rfl rfl (fun r0 => ?_) (fun _ h => h))
 refine vm77 ?_
 refine zsa 9 ?_
 refine zsa 10 ?_
 refine WA_more (N := 7) rfl (WAV_startH (fuel := 5) [⟨0, 6, 2, false, .row 118 2 []⟩, ⟨4, 10, 3, false, .row 4 1 []⟩, ⟨8, 14, 4, false, .row 4 1 []⟩, ⟨12, 18, 5, false, .row 113 4 []⟩, ⟨14, 3, 6, true, .box (avR [.slice none 0 0, .slice none 0 0, .slice none 0 0, .slice none 0 0] [])⟩] (AllVOK.cons (VOK.lit G rfl rfl rfl rfl rfl) (AllVOK.cons (VOK.lit G rfl rfl rfl rfl rfl) (AllVOK.cons (VOK.lit G rfl rfl rfl rfl rfl) (AllVOK.cons (VOK.lit G rfl rfl rfl rfl rfl) (AllVOK.cons (VOK.boxS G rfl rfl rfl rfl rfl) (AllVOK.nil)))))) (fun hok => ?_))
 refine WAV_go [(3, [0])] vm175 vm175 (fun e he => hok e he) vm175 (AllVS.cons ?_ AllVS.nil)
 refine VStep.mk1 [0, 1] 6 (.own 2) 2 (.row 118 2 []) [⟨4, 10, 3, false, .row 4 1 []⟩, ⟨8, 14, 4, false, .row 4 1 []⟩, ⟨12, 18, 5, false, .row 113 4 []⟩, ⟨14, 3, 6, true, .box (avR [.slice none 0 0, .slice none 0 0, .slice none 0 0, .slice none 0 0] [])⟩] rfl rfl rfl rfl rfl (fun b1 _ hbn => WX_append G vm185 rfl rfl rfl rfl rfl rfl rfl rfl rfl vm179 rfl rfl (WL_nil rfl)) vm175 vm175 vm175 vm175 (WAV_go [(7, [4])] vm175 vm175 (fun e he => hok e (vin (is := [0]) rfl he)) vm175 (AllVS.cons ?_ AllVS.nil))
 refine VStep.mk1 [0, 1] 10 (.own 3) 3 (.row 4 1 []) [⟨8, 14, 4, false, .row 4 1 []⟩, ⟨12, 18, 5, false, .row 113 4 []⟩, ⟨14, 3, 6, true, .box (avR [.slice none 0 0, .slice none 0 0, .slice none 0 0, .slice none 0 0] [])⟩] rfl rfl rfl rfl rfl (fun b1 _ hbn => WX_append G vm185 rfl rfl rfl rfl rfl rfl rfl rfl rfl vm179 rfl rfl (WL_nil rfl)) vm175 vm175 vm175 vm175 (WAV_go [(11, [8])] vm175 vm175 (fun e he => hok e (vin (is := [0, 4]) rfl he)) vm175 (AllVS.cons ?_ AllVS.nil))
 refine VStep.mk1 [0, 1] 14 (.own 4) 4 (.row 4 1 []) [⟨12, 18, 5, false, .row 113 4 []⟩, ⟨14, 3, 6, true, .box (avR [.slice none 0 0, .slice none 0 0, .slice none 0 0, .slice none 0 0] [])⟩] rfl rfl rfl rfl rfl (fun b1 _ hbn => WX_append G vm185 rfl rfl rfl rfl rfl rfl rfl rfl rfl vm179 rfl rfl (WL_nil rfl)) vm175 vm175 vm175 vm175 (WAV_go [(13, [12])] vm175 vm175 (fun e he => hok e (vin (is := [0, 4, 8]) rfl he)) vm175 (AllVS.cons ?_ AllVS.nil))
 refine VStep.mk1 [0, 1] 18 (.own 5) 5 (.row 113 4 []) [⟨14, 3, 6, true, .box (avR [.slice none 0 0, .slice none 0 0, .slice none 0 0, .slice none 0 0] [])⟩] rfl rfl rfl rfl rfl (fun b1 _ hbn => WX_q rfl rfl (q_build G rfl rfl rfl rfl) (WL_nil rfl)) vm175 vm175 vm175 vm175 (WAV_go [(15, [14])] vm175 vm175 (fun e he => hok e (vin (is := [0, 4, 8, 12]) rfl he)) vm175 (AllVS.cons ?_ AllVS.nil))
 refine vm63 ?_
 clear hok
 refine vm70 ?_
 refine W_loopK [2, 3, 21, 22] [1, 2, 3, 4, 6] (fun (k : Nat) => [(23, .v (.int .i64 (k : Int)))]) (fun (k : Nat) => [(5, some (.nest 113 4 ((m.cp.take k).map (encIf 154 183)) []))]) (fun (k : Nat) => k ≤ m.cp.length) (fun (k : Nat) => m.cp.length - k) 0 rfl rfl ?_ ?_ ?_ ?_
 ·exact Nat.zero_le _
 ·exact ⟨⟨_, rfl, by rfl⟩, rfl, trivial⟩
 ·exact ⟨⟨_, rfl, by rfl⟩, rfl, rfl, trivial⟩
 intro k hk
 have hkl : ((m.cp.take k).map (encIf 154 183)).length = k := (by rw [List.length_map, List.length_take]; omega)
 simp only [List.cons_append, List.nil_append]
 refine zcd (fun h1 => ?_) (fun h1 => ?_)
 ·obtain ⟨g1, g2, g3⟩ := hM.lens (k := k) (by omega)
  refine vm52 ?_
  refine WX_alloc_s G 8 rfl rfl rfl rfl rfl ?_
  refine vm7 ?_
  refine WX_pinS 26 rfl (fun _ => rfl) fun v26 => WX_store G rfl rfl rfl rfl rfl rfl rfl rfl rfl rfl rfl ?_
  refine zgo ?_
  apply W_drawsJ [2, 3, 21, 22, 23] [1, 2, 3, 4, 6, 12] 13 8 [1, 2, 3, 4, 7] mixed vm175 rfl rfl (fun _ h => znk h)
  ·intro r0
   refine zsa 0 ?_
   refine zsa 2 ?_
   refine WA_branch (rs := [1, 3]) vm175 rfl (AllB.cons ?_ (AllB.cons ?_ AllB.nil))
   ·refine vm54 ?_
    refine WA_branch (rs := [3]) vm175 rfl (AllB.cons ?_ AllB.nil)
    refine WB_rn [1, 2, 3, 4, 7] rfl rfl (WX_call 11 rfl rfl rfl (ArgsOK.of rfl) (c_impl_newInterface (m.cp.getD k default) (by omega) (by omega) (by omega)) rfl rfl (WL_nil ⟨rfl, ?_⟩))
    refine WA_branch (rs := [4]) vm175 rfl (AllB.cons ?_ AllB.nil)
    refine WB_rn [1, 2, 3, 4, 7] rfl rfl (WX_lit_nest G 12 rfl rfl rfl rfl rfl rfl rfl rfl (.v rfl (.own rfl (.own rfl (.own rfl .nil)))) rfl rfl rfl rfl (WL_nil ⟨rfl, ?_⟩))
    refine WA_branch (rs := [5]) vm175 rfl (AllB.cons ?_ AllB.nil)
    refine WB_run [1, 2, 3, 4, 7] rfl rfl (WX_gh (Gh.forget (id := 6) (k := 3) rfl rfl) <| WX_gh (Gh.keep [1, 2, 3, 4, 5, 6, 7, 11] rfl) <| WX_ren (tx := 28) 13 rfl rfl rfl rfl rfl <| WX_append_nest G vm181 rfl rfl rfl rfl rfl rfl rfl rfl rfl rfl vm179 rfl rfl (WL_nil ⟨rfl, ?_⟩))
    refine zsa 6 ?_
    refine WA_branch (rs := [7]) vm175 rfl (AllB.cons ?_ AllB.nil)
    refine vm54 ?_
    exact WA_end vm175 (Meet.mk rfl rfl rfl rfl)
   refine WB_rn [1, 2, 3, 4, 7] rfl rfl (WX_call 11 rfl rfl rfl (ArgsOK.of rfl) (c_impl_newInterface (m.cp.getD k default) (by omega) (by omega) (by omega)) rfl rfl (WL_nil ⟨rfl, ?_⟩))
   refine WA_branch (rs := [1, 4]) vm175 rfl (AllB.cons ?_ (AllB.cons ?_ AllB.nil))
   ·refine vm54 ?_
    refine WA_branch (rs := [4]) vm175 rfl (AllB.cons ?_ AllB.nil)
    refine WB_rn [1, 2, 3, 4, 7] rfl rfl (WX_lit_nest G 12 rfl rfl rfl rfl rfl rfl rfl rfl (.v rfl (.own rfl (.own rfl (.own rfl .nil)))) rfl rfl rfl rfl (WL_nil ⟨rfl, ?_⟩))
    refine WA_branch (rs := [5]) vm175 rfl (AllB.cons ?_ AllB.nil)
    refine WB_run [1, 2, 3, 4, 7] rfl rfl (WX_gh (Gh.forget (id := 6) (k := 3) rfl rfl) <| WX_gh (Gh.keep [1, 2, 3, 4, 5, 6, 7, 11] rfl) <| WX_ren (tx := 28) 13 rfl rfl rfl rfl rfl <| WX_append_nest G vm181 rfl rfl rfl rfl rfl rfl rfl rfl rfl rfl vm179 rfl rfl (WL_nil ⟨rfl, ?_⟩))
    refine zsa 6 ?_
    refine WA_branch (rs := [7]) vm175 rfl (AllB.cons ?_ AllB.nil)
    refine vm54 ?_
    exact WA_end vm175 (Meet.mk rfl rfl rfl rfl)
   refine WB_rn [1, 2, 3, 4, 7] rfl rfl (WX_lit_nest G 12 rfl rfl rfl rfl rfl rfl rfl rfl (.v rfl (.own rfl (.own rfl (.own rfl .nil)))) rfl rfl rfl rfl (WL_nil ⟨rfl, ?_⟩))
   refine WA_branch (rs := [1]) vm175 rfl (AllB.cons ?_ AllB.nil)
   refine vm54 ?_
   refine WA_branch (rs := [5]) vm175 rfl (AllB.cons ?_ AllB.nil)
   refine WB_run [1, 2, 3, 4, 7] rfl rfl (WX_gh (Gh.forget (id := 6) (k := 3) rfl rfl) <| WX_gh (Gh.keep [1, 2, 3, 4, 5, 6, 7, 11] rfl) <| WX_ren (tx := 28) 13 rfl rfl rfl rfl rfl <| WX_append_nest G vm181 rfl rfl rfl rfl rfl rfl rfl rfl rfl rfl vm179 rfl rfl (WL_nil ⟨rfl, ?_⟩))
   refine zsa 6 ?_
   refine WA_branch (rs := [7]) vm175 rfl (AllB.cons ?_ AllB.nil)
   refine vm54 ?_
   exact WA_end vm175 (Meet.mk rfl rfl rfl rfl)
  refine W_region ?_
  refine vm33 ?_
  refine WL_gh (Gh.sub 12 5 np rfl rfl rfl) (WL_nil ⟨(k + 1), ?_, ?_, ⟨⟨_, rfl, by rfl⟩, rfl, trivial⟩, ⟨⟨_, rfl, by (exact congrArg (fun z => Row.nest _ _ z []) (takeG (by omega) rfl))⟩, rfl, rfl, trivial⟩, rfl, rfl, rfl⟩)
  ·omega
  omega
 obtain rfl : k = m.cp.length := (by omega)
 refine zgo ?_
 refine W_ret (fin_shp rfl rfl rfl rfl (rcs_cons (rc_own rfl ?_) (rcs_cons (rc_own rfl ?_) (rcs_cons (rc_own rfl ?_) (rcs_cons (rc_ne rfl ?_) rcs_nil)))))
 all_goals (first | rfl | (rw [List.take_length]; done) | (rw [List.take_length]; rfl) | simp)
end Go.Proofs.YtcnodpipinlpcaaGreat
set_option maxRecDepth 20000
set_option linter.unusedVariables false
set_option linter.unusedSimpArgs false
namespace Go.Proofs.YtcnodpipinlpcaaGreat
open Go Go.Rf
set_option maxHeartbeats 4000000 in
theorem c_impl_leaveIrq_no (x : Ifc) (hn : x.st.length = 0) : Ctr Tryz.prog 160 [.agg [.v (.int .i64 x.ma), .lst 1 (x.st.map Rf.encI), .lst 3 (x.qu.sl.map encSl), .lst 2 (x.qu.wa.map encWa)]] (.shp false [some 4, none, none] [.v (.int .i64 0), .fr 3 1 (([] : List Int).map Rf.encI), .fr 154 3 ((⟨[], []⟩ : Que).sl.map encSl), .fr 183 2 ((⟨[], []⟩ : Que).wa.map encWa) true, .v (.int .i64 0), .v (.bool false)]) := by
 refine Ctr.of (n := 40) G Tryz.func160 rfl vm175 rfl rfl rfl (fun w0 => ?_)
 refine W_pinS 0 rfl (fun _ => rfl) (fun u0 => ?_)
 refine vm1 ?_
 refine vm12 ?_
 refine zcd (fun h1 => ?_) (fun h1 => ?_)
 ·refine zgo ?_
  refine W_ret (fin_shp rfl rfl rfl rfl (rcs_cons (rc_v ?_) (rcs_cons (rc_nil ?_) (rcs_cons (rc_nil ?_) (rcs_cons (rc_nil ?_) (rcs_cons (rc_v ?_) (rcs_cons (rc_v ?_) rcs_nil)))))))
  all_goals (rfl)
 exfalso; omega
set_option maxHeartbeats 4000000 in
theorem c_impl_leaveIrq_all (x : Ifc) (hG : IfG x) : Ctr Tryz.prog 160 [.agg [.v (.int .i64 x.ma), .lst 1 (x.st.map Rf.encI), .lst 3 (x.qu.sl.map encSl), .lst 2 (x.qu.wa.map encWa)]] (.shp false [some 4, none, none] [.v (.int .i64 (leaIT x).1.ma), .fr 3 1 ((leaIT x).1.st.map Rf.encI), .fr 154 3 ((leaIT x).1.qu.sl.map encSl), .fr 183 2 ((leaIT x).1.qu.wa.map encWa) true, .v (.int .i64 (leaIT x).2.1), .v (.bool (leaIT x).2.2)]) := by
 by_cases h : x.st.length = 0
 ·rw [leaIT_f h]; exact c_impl_leaveIrq_no x h
 rw [leaIT_t h]; exact c_impl_leaveIrq x hG h
set_option maxHeartbeats 2000000 in
set_option maxHeartbeats 4000000 in
theorem c_impl_stepMachine (m : Mach) (sk sq sc sv : Int) (hM : MaG m) (hv : stepV m.cp.length ⟨sk, sq, sc, sv⟩ = true) : Ctr Tryz.prog 107 [.agg [.lst 2 (m.rs.map encRo), .lst 1 (m.en.map encO), .lst 1 (m.ra.map encO), .nst none 4 (m.cp.map (encIf 154 183))], .v (.agg ⟨[.int .i64 sk, .int .i64 sq, .int .i64 sc, .int .i64 sv]⟩)] (.shp false [some 4, none, none] [.fr 118 2 ((stM m ⟨sk, sq, sc, sv⟩).1.rs.map encRo), .fr 4 1 ((stM m ⟨sk, sq, sc, sv⟩).1.en.map encO), .fr 4 1 ((stM m ⟨sk, sq, sc, sv⟩).1.ra.map encO), .ne 113 4 ((stM m ⟨sk, sq, sc, sv⟩).1.cp.map (encIfT 154 183)), .v (.int .i64 (stM m ⟨sk, sq, sc, sv⟩).2.1), .v (.bool (stM m ⟨sk, sq, sc, sv⟩).2.2)]) := by
 have f1 := hM.n
 have f2 := hM.en
 have f3 := hM.ra
 have f4 := hM.rn
 refine Ctr.of (n := 90) G Tryz.func107 rfl vm175 rfl rfl rfl (fun w0 => ?_)
 refine W_pinS 0 rfl (fun _ => rfl) (fun u0 => ?_)
 refine vm26 ?_
 refine vm42 ?_
 refine vm52 ?_
 refine WX_call 7 rfl rfl rfl (ArgsOK.of rfl) (c_impl_newMachine m hM) rfl rfl ?_
 refine vm7 ?_
 refine WX_alloc_s G 8 rfl rfl rfl rfl rfl ?_
 refine vm100 ?_
 refine W_sq (W_gh (Gh.nestF (id := 6) _ rfl flM) ?_)
 refine zcd (fun h1 => ?_) (fun h1 => ?_)
 ·have hq := sv_q hv (by omega)
  obtain ⟨q, rfl⟩ : ∃ q : Nat, sq = q := ⟨sq.toNat, by omega⟩
  have hS := sm1 (m := m) (sc := sc) (sv := sv) (q := q) h1
  refine vm16 ?_
  refine vm100 ?_
  first | refine W_gh (Gh.nestF (id := 6) _ rfl (flPut (x := (takIT (m.cp.getD c default)).1) (.cons .s (.cons .s (.cons .s (.cons .t .nil)))))) ?_ | refine W_gh (Gh.nestF (id := 6) _ rfl (flPut (x := (leaIT (m.cp.getD c default)).1) (.cons .s (.cons .s (.cons .s (.cons .t .nil)))))) ?_ | refine W_gh (Gh.nestF (id := 6) _ rfl (flPut (x := ⟨sv, (m.cp.getD c default).st, (m.cp.getD c default).qu⟩) (.cons .s (.cons .s (.cons .s (.cons .s .nil)))))) ?_ | skip
  refine zgo ?_
  refine W_ret (fin_shp rfl rfl rfl rfl (rcs_cons (rc_own rfl ?_) (rcs_cons (rc_own rfl ?_) (rcs_cons (rc_own rfl ?_) (rcs_cons (rc_ne rfl ?_) (rcs_cons (rc_v ?_) (rcs_cons (rc_v ?_) rcs_nil)))))))
  all_goals exact vm126
 refine zcd (fun h2 => ?_) (fun h2 => ?_)
 ·have hS := sm2 (m := m) (sq := sq) (sc := sc) (sv := sv) h2
  refine vm52 ?_
  refine WX_inlE (n := 63) rfl rfl rfl Tryz.func159 rfl vm175 rfl rfl rfl rfl ?_
  apply Exists.intro
  apply Exists.intro
  apply And.intro
  ·intro b hen hpin
   refine vm52 ?_
   refine WX_q rfl rfl (q_nil_ptr rfl rfl) ?_
   refine zgo ?_
   refine W_loopK [0, 8, 9] [0, 1, 2, 3, 4, 7] (fun (i : Nat) => [(10, .v (.int .i64 (i : Int)))]) (fun (i : Nat) => [(5, some (.row 4 1 ((synR m i).map encO))), (6, some (.nest 113 4 ((synC m i).map (encIfT 154 183)) []))]) (fun (i : Nat) => i ≤ 8) (fun (i : Nat) => 8 - i) 0 rfl rfl ?_ ?_ ?_ ?_
   ·exact Nat.zero_le _
   ·exact ⟨⟨_, rfl, by rfl⟩, rfl, trivial⟩
   ·exact ⟨⟨_, rfl, by rfl⟩, rfl, rfl, ⟨⟨_, rfl, by rfl⟩, rfl, rfl, trivial⟩⟩
   intro i hi
   have hrl := @synR_len m i
   have hcl := @synC_len m i
   have htg := fun h => hM.tg (i := i) h
   simp only [List.cons_append, List.nil_append]
   refine zcd (fun h101 => ?_) (fun h101 => ?_)
   ·obtain ⟨hta, htb, htc⟩ := htg (by omega)
    obtain ⟨hst, hIG⟩ := synC_st hM (i := i) (k := tgM m i) (by omega) htb
    have htd : tgM m i < m.cp.length := htb
    refine zgo ?_
    refine vm2 ?_
    first | refine WX_q rfl rfl (q_load_rpt_struct G rfl rfl rfl rfl (getN (by omega)) rfl) ?_ | refine WX_q rfl rfl (q_load_rpt_struct G rfl rfl rfl rfl (getM (by omega) (by omega)) rfl) ?_
    refine vm7 ?_
    refine vm96 ?_
    refine zgd ?_
    refine zgo ?_
    refine QL_cons rfl (QX_q rfl rfl (q_nil_ptr rfl rfl) ?_)
    refine zgo ?_
    refine QL_cons rfl ?_
    first | refine QX_q rfl rfl (q_index_nest G rfl rfl rfl rfl rfl (by omega) vm198) ?_ | refine QX_q rfl rfl (q_index_nest G rfl rfl rfl rfl rfl (by omega) vm183) ?_
    refine vm100 ?_
    refine W_gh (Gh.open (id := 6) (i := (tgM m i)) (k := 1) 10 rfl rfl (getZ (by omega)) rfl rfl) ?_
    refine vm52 ?_
    refine WX_q rfl rfl (q_nil_ptr rfl rfl) ?_
    refine zgo ?_
    refine vm2 ?_
    refine vm82 ?_
    refine zcd (fun h102 => ?_) (fun h102 => ?_)
    ·refine zgo ?_
     refine vm78 ?_
     refine WX_q rfl rfl (q_nil_ptr rfl rfl) ?_
     refine zgo ?_
     refine vm78 ?_
     first | refine WX_q rfl rfl (q_index_own G rfl rfl rfl rfl rfl (by omega) vm187) ?_ | refine WX_q rfl rfl (q_index_own G rfl rfl rfl rfl rfl (by omega) (by omega)) ?_
     refine vm78 ?_
     refine vm82 ?_
     refine zcd (fun h103 => ?_) (fun h103 => ?_)
     ·rw [synR_ge (Nat.le_refl _)] at h103
      refine zgo ?_
      refine vm78 ?_
      refine WX_q rfl rfl (q_nil_rpt rfl rfl) ?_
      refine vm78 ?_
      refine WX_q rfl rfl (q_field_rpt G rfl rfl rfl rfl) ?_
      refine vm78 ?_
      refine WX_q rfl rfl (q_load_nest G rfl rfl rfl rfl rfl (nget_some.2 ⟨_, (setX vm183 rfl), rfl⟩) (.own vm202 .nil)) ?_
      refine zcl (c_slices_Contains_int_int ((synC m i).getD (tgM m i) default).st _ (by have := hIG.f.sn; omega)) ?_
      refine zcd (fun h104 => ?_) (fun h104 => ?_)
      ·rw [hst] at h104
       have hcn := cnd_mt (m := m) (i := i) h102 h103 h104
       refine vm52 ?_
       refine WX_q rfl rfl (q_nil_ptr rfl rfl) ?_
       refine vm67 ?_
       refine W_gh (Gh.open (id := 6) (i := (tgM m i)) (k := 2) 11 rfl rfl (setX vm183 rfl) rfl rfl) (W_gh (Gh.open (id := 6) (i := (tgM m i)) (k := 3) 12 rfl rfl (setX vm183 rfl) rfl rfl) (W_drawsH 10 [0, 1, 2, 3, 4, 5, 7, 8, 9, 10, 11] mixed vm175 rfl rfl (fun r0 => ?_) (fun _ h => h)))
       refine zsa 0 ?_
       refine zsa 1 ?_
       refine vm61 ?_
       refine zsa 6 ?_
       refine WA_branch (rs := [2]) vm175 rfl (AllB.cons ?_ AllB.nil)
       refine WB_rn [0, 1, 2, 3, 4, 5, 7, 8, 9, 10, 11] rfl rfl (WX_q rfl rfl (q_nil_rpt rfl rfl) (WL_nil ⟨rfl, ?_⟩))
       refine WA_branch (rs := [3]) vm175 rfl (AllB.cons ?_ AllB.nil)
       refine WB_rn [0, 1, 2, 3, 4, 5, 7, 8, 9, 10, 11] rfl rfl (WX_q rfl rfl (q_load_nest_struct G rfl rfl rfl rfl (setX vm183 rfl) rfl (.v (.own vm186 (.own vm186 (.own vm186 .nil))))) (WL_nil ⟨rfl, ?_⟩))
       refine WA_branch (rs := [7]) vm175 rfl (AllB.cons ?_ AllB.nil)
       refine WB_rn [0, 1, 2, 3, 4, 5, 7, 8, 9, 10, 11] rfl rfl (WX_call 15 rfl rfl rfl (ArgsOK.of rfl) (c_impl_raiseIrq ((synC m i).getD (tgM m i) default) _ _ hIG.f (by omega) htc) rfl rfl (WL_nil ⟨rfl, ?_⟩))
       refine WA_gh (Gh.detach (id := 6) rfl) (WA_gh (Gh.detach (id := 6) rfl) (WA_gh (Gh.detach (id := 6) rfl) (WA_branch (rs := [8]) vm175 rfl (AllB.cons ?_ AllB.nil))))
       refine WB_rn [0, 1, 2, 3, 4, 5, 7, 8, 9, 10, 11] rfl rfl (WX_q rfl rfl (q_nil_rpt rfl rfl) (WL_nil ⟨rfl, ?_⟩))
       refine WA_branch (rs := [9]) vm175 rfl (AllB.cons ?_ AllB.nil)
       refine WB_rn [0, 1, 2, 3, 4, 5, 7, 8, 9, 10, 11] rfl rfl (WX_store_nest G rfl rfl rfl rfl rfl (setX vm183 rfl) rfl rfl (.v rfl (.own rfl (.own rfl (.own rfl .nil)))) rfl rfl rfl (Nat.le_of_ble_eq_true rfl) (fun q h => by cases h) rfl (WL_nil ⟨rfl, ?_⟩))
       refine vm15 ?_
       refine zgo ?_
       refine ⟨(i + 1), ?_, ?_, ⟨⟨_, rfl, by rfl⟩, rfl, trivial⟩, ⟨⟨_, rfl, by (first | (rw [synR_f hcn]; done) | (rw [synC_f hcn]; exact congrArg (fun z => Row.nest _ _ z []) (nst_back (by omega) rfl)) | (rw [synR_t hcn, List.map_set]; rfl) | (rw [synC_t hcn]; exact congrArg (fun z => Row.nest _ _ z []) vm189))⟩, rfl, rfl, ⟨⟨_, rfl, by (first | (rw [synR_f hcn]; done) | (rw [synC_f hcn]; exact congrArg (fun z => Row.nest _ _ z []) (nst_back (by omega) rfl)) | (rw [synR_t hcn, List.map_set]; rfl) | (rw [synC_t hcn]; exact congrArg (fun z => Row.nest _ _ z []) vm189))⟩, rfl, rfl, trivial⟩⟩, rfl, rfl, rfl⟩
       ·omega
       omega
      rw [hst] at h104
      have hcn := cnd_m3 (m := m) (i := i) h104
      refine vm51 ?_
      refine ⟨(i + 1), ?_, ?_, ⟨⟨_, rfl, by rfl⟩, rfl, trivial⟩, ⟨⟨_, rfl, by (first | (rw [synR_f hcn]; done) | (rw [synC_f hcn]; exact congrArg (fun z => Row.nest _ _ z []) (nst_back (by omega) rfl)) | (rw [synR_t hcn, List.map_set]; rfl) | (rw [synC_t hcn]; exact congrArg (fun z => Row.nest _ _ z []) vm189))⟩, rfl, rfl, ⟨⟨_, rfl, by (first | (rw [synR_f hcn]; done) | (rw [synC_f hcn]; exact congrArg (fun z => Row.nest _ _ z []) (nst_back (by omega) rfl)) | (rw [synR_t hcn, List.map_set]; rfl) | (rw [synC_t hcn]; exact congrArg (fun z => Row.nest _ _ z []) vm189))⟩, rfl, rfl, trivial⟩⟩, rfl, rfl, rfl⟩
      ·omega
      omega
     rw [synR_ge (Nat.le_refl _)] at h103
     have hcn := cnd_m2 (m := m) (i := i) h103
     refine zwf ?_
     refine vm51 ?_
     refine ⟨(i + 1), ?_, ?_, ⟨⟨_, rfl, by rfl⟩, rfl, trivial⟩, ⟨⟨_, rfl, by (first | (rw [synR_f hcn]; done) | (rw [synC_f hcn]; exact congrArg (fun z => Row.nest _ _ z []) (nst_back (by omega) rfl)) | (rw [synR_t hcn, List.map_set]; rfl) | (rw [synC_t hcn]; exact congrArg (fun z => Row.nest _ _ z []) vm189))⟩, rfl, rfl, ⟨⟨_, rfl, by (first | (rw [synR_f hcn]; done) | (rw [synC_f hcn]; exact congrArg (fun z => Row.nest _ _ z []) (nst_back (by omega) rfl)) | (rw [synR_t hcn, List.map_set]; rfl) | (rw [synC_t hcn]; exact congrArg (fun z => Row.nest _ _ z []) vm189))⟩, rfl, rfl, trivial⟩⟩, rfl, rfl, rfl⟩
     ·omega
     omega
    have hcn := cnd_m1 (m := m) (i := i) h102
    refine zwf ?_
    refine vm51 ?_
    refine ⟨(i + 1), ?_, ?_, ⟨⟨_, rfl, by rfl⟩, rfl, trivial⟩, ⟨⟨_, rfl, by (first | (rw [synR_f hcn]; done) | (rw [synC_f hcn]; exact congrArg (fun z => Row.nest _ _ z []) (nst_back (by omega) rfl)) | (rw [synR_t hcn, List.map_set]; rfl) | (rw [synC_t hcn]; exact congrArg (fun z => Row.nest _ _ z []) vm189))⟩, rfl, rfl, ⟨⟨_, rfl, by (first | (rw [synR_f hcn]; done) | (rw [synC_f hcn]; exact congrArg (fun z => Row.nest _ _ z []) (nst_back (by omega) rfl)) | (rw [synR_t hcn, List.map_set]; rfl) | (rw [synC_t hcn]; exact congrArg (fun z => Row.nest _ _ z []) vm189))⟩, rfl, rfl, trivial⟩⟩, rfl, rfl, rfl⟩
    ·omega
    omega
   obtain rfl : i = 8 := (by omega)
   exact W_exit ⟨.inl rfl, rfl, rfl⟩
  refine ⟨rfl, ?_⟩
  refine vm100 ?_
  first | refine W_gh (Gh.nestF (id := 6) _ rfl (flPut (x := (takIT (m.cp.getD c default)).1) (.cons .s (.cons .s (.cons .s (.cons .t .nil)))))) ?_ | refine W_gh (Gh.nestF (id := 6) _ rfl (flPut (x := (leaIT (m.cp.getD c default)).1) (.cons .s (.cons .s (.cons .s (.cons .t .nil)))))) ?_ | refine W_gh (Gh.nestF (id := 6) _ rfl (flPut (x := ⟨sv, (m.cp.getD c default).st, (m.cp.getD c default).qu⟩) (.cons .s (.cons .s (.cons .s (.cons .s .nil)))))) ?_ | skip
  refine zgo ?_
  refine W_ret (fin_shp rfl rfl rfl rfl (rcs_cons (rc_own rfl ?_) (rcs_cons (rc_own rfl ?_) (rcs_cons (rc_own rfl ?_) (rcs_cons (rc_ne rfl ?_) (rcs_cons (rc_v ?_) (rcs_cons (rc_v ?_) rcs_nil)))))))
  all_goals exact vm126
 refine zcd (fun h3 => ?_) (fun h3 => ?_)
 ·have hc := sv_c hv (by omega)
  obtain ⟨c, rfl⟩ : ∃ c : Nat, sc = c := ⟨sc.toNat, by omega⟩
  obtain ⟨g1, g2, g3⟩ := hM.lens (k := c) (by omega)
  have hIG := hM.ok c (by omega)
  have hS := sm3T (m := m) (sq := sq) (sv := sv) (c := c) h3
  refine W_drawsH 19 [0, 1, 2, 3, 4, 5, 7] mixed vm175 rfl rfl (fun r0 => ?_) (fun _ h => h)
  refine vm23 ?_
  refine vm61 ?_
  refine vm36 ?_
  refine WA_branch (rs := [10]) vm175 rfl (AllB.cons ?_ AllB.nil)
  refine WB_rn [0, 1, 2, 3, 4, 5, 7] rfl rfl (WX_call 11 rfl rfl rfl (ArgsOK.of rfl) (c_impl_takeIrq (m.cp.getD c default) hIG.f) rfl rfl (WL_nil ⟨rfl, ?_⟩))
  refine zsa 11 ?_
  refine zsa 12 ?_
  refine zsa 13 ?_
  refine zsa 14 ?_
  refine WA_branch (rs := [15]) vm175 rfl (AllB.cons ?_ AllB.nil)
  first | refine WB_run [0, 1, 2, 3, 4, 5, 7] rfl rfl (WX_q rfl rfl (q_index_nest G rfl rfl rfl rfl rfl (by omega) vm198) (WL_nil ⟨rfl, ?_⟩)) | refine WB_run [0, 1, 2, 3, 4, 5, 7] rfl rfl (WX_q rfl rfl (q_index_nest G rfl rfl rfl rfl rfl (by omega) vm183) (WL_nil ⟨rfl, ?_⟩)) | refine WB_run [0, 1, 2, 3, 4, 5, 7] rfl rfl (WX_q rfl rfl (q_index_nest G rfl rfl rfl rfl rfl (by omega) (by omega)) (WL_nil ⟨rfl, ?_⟩))
  refine WA_branch (rs := [16]) vm175 rfl (AllB.cons ?_ AllB.nil)
  first | refine WB_run [0, 1, 2, 3, 4, 5, 7] rfl rfl (WX_store_nest G rfl rfl rfl rfl rfl (getM (by omega) (by omega)) rfl rfl (.v rfl (.own rfl (.own rfl (.own rfl .nil)))) rfl rfl rfl (Nat.le_of_ble_eq_true rfl) (fun q h => by cases h) rfl (WL_nil ⟨rfl, ?_⟩)) | refine WB_run [0, 1, 2, 3, 4, 5, 7] rfl rfl (WX_store_nest G rfl rfl rfl rfl rfl (getNI (by omega) (by omega)) rfl rfl (.v rfl (.own rfl (.own rfl (.own rfl .nil)))) rfl rfl rfl (Nat.le_of_ble_eq_true rfl) (fun q h => by cases h) rfl (WL_nil ⟨rfl, ?_⟩)) | refine WB_run [0, 1, 2, 3, 4, 5, 7] rfl rfl (WX_store_nest G rfl rfl rfl rfl rfl (setX vm183 rfl) rfl rfl (.v rfl (.own rfl (.own rfl (.own rfl .nil)))) rfl rfl rfl (Nat.le_of_ble_eq_true rfl) (fun q h => by cases h) rfl (WL_nil ⟨rfl, ?_⟩))
  refine zsa 17 ?_
  refine zsa 18 ?_
  refine vm15 ?_
  refine W_sq ?_
  first | refine W_gh (Gh.nestF (id := 6) _ rfl (flPut (x := (takIT (m.cp.getD c default)).1) (.cons .s (.cons .s (.cons .s (.cons .t .nil)))))) ?_ | refine W_gh (Gh.nestF (id := 6) _ rfl (flPut (x := (leaIT (m.cp.getD c default)).1) (.cons .s (.cons .s (.cons .s (.cons .t .nil)))))) ?_ | refine W_gh (Gh.nestF (id := 6) _ rfl (flPut (x := ⟨sv, (m.cp.getD c default).st, (m.cp.getD c default).qu⟩) (.cons .s (.cons .s (.cons .s (.cons .s .nil)))))) ?_ | skip
  refine zgo ?_
  refine W_ret (fin_shp rfl rfl rfl rfl (rcs_cons (rc_own rfl ?_) (rcs_cons (rc_own rfl ?_) (rcs_cons (rc_own rfl ?_) (rcs_cons (rc_ne rfl ?_) (rcs_cons (rc_v ?_) (rcs_cons (rc_v ?_) rcs_nil)))))))
  all_goals exact vm126
 refine zcd (fun h4 => ?_) (fun h4 => ?_)
 ·have hc := sv_c hv (by omega)
  obtain ⟨c, rfl⟩ : ∃ c : Nat, sc = c := ⟨sc.toNat, by omega⟩
  obtain ⟨g1, g2, g3⟩ := hM.lens (k := c) (by omega)
  have hIG := hM.ok c (by omega)
  have hS := sm4T (m := m) (sq := sq) (sv := sv) (c := c) h4
  refine W_drawsH 19 [0, 1, 2, 3, 4, 5, 7] mixed vm175 rfl rfl (fun r0 => ?_) (fun _ h => h)
  refine vm23 ?_
  refine vm61 ?_
  refine vm36 ?_
  refine WA_branch (rs := [10]) vm175 rfl (AllB.cons ?_ AllB.nil)
  refine WB_rn [0, 1, 2, 3, 4, 5, 7] rfl rfl (WX_call 11 rfl rfl rfl (ArgsOK.of rfl) (c_impl_leaveIrq_all (m.cp.getD c default) hIG) rfl rfl (WL_nil ⟨rfl, ?_⟩))
  refine zsa 11 ?_
  refine zsa 12 ?_
  refine zsa 13 ?_
  refine zsa 14 ?_
  refine WA_branch (rs := [15]) vm175 rfl (AllB.cons ?_ AllB.nil)
  first | refine WB_run [0, 1, 2, 3, 4, 5, 7] rfl rfl (WX_q rfl rfl (q_index_nest G rfl rfl rfl rfl rfl (by omega) vm198) (WL_nil ⟨rfl, ?_⟩)) | refine WB_run [0, 1, 2, 3, 4, 5, 7] rfl rfl (WX_q rfl rfl (q_index_nest G rfl rfl rfl rfl rfl (by omega) vm183) (WL_nil ⟨rfl, ?_⟩)) | refine WB_run [0, 1, 2, 3, 4, 5, 7] rfl rfl (WX_q rfl rfl (q_index_nest G rfl rfl rfl rfl rfl (by omega) (by omega)) (WL_nil ⟨rfl, ?_⟩))
  refine WA_branch (rs := [16]) vm175 rfl (AllB.cons ?_ AllB.nil)
  first | refine WB_run [0, 1, 2, 3, 4, 5, 7] rfl rfl (WX_store_nest G rfl rfl rfl rfl rfl (getM (by omega) (by omega)) rfl rfl (.v rfl (.own rfl (.own rfl (.own rfl .nil)))) rfl rfl rfl (Nat.le_of_ble_eq_true rfl) (fun q h => by cases h) rfl (WL_nil ⟨rfl, ?_⟩)) | refine WB_run [0, 1, 2, 3, 4, 5, 7] rfl rfl (WX_store_nest G rfl rfl rfl rfl rfl (getNI (by omega) (by omega)) rfl rfl (.v rfl (.own rfl (.own rfl (.own rfl .nil)))) rfl rfl rfl (Nat.le_of_ble_eq_true rfl) (fun q h => by cases h) rfl (WL_nil ⟨rfl, ?_⟩)) | refine WB_run [0, 1, 2, 3, 4, 5, 7] rfl rfl (WX_store_nest G rfl rfl rfl rfl rfl (setX vm183 rfl) rfl rfl (.v rfl (.own rfl (.own rfl (.own rfl .nil)))) rfl rfl rfl (Nat.le_of_ble_eq_true rfl) (fun q h => by cases h) rfl (WL_nil ⟨rfl, ?_⟩))
  refine zsa 17 ?_
  refine zsa 18 ?_
  refine vm15 ?_
  refine W_sq ?_
  first | refine W_gh (Gh.nestF (id := 6) _ rfl (flPut (x := (takIT (m.cp.getD c default)).1) (.cons .s (.cons .s (.cons .s (.cons .t .nil)))))) ?_ | refine W_gh (Gh.nestF (id := 6) _ rfl (flPut (x := (leaIT (m.cp.getD c default)).1) (.cons .s (.cons .s (.cons .s (.cons .t .nil)))))) ?_ | refine W_gh (Gh.nestF (id := 6) _ rfl (flPut (x := ⟨sv, (m.cp.getD c default).st, (m.cp.getD c default).qu⟩) (.cons .s (.cons .s (.cons .s (.cons .s .nil)))))) ?_ | skip
  refine zgo ?_
  refine W_ret (fin_shp rfl rfl rfl rfl (rcs_cons (rc_own rfl ?_) (rcs_cons (rc_own rfl ?_) (rcs_cons (rc_own rfl ?_) (rcs_cons (rc_ne rfl ?_) (rcs_cons (rc_v ?_) (rcs_cons (rc_v ?_) rcs_nil)))))))
  all_goals exact vm126
 refine zcd (fun h5 => ?_) (fun h5 => ?_)
 ·have hc := sv_c hv (by omega)
  obtain ⟨c, rfl⟩ : ∃ c : Nat, sc = c := ⟨sc.toNat, by omega⟩
  obtain ⟨g1, g2, g3⟩ := hM.lens (k := c) (by omega)
  have hIG := hM.ok c (by omega)
  have hS := sm5 (m := m) (sq := sq) (sv := sv) (c := c) h5
  refine vm30 ?_
  refine WX_q rfl rfl (q_field_rpt G rfl rfl rfl rfl) ?_
  refine vm7 ?_
  first | refine WX_store_nest G rfl rfl rfl rfl rfl (getM (by omega) (by omega)) rfl rfl (.v rfl .nil) rfl rfl rfl (Nat.le_of_ble_eq_true rfl) (fun q h => by cases h) rfl ?_ | refine WX_store_nest G rfl rfl rfl rfl rfl (getNI (by omega) (by omega)) rfl rfl (.v rfl .nil) rfl rfl rfl (Nat.le_of_ble_eq_true rfl) (fun q h => by cases h) rfl ?_ | refine WX_store_nest G rfl rfl rfl rfl rfl (setX vm183 rfl) rfl rfl (.v rfl .nil) rfl rfl rfl (Nat.le_of_ble_eq_true rfl) (fun q h => by cases h) rfl ?_
  refine vm100 ?_
  first | refine W_gh (Gh.nestF (id := 6) _ rfl (flPut (x := (takIT (m.cp.getD c default)).1) (.cons .s (.cons .s (.cons .s (.cons .t .nil)))))) ?_ | refine W_gh (Gh.nestF (id := 6) _ rfl (flPut (x := (leaIT (m.cp.getD c default)).1) (.cons .s (.cons .s (.cons .s (.cons .t .nil)))))) ?_ | refine W_gh (Gh.nestF (id := 6) _ rfl (flPut (x := ⟨sv, (m.cp.getD c default).st, (m.cp.getD c default).qu⟩) (.cons .s (.cons .s (.cons .s (.cons .s .nil)))))) ?_ | skip
  refine zgo ?_
  refine W_ret (fin_shp rfl rfl rfl rfl (rcs_cons (rc_own rfl ?_) (rcs_cons (rc_own rfl ?_) (rcs_cons (rc_own rfl ?_) (rcs_cons (rc_ne rfl ?_) (rcs_cons (rc_v ?_) (rcs_cons (rc_v ?_) rcs_nil)))))))
  all_goals exact vm126
 refine zcd (fun h6 => ?_) (fun h6 => ?_)
 ·have hq := sv_q hv (by omega)
  obtain ⟨q, rfl⟩ : ∃ q : Nat, sq = q := ⟨sq.toNat, by omega⟩
  have hS := sm6 (m := m) (sk := sk) (sc := sc) (sv := sv) (q := q) h6
  refine vm16 ?_
  refine vm100 ?_
  first | refine W_gh (Gh.nestF (id := 6) _ rfl (flPut (x := (takIT (m.cp.getD c default)).1) (.cons .s (.cons .s (.cons .s (.cons .t .nil)))))) ?_ | refine W_gh (Gh.nestF (id := 6) _ rfl (flPut (x := (leaIT (m.cp.getD c default)).1) (.cons .s (.cons .s (.cons .s (.cons .t .nil)))))) ?_ | refine W_gh (Gh.nestF (id := 6) _ rfl (flPut (x := ⟨sv, (m.cp.getD c default).st, (m.cp.getD c default).qu⟩) (.cons .s (.cons .s (.cons .s (.cons .s .nil)))))) ?_ | skip
  refine zgo ?_
  refine W_ret (fin_shp rfl rfl rfl rfl (rcs_cons (rc_own rfl ?_) (rcs_cons (rc_own rfl ?_) (rcs_cons (rc_own rfl ?_) (rcs_cons (rc_ne rfl ?_) (rcs_cons (rc_v ?_) (rcs_cons (rc_v ?_) rcs_nil)))))))
  all_goals exact vm126
 exact absurd (sv_k hv) (by omega)
end Go.Proofs.YtcnodpipinlpcaaGreat
