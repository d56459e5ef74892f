/- Texts merged into one: W6, M18, Q5, M23, L4, L5, L6. -/
import Derived.Test.YtpfhomblkgmkkaaGreatDoorPFnExactReplayLogE
set_option maxHeartbeats 4000000
set_option linter.unusedSimpArgs false
set_option linter.unusedVariables false
set_option maxRecDepth 20000
namespace Go.Proofs.YtpfhomblkgmkkaaGreatDoor
open Go Go.Rf
theorem a2d:a0K Tryz.prog 98 [.int .i64,.int .i64,.int .i64,.int .i64]=true:=by kernel_rfl
theorem C4 (m:Mach) (c:Int) (hn:m.cp.length≤1048576):Ctr Tryz.prog 114 [.agg [.lst 2 (m.rs.map p8),.lst 1 (m.en.map r3),.lst 1 (m.ra.map r3),.nst none 4 (m.cp.map (s6 169 182))],.v (.int .i64 c)] (.one (.v (.bool (m8 c 0 ((m.cp.length:Int) - 1))))):=by
 refine Ctr.of (n:=11) G Tryz.func114 rfl b3 rfl rfl rfl (fun w0=>?_)
 refine o7 0 rfl (fun _=>rfl) (fun u0=>?_)
 refine vm1 ?_
 refine b17 ?_
 refine zf1 ?_
 all_goals exact b3m
theorem a38 (m:Mach) (s:MStep) (hn:m.cp.length≤1048576):Ctr Tryz.prog 119 [.agg [.lst 2 (m.rs.map p8),.lst 1 (m.en.map r3),.lst 1 (m.ra.map r3),.nst none 4 (m.cp.map (s6 169 182))],.v (b61 s)] (.one (.v (.bool (M6 m.cp.length s)))):=by
 refine Ctr.of (n:=75) G Tryz.func119 rfl b3 rfl rfl rfl (fun w0=>?_)
 refine o7 0 rfl (fun _=>rfl) (fun u0=>?_)
 refine b8R ?_
 refine zcd (fun h1=>?_) (fun h1=>?_)
 ·refine zcl (a0Q _) ?_
  refine zcd (fun h2=>?_) (fun h2=>?_)
  ·refine zcd (fun h3=>?_) (fun h3=>?_)
   ·refine zf1 ?_
    all_goals exact J5
   refine zf1 ?_
   all_goals exact J5
  refine zf1 ?_
  all_goals exact J5
 refine zcd (fun h4=>?_) (fun h4=>?_)
 ·refine vm5 ?_
  refine b6 rfl rfl (c3h [.int .i64,.int .i64,.int .i64,.int .i64] rfl rfl rfl rfl rfl rfl rfl (.inl rfl) (.inl rfl) a2d ⟨_,_,rfl,⟨_,rfl⟩,_,_,rfl,⟨_,rfl⟩,_,_,rfl,⟨_,rfl⟩,_,_,rfl,⟨_,rfl⟩,rfl⟩ ⟨_,_,rfl,⟨_,rfl⟩,_,_,rfl,⟨_,rfl⟩,_,_,rfl,⟨_,rfl⟩,_,_,rfl,⟨_,rfl⟩,rfl⟩) ?_
  refine zf1 ?_
  all_goals exact J5
 refine zcd (fun h5=>?_) (fun h5=>?_)
 ·refine zwt ?_
  refine zcd (fun h6=>?_) (fun h6=>?_)
  ·refine zcl (C4 m s.c hn) ?_
   refine zcd (fun h7=>?_) (fun h7=>?_)
   ·refine zf1 ?_
    all_goals exact J5
   refine zf1 ?_
   all_goals exact J5
  refine zf1 ?_
  all_goals exact J5
 refine zcd (fun h8=>?_) (fun h8=>?_)
 ·refine zcd (fun h9=>?_) (fun h9=>?_)
  ·refine zcl (C4 m s.c hn) ?_
   refine zcd (fun h10=>?_) (fun h10=>?_)
   ·refine zf1 ?_
    all_goals exact J5
   refine zf1 ?_
   all_goals exact J5
  refine zf1 ?_
  all_goals exact J5
 refine zcd (fun h11=>?_) (fun h11=>?_)
 ·refine zcd (fun h12=>?_) (fun h12=>?_)
  ·refine zcl (C4 m s.c hn) ?_
   refine zcd (fun h13=>?_) (fun h13=>?_)
   ·refine zcl (a4n _) ?_
    refine zf1 ?_
    all_goals exact J5
   refine zf1 ?_
   all_goals exact J5
  refine zf1 ?_
  all_goals exact J5
 refine zcd (fun h14=>?_) (fun h14=>?_)
 ·refine zcl (a0Q _) ?_
  refine zcd (fun h15=>?_) (fun h15=>?_)
  ·refine zcd (fun h16=>?_) (fun h16=>?_)
   ·refine b17 ?_
    refine zf1 ?_
    all_goals exact J5
   refine zf1 ?_
   all_goals exact J5
  refine zf1 ?_
  all_goals exact J5
 refine zf1 ?_
 all_goals exact J5
theorem a7c (m:Mach) (s:MStep) (hn:m.cp.length≤1048576):Ctr Tryz.prog 147 [.agg [.lst 2 (m.rs.map p8),.lst 1 (m.en.map r3),.lst 1 (m.ra.map r3),.nst none 4 (m.cp.map (s6 169 182))],.v (b61 s)] (.one (.v (.bool (M6 m.cp.length s)))):=by
 refine Ctr.of (n:=90) G Tryz.func147 rfl b3 rfl rfl rfl (fun w0=>?_)
 refine o7 0 rfl (fun _=>rfl) (fun u0=>?_)
 refine b8R ?_
 refine a96 ?_
 refine zcd (fun h1=>?_) (fun h1=>?_)
 ·refine zcl (a0R _) ?_
  refine zcd (fun h2=>?_) (fun h2=>?_)
  ·refine zcd (fun h3=>?_) (fun h3=>?_)
   ·refine zf1 ?_
    all_goals exact J5
   refine zf1 ?_
   all_goals exact J5
  refine zf1 ?_
  all_goals exact J5
 refine zcd (fun h4=>?_) (fun h4=>?_)
 ·refine zcd (fun h5=>?_) (fun h5=>?_)
  ·refine zcd (fun h6=>?_) (fun h6=>?_)
   ·refine zf1 ?_
    all_goals exact J5
   refine zf1 ?_
   all_goals exact J5
  refine zf1 ?_
  all_goals exact J5
 refine zcd (fun h7=>?_) (fun h7=>?_)
 ·refine zwt ?_
  refine zcd (fun h8=>?_) (fun h8=>?_)
  ·refine zcd (fun h9=>?_) (fun h9=>?_)
   ·refine zf1 ?_
    all_goals exact J5
   refine zf1 ?_
   all_goals exact J5
  refine zf1 ?_
  all_goals exact J5
 refine zcd (fun h10=>?_) (fun h10=>?_)
 ·refine zcd (fun h11=>?_) (fun h11=>?_)
  ·refine zcd (fun h12=>?_) (fun h12=>?_)
   ·refine zf1 ?_
    all_goals exact J5
   refine zf1 ?_
   all_goals exact J5
  refine zf1 ?_
  all_goals exact J5
 refine zcd (fun h13=>?_) (fun h13=>?_)
 ·refine zcd (fun h14=>?_) (fun h14=>?_)
  ·refine zcd (fun h15=>?_) (fun h15=>?_)
   ·refine a96 ?_
    refine zf1 ?_
    all_goals exact J5
   refine zf1 ?_
   all_goals exact J5
  refine zf1 ?_
  all_goals exact J5
 refine zcd (fun h16=>?_) (fun h16=>?_)
 ·refine zcl (a0R _) ?_
  refine zcd (fun h17=>?_) (fun h17=>?_)
  ·refine zcd (fun h18=>?_) (fun h18=>?_)
   ·refine a96 ?_
    refine zf1 ?_
    all_goals exact J5
   refine zf1 ?_
   all_goals exact J5
  refine zf1 ?_
  all_goals exact J5
 refine zf1 ?_
 all_goals exact J5
end Go.Proofs.YtpfhomblkgmkkaaGreatDoor
set_option maxRecDepth 20000
namespace Go.Proofs.YtpfhomblkgmkkaaGreatDoor
open Go Go.Rf
theorem a9Q (m:Mach) (hM:MaG m) (hs:SmallM m):Ctr Tryz.prog 145 [.agg [.lst 2 (m.rs.map p8),.lst 1 (m.en.map r3),.lst 1 (m.ra.map r3),.nst none 4 (m.cp.map (s6 169 182))]] (.shp true [some 5] [.fr 4 1 ((X4 m).en.map r3),.fr 4 1 ((X4 m).ra.map r3),.fr 4 1 ((X4 m).po.map r3),.fr 3 1 ((X4 m).ma.map Rf.r9),.ne 93 1 ((X4 m).st.map a5D)]):=by
 have f1:=hM.n
 have f2:=hM.en
 have f3:=hM.ra
 have f4:=hM.rn
 refine Ctr.of (n:=70) G Tryz.func145 rfl b3 rfl rfl rfl (fun w0=>?_)
 refine o7 0 rfl (fun _=>rfl) (fun u0=>?_)
 refine T5 ?_
 refine zgn ?_
 refine u4 (l4 14 [0,1] mixed b3 rfl rfl (fun r0=>?_) (fun _ h=>h))
 refine zsa 1 ?_
 refine zsa 2 ?_
 refine a1f ?_
 refine w3 (N:=8) rfl (p4 (fuel:=4) [⟨0,7,2,false,.row 4 1 []⟩,⟨4,11,3,false,.row 4 1 []⟩,⟨8,15,4,false,.row 4 1 (List.replicate 8 [.bool false])⟩,⟨9,16,5,false,.row 3 1 []⟩,⟨10,17,6,false,.row 93 1 []⟩,⟨12,3,7,true,.box (avR [.slice none 0 0,.slice none 0 0,.slice none 0 0,.slice none 0 0,.slice none 0 0] [])⟩] (AllVOK.cons (VOK.lit G rfl rfl rfl rfl rfl) (AllVOK.cons (VOK.lit G rfl rfl rfl rfl rfl) (AllVOK.cons (VOK.make (n:=8) G rfl rfl rfl rfl rfl (by decide) (by decide)) (AllVOK.cons (VOK.lit G rfl rfl rfl rfl rfl) (AllVOK.cons (VOK.lit G rfl rfl rfl rfl rfl) (AllVOK.cons (VOK.boxS G rfl rfl rfl rfl rfl) (AllVOK.nil))))))) (fun hok=>?_))
 refine j3 [(3,[0])] b3 b3 (fun e he=>hok e he) b3 (AllVS.cons ?_ AllVS.nil)
 refine VStep.mk1 [0,1] 7 (.own 2) 2 (.row 4 1 []) [⟨4,11,3,false,.row 4 1 []⟩,⟨8,15,4,false,.row 4 1 (List.replicate 8 [.bool false])⟩,⟨9,16,5,false,.row 3 1 []⟩,⟨10,17,6,false,.row 93 1 []⟩,⟨12,3,7,true,.box (avR [.slice none 0 0,.slice none 0 0,.slice none 0 0,.slice none 0 0,.slice none 0 0] [])⟩] rfl rfl rfl rfl rfl (fun b1 _ hbn=>g9 G N3 rfl rfl rfl rfl rfl rfl rfl rfl rfl F3 rfl rfl (b4 rfl)) b3 b3 b3 b3 (j3 [(7,[4])] b3 b3 (fun e he=>hok e (vin (is:=[0]) rfl he)) b3 (AllVS.cons ?_ AllVS.nil))
 refine VStep.mk1 [0,1] 11 (.own 3) 3 (.row 4 1 []) [⟨8,15,4,false,.row 4 1 (List.replicate 8 [.bool false])⟩,⟨9,16,5,false,.row 3 1 []⟩,⟨10,17,6,false,.row 93 1 []⟩,⟨12,3,7,true,.box (avR [.slice none 0 0,.slice none 0 0,.slice none 0 0,.slice none 0 0,.slice none 0 0] [])⟩] rfl rfl rfl rfl rfl (fun b1 _ hbn=>g9 G N3 rfl rfl rfl rfl rfl rfl rfl rfl rfl F3 rfl rfl (b4 rfl)) b3 b3 b3 b3 (j3 [(11,[8,9,10])] b3 b3 (fun e he=>hok e (vin (is:=[0,4]) rfl he)) b3 (AllVS.cons ?_ AllVS.nil))
 refine VStep.mk3 [0,1] 15 (.own 4) 4 (.row 4 1 (List.replicate 8 [.bool false])) 16 (.own 5) 5 (.row 3 1 []) 17 (.own 6) 6 (.row 93 1 []) [⟨12,3,7,true,.box (avR [.slice none 0 0,.slice none 0 0,.slice none 0 0,.slice none 0 0,.slice none 0 0] [])⟩] rfl rfl rfl rfl rfl (fun b1 _ hbn=>b6 rfl rfl (v8 G rfl rfl rfl rfl) (b4 rfl)) b3 b3 b3 b3 (j3 [(13,[12])] b3 b3 (fun e he=>hok e (vin (is:=[0,4,8,9,10]) rfl he)) b3 (AllVS.cons ?_ AllVS.nil))
 refine VStep.mk1 [0,1] 3 (.ptr 7 0) 7 (.box (avR [.slice none 0 0,.slice none 0 0,.slice none 0 0,.slice none 0 0,.slice none 0 0] [])) [] rfl rfl rfl rfl rfl (fun b1 _ hbn=>j7 G rfl rfl rfl rfl rfl rfl rfl rfl rfl rfl rfl (b4 rfl)) b3 b3 b3 b3 (B3 ?_)
 clear hok
 refine a1Y (Gh.nest (id:=6) (yss:=[]) rfl rfl (by intro _ _ _ h;simp at h)) ?_
 refine G3 ?_
 refine zgo ?_
 refine i7 [1,2,3] [0,1,2,3,7] (fun (k:Nat)=>[(4,.v (.int .i64 (k:Int)))]) (fun (k:Nat)=>[(4,some (.row 4 1 ((poN m k).map r3))),(5,some (.row 3 1 (((m.cp.map (fun x=>x.ma)).take k).map Rf.r9))),(6,some (.nest 93 1 (((m.cp.map (fun x=>x.st)).take k).map a5D) []))]) (fun (k:Nat)=>k≤m.cp.length) (fun (k:Nat)=>m.cp.length - k) 0 rfl rfl ?_ ?_ ?_ ?_
 ·exact Nat.zero_le _
 ·exact ⟨⟨_,rfl,by rfl⟩,rfl,trivial⟩
 ·exact ⟨⟨_,rfl,by rfl⟩,rfl,rfl,⟨⟨_,rfl,by rfl⟩,rfl,rfl,⟨⟨_,rfl,by rfl⟩,rfl,rfl,trivial⟩⟩⟩
 intro k hk
 have hp8:=@J1 m k
 have hm1:(m.cp.map (fun x=>x.ma)).length=m.cp.length:=List.length_map _
 have hm2:(m.cp.map (fun x=>x.st)).length=m.cp.length:=List.length_map _
 simp only [List.cons_append,List.nil_append]
 refine zcd (fun h1=>?_) (fun h1=>?_)
 ·have hI:=(hM.ok k (by omega)).f
  have hsn:=hI.sn
  have hpl:=a15 hI.qu
  refine vm5 ?_
  refine b15 ?_
  refine vm5 ?_
  refine d7 9 rfl rfl rfl (ArgsOK.of rfl) (Z3 (m.cp.getD k default).qu hI.qu) rfl rfl ?_
  refine zgo ?_
  refine i7 [1,2,3,4,5] [0,1,2,3,5,6,7,8] (fun (i:Nat)=>[(6,.v (.int .i64 (i:Int)))]) (fun (i:Nat)=>[(4,some (.row 4 1 ((b26 (poN m k) (D6 (m.cp.getD k default).qu) i).map r3)))]) (fun (i:Nat)=>i≤(D6 (m.cp.getD k default).qu).length) (fun (i:Nat)=>(D6 (m.cp.getD k default).qu).length - i) 0 rfl rfl ?_ ?_ ?_ ?_
  ·exact Nat.zero_le _
  ·exact ⟨⟨_,rfl,by rfl⟩,rfl,trivial⟩
  ·exact ⟨⟨_,rfl,by rfl⟩,rfl,rfl,trivial⟩
  intro i hi
  have hbp:=fun h=>b1J hI.qu (i:=i) h
  have hpo:=@H7 (poN m k) (D6 (m.cp.getD k default).qu) i
  have hp8:=@J1 m k
  simp only [List.cons_append,List.nil_append]
  refine zcd (fun h2=>?_) (fun h2=>?_)
  ·have hbq:=hbp (by omega)
   refine zgn ?_
   refine u4 (w7 (l4 8 [0,1,2,3,5,6,7,8] mixed b3 rfl rfl (fun r0=>?_) (fun _ h=>h)))
   refine a1e ?_
   first | refine e9 4 rfl b3 b3 rfl rfl rfl rfl (b8 G rfl rfl rfl rfl rfl (by omega) a1z) ?_ | refine e9 4 rfl b3 b3 rfl rfl rfl rfl (b8 G rfl rfl rfl rfl rfl (by omega) (by rw [List.length_map,H7,J1];omega)) ?_ | refine e9 4 rfl b3 b3 rfl rfl rfl rfl (b8 G rfl rfl rfl rfl rfl (by omega) C3) ?_ | refine e9 4 rfl b3 b3 rfl rfl rfl rfl (b8 G rfl rfl rfl rfl rfl (by omega) (by omega)) ?_
   first | refine e9 5 rfl b3 b3 rfl rfl rfl rfl (j6 G rfl rfl rfl rfl rfl (a1P (by omega)) rfl) ?_ | refine e9 5 rfl b3 b3 rfl rfl rfl rfl (j6 G rfl rfl rfl rfl rfl (B4 (by omega) (by rw [H7,J1];omega)) rfl) ?_ | refine e9 5 rfl b3 b3 rfl rfl rfl rfl (j6 G rfl rfl rfl rfl rfl (B4 (by omega) (by omega)) rfl) ?_
   refine b5 (rs:=[6]) b3 rfl (AllB.cons ?_ AllB.nil)
   first | refine c7 [0,1,2,3,5,6,7,8] rfl rfl (b6 rfl rfl (b8 G rfl rfl rfl rfl rfl (by omega) a1z) (b4 ⟨rfl,?_⟩)) | refine c7 [0,1,2,3,5,6,7,8] rfl rfl (b6 rfl rfl (b8 G rfl rfl rfl rfl rfl (by omega) (by rw [List.length_map,H7,J1];omega)) (b4 ⟨rfl,?_⟩)) | refine c7 [0,1,2,3,5,6,7,8] rfl rfl (b6 rfl rfl (b8 G rfl rfl rfl rfl rfl (by omega) C3) (b4 ⟨rfl,?_⟩)) | refine c7 [0,1,2,3,5,6,7,8] rfl rfl (b6 rfl rfl (b8 G rfl rfl rfl rfl rfl (by omega) (by omega)) (b4 ⟨rfl,?_⟩))
   refine b5 (rs:=[7]) b3 rfl (AllB.cons ?_ AllB.nil)
   first | refine c7 [0,1,2,3,5,6,7,8] rfl rfl (f8 G rfl rfl rfl rfl rfl (a1P (by omega)) rfl rfl rfl rfl rfl (Nat.le_of_ble_eq_true rfl) rfl (b4 ⟨rfl,?_⟩)) | refine c7 [0,1,2,3,5,6,7,8] rfl rfl (f8 G rfl rfl rfl rfl rfl (B4 (by omega) (by rw [H7,J1];omega)) rfl rfl rfl rfl rfl (Nat.le_of_ble_eq_true rfl) rfl (b4 ⟨rfl,?_⟩)) | refine c7 [0,1,2,3,5,6,7,8] rfl rfl (f8 G rfl rfl rfl rfl rfl (B4 (by omega) (by omega)) rfl rfl rfl rfl rfl (Nat.le_of_ble_eq_true rfl) rfl (b4 ⟨rfl,?_⟩))
   refine G3 ?_
   refine zgo ?_
   refine ⟨(i+1),?_,?_,⟨⟨_,rfl,by rfl⟩,rfl,trivial⟩,⟨⟨_,rfl,by (first | rfl | (exact congrArg (fun z=>Row.row _ _ z) (a1x (by omega))) | (exact congrArg (fun z=>Row.nest _ _ z []) (a1y (by omega) rfl)) | (exact congrArg (fun z=>Row.row _ _ z) b5x) | (obtain rfl:i=(D6 (m.cp.getD k default).qu).length:=(by omega);rfl))⟩,rfl,rfl,trivial⟩,rfl,rfl,rfl⟩
   ·omega
   omega
  refine zgo ?_
  apply x5 [1,2,3,4] [0,1,2,3,4,6,7,10] 11 12 [0,1,2,3,4,6,8] mixed b3 rfl rfl (fun _ h=>znk h)
  ·intro r0
   refine zsa 0 ?_
   refine zsa 2 ?_
   refine zsa 3 ?_
   refine zsa 4 ?_
   refine zsa 5 ?_
   refine e9 6 rfl b3 b3 rfl rfl rfl rfl (a0G G rfl rfl rfl rfl) (e9 7 rfl b3 b3 rfl rfl rfl rfl (S2 G rfl rfl rfl rfl) (b5 (rs:=[1,8]) b3 rfl (AllB.cons ?_ (AllB.cons ?_ AllB.nil))))
   ·refine i1 [0,1,2,3,4,6,8] rfl rfl ?_
    refine vm9 ?_
    refine b5 (rs:=[8]) b3 rfl (AllB.cons ?_ AllB.nil)
    refine i1 [0,1,2,3,4,6,8] rfl rfl (s2 G 10 rfl rfl rfl rfl rfl rfl rfl rfl (b4 ⟨rfl,?_⟩))
    refine b5 (rs:=[9]) b3 rfl (AllB.cons ?_ AllB.nil)
    refine c7 [0,1,2,3,4,6,8] rfl rfl (v6 (Gh.forget (id:=7) (k:=3) rfl rfl)<|v6 (Gh.keep [0,1,2,3,4,5,6,7,8,9] rfl)<|C6 (tx:=47) 11 rfl rfl rfl rfl rfl<|g9 G A1 rfl rfl rfl rfl rfl rfl rfl rfl rfl F3 rfl rfl (b4 ⟨rfl,?_⟩))
    refine zsa 10 ?_
    refine b5 (rs:=[11]) b3 rfl (AllB.cons ?_ AllB.nil)
    refine i1 [0,1,2,3,4,6,8] rfl rfl ?_
    refine vm9 ?_
    exact l6 b3 (Meet.mk rfl rfl rfl rfl)
   refine i1 [0,1,2,3,4,6,8] rfl rfl (s2 G 10 rfl rfl rfl rfl rfl rfl rfl rfl (b4 ⟨rfl,?_⟩))
   refine b5 (rs:=[1]) b3 rfl (AllB.cons ?_ AllB.nil)
   refine i1 [0,1,2,3,4,6,8] rfl rfl ?_
   refine vm9 ?_
   refine b5 (rs:=[9]) b3 rfl (AllB.cons ?_ AllB.nil)
   refine c7 [0,1,2,3,4,6,8] rfl rfl (v6 (Gh.forget (id:=7) (k:=3) rfl rfl)<|v6 (Gh.keep [0,1,2,3,4,5,6,7,8,9] rfl)<|C6 (tx:=47) 11 rfl rfl rfl rfl rfl<|g9 G A1 rfl rfl rfl rfl rfl rfl rfl rfl rfl F3 rfl rfl (b4 ⟨rfl,?_⟩))
   refine zsa 10 ?_
   refine b5 (rs:=[11]) b3 rfl (AllB.cons ?_ AllB.nil)
   refine i1 [0,1,2,3,4,6,8] rfl rfl ?_
   refine vm9 ?_
   exact l6 b3 (Meet.mk rfl rfl rfl rfl)
  apply x5 [1,2,3,4] [0,1,2,3,4,7,10,13] 14 13 [0,1,2,3,4,10] mixed b3 rfl rfl (fun _ h=>znk h)
  ·intro r0
   refine zsa 0 ?_
   refine zsa 2 ?_
   refine zsa 3 ?_
   refine zsa 4 ?_
   refine zsa 5 ?_
   refine e9 6 rfl b3 b3 rfl rfl rfl rfl (a0G G rfl rfl rfl rfl) (e9 7 rfl b3 b3 rfl rfl rfl rfl (S2 G rfl rfl rfl rfl) (b5 (rs:=[1,8]) b3 rfl (AllB.cons ?_ (AllB.cons ?_ AllB.nil))))
   ·refine b6p ?_
    refine b5 (rs:=[8]) b3 rfl (AllB.cons ?_ AllB.nil)
    refine i1 [0,1,2,3,4,10] rfl rfl (d7 12 rfl rfl rfl (ArgsOK.of rfl) (H5 _ (by omega)) rfl rfl (b4 ⟨rfl,?_⟩))
    refine b5 (rs:=[9]) b3 rfl (AllB.cons ?_ AllB.nil)
    refine i1 [0,1,2,3,4,10] rfl rfl (r5 G 13 rfl rfl rfl rfl rfl rfl rfl rfl (.own rfl .nil) rfl rfl rfl rfl (b4 ⟨rfl,?_⟩))
    refine b5 (rs:=[10]) b3 rfl (AllB.cons ?_ AllB.nil)
    refine c7 [0,1,2,3,4,10] rfl rfl (v6 (Gh.forget (id:=7) (k:=4) rfl rfl)<|v6 (Gh.keep [0,1,2,3,4,6,7,10,12] rfl)<|C6 (tx:=58) 14 rfl rfl rfl rfl rfl<|m9 G A1 rfl rfl rfl rfl rfl rfl rfl rfl rfl rfl F3 rfl rfl (b4 ⟨rfl,?_⟩))
    refine zsa 11 ?_
    refine b5 (rs:=[12]) b3 rfl (AllB.cons ?_ AllB.nil)
    refine b6p ?_
    exact l6 b3 (Meet.mk rfl rfl rfl rfl)
   refine i1 [0,1,2,3,4,10] rfl rfl (d7 12 rfl rfl rfl (ArgsOK.of rfl) (H5 _ (by omega)) rfl rfl (b4 ⟨rfl,?_⟩))
   refine b5 (rs:=[1,9]) b3 rfl (AllB.cons ?_ (AllB.cons ?_ AllB.nil))
   ·refine b6p ?_
    refine b5 (rs:=[9]) b3 rfl (AllB.cons ?_ AllB.nil)
    refine i1 [0,1,2,3,4,10] rfl rfl (r5 G 13 rfl rfl rfl rfl rfl rfl rfl rfl (.own rfl .nil) rfl rfl rfl rfl (b4 ⟨rfl,?_⟩))
    refine b5 (rs:=[10]) b3 rfl (AllB.cons ?_ AllB.nil)
    refine c7 [0,1,2,3,4,10] rfl rfl (v6 (Gh.forget (id:=7) (k:=4) rfl rfl)<|v6 (Gh.keep [0,1,2,3,4,6,7,10,12] rfl)<|C6 (tx:=58) 14 rfl rfl rfl rfl rfl<|m9 G A1 rfl rfl rfl rfl rfl rfl rfl rfl rfl rfl F3 rfl rfl (b4 ⟨rfl,?_⟩))
    refine zsa 11 ?_
    refine b5 (rs:=[12]) b3 rfl (AllB.cons ?_ AllB.nil)
    refine b6p ?_
    exact l6 b3 (Meet.mk rfl rfl rfl rfl)
   refine i1 [0,1,2,3,4,10] rfl rfl (r5 G 13 rfl rfl rfl rfl rfl rfl rfl rfl (.own rfl .nil) rfl rfl rfl rfl (b4 ⟨rfl,?_⟩))
   refine b5 (rs:=[1]) b3 rfl (AllB.cons ?_ AllB.nil)
   refine b6p ?_
   refine b5 (rs:=[10]) b3 rfl (AllB.cons ?_ AllB.nil)
   refine c7 [0,1,2,3,4,10] rfl rfl (v6 (Gh.forget (id:=7) (k:=4) rfl rfl)<|v6 (Gh.keep [0,1,2,3,4,6,7,10,12] rfl)<|C6 (tx:=58) 14 rfl rfl rfl rfl rfl<|m9 G A1 rfl rfl rfl rfl rfl rfl rfl rfl rfl rfl F3 rfl rfl (b4 ⟨rfl,?_⟩))
   refine zsa 11 ?_
   refine b5 (rs:=[12]) b3 rfl (AllB.cons ?_ AllB.nil)
   refine b6p ?_
   exact l6 b3 (Meet.mk rfl rfl rfl rfl)
  refine a94 ?_
  refine G8 (Gh.sub 10 5 np rfl rfl rfl) (G8 (Gh.sub 13 6 np rfl rfl rfl) (b4 ⟨(k+1),?_,?_,⟨⟨_,rfl,by rfl⟩,rfl,trivial⟩,⟨⟨_,rfl,by (first | rfl | (exact congrArg (fun z=>Row.row _ _ z) (a1x (by omega))) | (exact congrArg (fun z=>Row.nest _ _ z []) (a1y (by omega) rfl)) | (exact congrArg (fun z=>Row.row _ _ z) b5x) | (obtain rfl:i=(D6 (m.cp.getD k default).qu).length:=(by omega);rfl))⟩,rfl,rfl,⟨⟨_,rfl,by (first | rfl | (exact congrArg (fun z=>Row.row _ _ z) (a1x (by omega))) | (exact congrArg (fun z=>Row.nest _ _ z []) (a1y (by omega) rfl)) | (exact congrArg (fun z=>Row.row _ _ z) b5x) | (obtain rfl:i=(D6 (m.cp.getD k default).qu).length:=(by omega);rfl))⟩,rfl,rfl,⟨⟨_,rfl,by (first | rfl | (exact congrArg (fun z=>Row.row _ _ z) (a1x (by omega))) | (exact congrArg (fun z=>Row.nest _ _ z []) (a1y (by omega) rfl)) | (exact congrArg (fun z=>Row.row _ _ z) b5x) | (obtain rfl:i=(D6 (m.cp.getD k default).qu).length:=(by omega);rfl))⟩,rfl,rfl,trivial⟩⟩⟩,rfl,rfl,rfl⟩))
  ·omega
  omega
 refine zgo ?_
 refine c6 (d9 rfl rfl rfl rfl (a7 (b7 rfl ?_) (a7 (b7 rfl ?_) (a7 (b7 rfl ?_) (a7 (b7 rfl ?_) (a7 (n7 rfl ?_) b9))))))
 all_goals (first | rfl | (obtain rfl:k=m.cp.length:=(by omega);first | rfl | (rw [b27 (Nat.le_refl _)];rfl)) | simp)
theorem a39 (m:Mach) (hM:MaG m) (hs:SmallM m):Ctr Tryz.prog 118 [.agg [.lst 2 (m.rs.map p8),.lst 1 (m.en.map r3),.lst 1 (m.ra.map r3),.nst none 4 (m.cp.map (s6 169 182))]] (.shp true [some 5] [.fr 4 1 ((X4 m).en.map r3),.fr 4 1 ((X4 m).ra.map r3),.fr 4 1 ((X4 m).po.map r3),.fr 3 1 ((X4 m).ma.map Rf.r9),.ne 93 1 ((X4 m).st.map a5D)]):=by
 have f1:=hM.n
 have f2:=hM.en
 have f3:=hM.ra
 have f4:=hM.rn
 refine Ctr.of (n:=57) G Tryz.func118 rfl (by kernel_rfl) rfl rfl rfl (fun w0=>?_)
 refine o7 0 rfl (fun _=>rfl) (fun u0=>?_)
 refine f9 (fun K1 hK1=>?_)
 refine d4 ?_
 refine a8 rfl ?_
 refine B0 1 rfl rfl rfl rfl rfl rfl rfl ?_
 refine a8 rfl ?_
 refine d8 G 2 rfl rfl rfl rfl rfl ?_
 refine b4 ?_
 refine hK1 _ ?_
 clear hK1 K1
 refine f9 (fun K2 hK2=>?_)
 refine l4 14 [0,1] mixed (by kernel_rfl) rfl rfl (fun r0=>?_) (fun _ h=>h)
 refine e9 1 rfl (by kernel_rfl) (by kernel_rfl) rfl rfl rfl rfl (l5 G rfl rfl rfl rfl) ?_
 refine e9 2 rfl (by kernel_rfl) (by kernel_rfl) rfl rfl rfl rfl (a5w (n9 G rfl rfl rfl rfl rfl rfl rfl)) ?_
 refine e9 5 rfl (by kernel_rfl) (by kernel_rfl) rfl rfl rfl rfl (l5 G rfl rfl rfl rfl) ?_
 refine e9 6 rfl (by kernel_rfl) (by kernel_rfl) rfl rfl rfl rfl (a5w (n9 G rfl rfl rfl rfl rfl rfl rfl)) ?_
 refine w3 (N:=8) rfl (p4 (fuel:=4) [⟨0,8,2,false,.row 4 1 []⟩,⟨4,12,3,false,.row 4 1 []⟩,⟨8,16,4,false,.row 4 1 (List.replicate 8 [.bool false])⟩,⟨9,17,5,false,.row 3 1 []⟩,⟨10,18,6,false,.row 93 1 []⟩,⟨12,3,7,true,.box (avR [.slice none 0 0,.slice none 0 0,.slice none 0 0,.slice none 0 0,.slice none 0 0] [])⟩] (AllVOK.cons (VOK.lit G rfl rfl rfl rfl rfl) (AllVOK.cons (VOK.lit G rfl rfl rfl rfl rfl) (AllVOK.cons (VOK.make (n:=8) G rfl rfl rfl rfl rfl (by decide) (by decide)) (AllVOK.cons (VOK.lit G rfl rfl rfl rfl rfl) (AllVOK.cons (VOK.lit G rfl rfl rfl rfl rfl) (AllVOK.cons (VOK.boxS G rfl rfl rfl rfl rfl) (AllVOK.nil))))))) (fun hok=>?_))
 refine j3 [(3,[0])] (by kernel_rfl) (by kernel_rfl) (fun e he=>hok e he) (by kernel_rfl) (AllVS.cons ?_ AllVS.nil)
 refine VStep.mk1 [0,1] 8 (.own 2) 2 (.row 4 1 []) [⟨4,12,3,false,.row 4 1 []⟩,⟨8,16,4,false,.row 4 1 (List.replicate 8 [.bool false])⟩,⟨9,17,5,false,.row 3 1 []⟩,⟨10,18,6,false,.row 93 1 []⟩,⟨12,3,7,true,.box (avR [.slice none 0 0,.slice none 0 0,.slice none 0 0,.slice none 0 0,.slice none 0 0] [])⟩] rfl rfl rfl rfl rfl (fun b1 _ hbn=>g9 G (by rw [hbn];exact Nat.le_of_ble_eq_true rfl) rfl rfl rfl rfl rfl rfl rfl rfl rfl (by first | (simp only [List.length_map,List.length_cons,List.length_nil];omega) | (simp;omega)) rfl rfl (b4 rfl)) (by kernel_rfl) (by kernel_rfl) (by kernel_rfl) (by kernel_rfl) ?_
 refine j3 [(7,[4])] (by kernel_rfl) (by kernel_rfl) (fun e he=>hok e (vin (is:=[0]) rfl he)) (by kernel_rfl) (AllVS.cons ?_ AllVS.nil)
 refine VStep.mk1 [0,1] 12 (.own 3) 3 (.row 4 1 []) [⟨8,16,4,false,.row 4 1 (List.replicate 8 [.bool false])⟩,⟨9,17,5,false,.row 3 1 []⟩,⟨10,18,6,false,.row 93 1 []⟩,⟨12,3,7,true,.box (avR [.slice none 0 0,.slice none 0 0,.slice none 0 0,.slice none 0 0,.slice none 0 0] [])⟩] rfl rfl rfl rfl rfl (fun b1 _ hbn=>g9 G (by rw [hbn];exact Nat.le_of_ble_eq_true rfl) rfl rfl rfl rfl rfl rfl rfl rfl rfl (by first | (simp only [List.length_map,List.length_cons,List.length_nil];omega) | (simp;omega)) rfl rfl (b4 rfl)) (by kernel_rfl) (by kernel_rfl) (by kernel_rfl) (by kernel_rfl) ?_
 refine j3 [(11,[8,9,10])] (by kernel_rfl) (by kernel_rfl) (fun e he=>hok e (vin (is:=[0,4]) rfl he)) (by kernel_rfl) (AllVS.cons ?_ AllVS.nil)
 refine VStep.mk3 [0,1] 16 (.own 4) 4 (.row 4 1 (List.replicate 8 [.bool false])) 17 (.own 5) 5 (.row 3 1 []) 18 (.own 6) 6 (.row 93 1 []) [⟨12,3,7,true,.box (avR [.slice none 0 0,.slice none 0 0,.slice none 0 0,.slice none 0 0,.slice none 0 0] [])⟩] rfl rfl rfl rfl rfl (fun b1 _ hbn=>b6 rfl rfl (v8 G rfl rfl rfl rfl) (b4 rfl)) (by kernel_rfl) (by kernel_rfl) (by kernel_rfl) (by kernel_rfl) ?_
 refine j3 [(13,[12])] (by kernel_rfl) (by kernel_rfl) (fun e he=>hok e (vin (is:=[0,4,8,9,10]) rfl he)) (by kernel_rfl) (AllVS.cons ?_ AllVS.nil)
 refine VStep.mk1 [0,1] 3 (.ptr 7 0) 7 (.box (avR [.slice none 0 0,.slice none 0 0,.slice none 0 0,.slice none 0 0,.slice none 0 0] [])) [] rfl rfl rfl rfl rfl (fun b1 _ hbn=>j7 G rfl rfl rfl rfl rfl rfl rfl rfl rfl rfl rfl (b4 rfl)) (by kernel_rfl) (by kernel_rfl) (by kernel_rfl) (by kernel_rfl) ?_
 refine B3 ?_
 clear hok
 refine a1Y (Gh.nest (id:=6) (yss:=[]) rfl rfl (by intro _ _ _ h;simp at h)) ?_
 refine l6 (by kernel_rfl) ?_
 refine hK2 _ ?_
 clear hK2 K2
 refine f9 (fun K3 hK3=>?_)
 refine f9 (fun K4 hK4=>?_)
 refine d4 ?_
 refine a8 rfl ?_
 refine b6 rfl rfl (l5 G rfl rfl rfl rfl) ?_
 refine a8 rfl ?_
 refine b6 rfl rfl (b6V (n9 G rfl rfl rfl rfl rfl rfl rfl)) ?_
 refine a8 rfl ?_
 first | refine b6 rfl rfl (a1D G rfl rfl rfl rfl (List.length_map _)) ?_ | refine b6 rfl rfl (a4e G rfl rfl rfl rfl) ?_
 refine a8 rfl ?_
 refine b6 rfl rfl (e6 rfl rfl) ?_
 refine b4 ?_
 refine hK4 _ ?_
 clear hK4 K4
 refine w7 ?_
 refine i7 [2,3,21,22] [1,2,3,7] (fun (k:Nat)=>[(23,.v (.int .i64 (k:Int)))]) (fun (k:Nat)=>[(4,some (.row 4 1 ((poN m k).map r3))),(5,some (.row 3 1 (((m.cp.map (fun x=>x.ma)).take k).map Rf.r9))),(6,some (.nest 93 1 (((m.cp.map (fun x=>x.st)).take k).map a5D) []))]) (fun (k:Nat)=>k≤m.cp.length) (fun (k:Nat)=>m.cp.length - k) 0 rfl rfl ?_ ?_ ?_ ?_
 ·exact Nat.zero_le _
 ·exact ⟨⟨_,rfl,by rfl⟩,rfl,trivial⟩
 ·exact ⟨⟨_,rfl,by rfl⟩,rfl,rfl,⟨⟨_,rfl,by rfl⟩,rfl,rfl,⟨⟨_,rfl,by rfl⟩,rfl,rfl,trivial⟩⟩⟩
 ·intro k hk
  have hp8:=@J1 m k
  have hm1:(m.cp.map (fun x=>x.ma)).length=m.cp.length:=List.length_map _
  have hm2:(m.cp.map (fun x=>x.st)).length=m.cp.length:=List.length_map _
  simp only [List.cons_append,List.nil_append]
  refine f9 (fun K5 hK5=>?_)
  refine d4 ?_
  refine a8 rfl ?_
  refine b6 rfl rfl (I9 rfl rfl rfl rfl) ?_
  refine b4 ?_
  refine hK5 _ ?_
  clear hK5 K5
  refine f9 (fun K6 hK6=>?_)
  refine r7 rfl (fun h1=>?_) (fun h1=>?_)
  ·try rw [h1]
   try simp only [rfb] at h1
   have hI:=(hM.ok k (by omega)).f
   have hsn:=hI.sn
   have hpl:=a15 hI.qu
   refine y9 ?_
   refine hK6 _ ?_
   clear hK6 K6
   refine f9 (fun K7 hK7=>?_)
   refine w7 ?_
   refine f9 (fun K8 hK8=>?_)
   refine d4 ?_
   refine a8 rfl ?_
   first | refine b6 rfl rfl (E9 G rfl rfl rfl rfl (by omega) (a1P (by omega)) rfl) ?_ | refine b6 rfl rfl (E9 G rfl rfl rfl rfl (by omega) (a0f (by omega) (by omega)) rfl) ?_ | refine b6 rfl rfl (E9 G rfl rfl rfl rfl (by omega) (B4 (by omega) (by omega)) rfl) ?_
   refine a8 rfl ?_
   refine b6 rfl rfl (Q9 G rfl rfl rfl rfl) ?_
   refine a8 rfl ?_
   refine d8 G 9 rfl rfl rfl rfl rfl ?_
   refine a8 rfl ?_
   refine a55 26 rfl (fun _=>rfl) fun v26=>j7 G rfl rfl rfl rfl rfl rfl rfl rfl rfl rfl rfl ?_
   refine b4 ?_
   refine hK8 _ ?_
   clear hK8 K8
   refine f9 (fun K9 hK9=>?_)
   refine d4 ?_
   refine a8 rfl ?_
   refine b6 rfl rfl (l5 G rfl rfl rfl rfl) ?_
   refine a8 rfl ?_
   refine b6 rfl rfl (n9 G rfl rfl rfl rfl rfl rfl rfl) ?_
   refine a8 rfl ?_
   refine b6 rfl rfl (l5 G rfl rfl rfl rfl) ?_
   refine a8 rfl ?_
   refine b6 rfl rfl (n9 G rfl rfl rfl rfl rfl rfl rfl) ?_
   refine a8 rfl ?_
   refine s2 G 10 rfl rfl rfl rfl rfl rfl rfl rfl ?_
   refine a8 rfl ?_
   refine v6 (Gh.forget (id:=7) (k:=3) rfl rfl)<|v6 (Gh.keep [1,2,3,4,5,6,7,8,9] rfl)<|g9 G np rfl rfl rfl rfl rfl rfl rfl rfl rfl (by first | (simp only [List.length_map,List.length_cons,List.length_nil];omega) | (simp;omega)) rfl rfl ?_
   refine a8 rfl ?_
   refine b6 rfl rfl (l5 G rfl rfl rfl rfl) ?_
   refine a8 rfl ?_
   refine j7 G rfl rfl rfl rfl rfl rfl rfl rfl rfl rfl rfl ?_
   refine b4 ?_
   refine hK9 _ ?_
   clear hK9 K9
   refine f9 (fun K10 hK10=>?_)
   apply x5 [2,3,5,21,22,23] [1,2,3,4,5,7,8,12] 13 9 [1,2,3,4,5,8,9] mixed (by kernel_rfl) rfl rfl hK10
   ·intro r0
    refine e9 0 rfl (by kernel_rfl) (by kernel_rfl) rfl rfl rfl rfl (l5 G rfl rfl rfl rfl) ?_
    refine e9 2 rfl (by kernel_rfl) (by kernel_rfl) rfl rfl rfl rfl (l5 G rfl rfl rfl rfl) ?_
    refine e9 3 rfl (by kernel_rfl) (by kernel_rfl) rfl rfl rfl rfl (a5w (n9 G rfl rfl rfl rfl rfl rfl rfl)) ?_
    refine b5 (rs:=[1,4]) (by kernel_rfl) rfl (AllB.cons ?_ (AllB.cons ?_ AllB.nil))
    ·refine c7 [1,2,3,4,5,8,9] rfl rfl (b6 rfl rfl (n9 G rfl rfl rfl rfl rfl rfl rfl) (b4 ⟨rfl,?_⟩))
     refine b5 (rs:=[4]) (by kernel_rfl) rfl (AllB.cons ?_ AllB.nil)
     refine c7 [1,2,3,4,5,8,9] rfl rfl (d7 11 rfl rfl rfl (ArgsOK.of rfl) (C8 _ (by omega)) rfl rfl (b4 ⟨rfl,?_⟩))
     refine b5 (rs:=[5]) (by kernel_rfl) rfl (AllB.cons ?_ AllB.nil)
     refine c7 [1,2,3,4,5,8,9] rfl rfl (r5 G 12 rfl rfl rfl rfl rfl rfl rfl rfl (.own rfl .nil) rfl rfl rfl rfl (b4 ⟨rfl,?_⟩))
     refine b5 (rs:=[6]) (by kernel_rfl) rfl (AllB.cons ?_ AllB.nil)
     refine c7 [1,2,3,4,5,8,9] rfl rfl (v6 (Gh.forget (id:=7) (k:=4) rfl rfl)<|v6 (Gh.keep [1,2,3,4,5,6,7,8,9,11] rfl)<|C6 (tx:=35) 13 rfl rfl rfl rfl rfl<|m9 G (by exact Nat.le_of_ble_eq_true rfl) rfl rfl rfl rfl rfl rfl rfl rfl rfl rfl (by first | (simp only [List.length_map,List.length_cons,List.length_nil];omega) | (simp;omega)) rfl rfl (b4 ⟨rfl,?_⟩))
     refine e9 7 rfl (by kernel_rfl) (by kernel_rfl) rfl rfl rfl rfl (l5 G rfl rfl rfl rfl) ?_
     refine b5 (rs:=[8]) (by kernel_rfl) rfl (AllB.cons ?_ AllB.nil)
     refine c7 [1,2,3,4,5,8,9] rfl rfl (j7 G rfl rfl rfl rfl rfl rfl rfl rfl rfl rfl rfl (b4 ⟨rfl,?_⟩))
     exact l6 (by kernel_rfl) (Meet.mk rfl rfl rfl rfl)
    ·refine c7 [1,2,3,4,5,8,9] rfl rfl (d7 11 rfl rfl rfl (ArgsOK.of rfl) (C8 _ (by omega)) rfl rfl (b4 ⟨rfl,?_⟩))
     refine b5 (rs:=[1,5]) (by kernel_rfl) rfl (AllB.cons ?_ (AllB.cons ?_ AllB.nil))
     ·refine c7 [1,2,3,4,5,8,9] rfl rfl (b6 rfl rfl (n9 G rfl rfl rfl rfl rfl rfl rfl) (b4 ⟨rfl,?_⟩))
      refine b5 (rs:=[5]) (by kernel_rfl) rfl (AllB.cons ?_ AllB.nil)
      refine c7 [1,2,3,4,5,8,9] rfl rfl (r5 G 12 rfl rfl rfl rfl rfl rfl rfl rfl (.own rfl .nil) rfl rfl rfl rfl (b4 ⟨rfl,?_⟩))
      refine b5 (rs:=[6]) (by kernel_rfl) rfl (AllB.cons ?_ AllB.nil)
      refine c7 [1,2,3,4,5,8,9] rfl rfl (v6 (Gh.forget (id:=7) (k:=4) rfl rfl)<|v6 (Gh.keep [1,2,3,4,5,6,7,8,9,11] rfl)<|C6 (tx:=35) 13 rfl rfl rfl rfl rfl<|m9 G (by exact Nat.le_of_ble_eq_true rfl) rfl rfl rfl rfl rfl rfl rfl rfl rfl rfl (by first | (simp only [List.length_map,List.length_cons,List.length_nil];omega) | (simp;omega)) rfl rfl (b4 ⟨rfl,?_⟩))
      refine e9 7 rfl (by kernel_rfl) (by kernel_rfl) rfl rfl rfl rfl (l5 G rfl rfl rfl rfl) ?_
      refine b5 (rs:=[8]) (by kernel_rfl) rfl (AllB.cons ?_ AllB.nil)
      refine c7 [1,2,3,4,5,8,9] rfl rfl (j7 G rfl rfl rfl rfl rfl rfl rfl rfl rfl rfl rfl (b4 ⟨rfl,?_⟩))
      exact l6 (by kernel_rfl) (Meet.mk rfl rfl rfl rfl)
     ·refine c7 [1,2,3,4,5,8,9] rfl rfl (r5 G 12 rfl rfl rfl rfl rfl rfl rfl rfl (.own rfl .nil) rfl rfl rfl rfl (b4 ⟨rfl,?_⟩))
      refine b5 (rs:=[1]) (by kernel_rfl) rfl (AllB.cons ?_ AllB.nil)
      refine c7 [1,2,3,4,5,8,9] rfl rfl (b6 rfl rfl (n9 G rfl rfl rfl rfl rfl rfl rfl) (b4 ⟨rfl,?_⟩))
      refine b5 (rs:=[6]) (by kernel_rfl) rfl (AllB.cons ?_ AllB.nil)
      refine c7 [1,2,3,4,5,8,9] rfl rfl (v6 (Gh.forget (id:=7) (k:=4) rfl rfl)<|v6 (Gh.keep [1,2,3,4,5,6,7,8,9,11] rfl)<|C6 (tx:=35) 13 rfl rfl rfl rfl rfl<|m9 G (by exact Nat.le_of_ble_eq_true rfl) rfl rfl rfl rfl rfl rfl rfl rfl rfl rfl (by first | (simp only [List.length_map,List.length_cons,List.length_nil];omega) | (simp;omega)) rfl rfl (b4 ⟨rfl,?_⟩))
      refine e9 7 rfl (by kernel_rfl) (by kernel_rfl) rfl rfl rfl rfl (l5 G rfl rfl rfl rfl) ?_
      refine b5 (rs:=[8]) (by kernel_rfl) rfl (AllB.cons ?_ AllB.nil)
      refine c7 [1,2,3,4,5,8,9] rfl rfl (j7 G rfl rfl rfl rfl rfl rfl rfl rfl rfl rfl rfl (b4 ⟨rfl,?_⟩))
      exact l6 (by kernel_rfl) (Meet.mk rfl rfl rfl rfl)
   ·clear hK10 K10
    refine f9 (fun K11 hK11=>?_)
    refine d4 ?_
    refine a8 rfl ?_
    refine b6 rfl rfl (l5 G rfl rfl rfl rfl) ?_
    refine a8 rfl ?_
    refine b6 rfl rfl (p5 G rfl rfl rfl rfl rfl rfl) ?_
    refine a8 rfl ?_
    refine d7 14 rfl rfl rfl (ArgsOK.of rfl) (R8 (m.cp.getD k default).qu hI.qu) rfl rfl ?_
    refine a8 rfl ?_
    first | refine b6 rfl rfl (a1D G rfl rfl rfl rfl (List.length_map _)) ?_ | refine b6 rfl rfl (a4e G rfl rfl rfl rfl) ?_
    refine a8 rfl ?_
    refine b6 rfl rfl (e6 rfl rfl) ?_
    refine b4 ?_
    refine hK11 _ ?_
    clear hK11 K11
    refine w7 ?_
    refine i7 [2,3,21,22,23,44,45] [1,2,3,5,7,12,13] (fun (i:Nat)=>[(46,.v (.int .i64 (i:Int)))]) (fun (i:Nat)=>[(4,some (.row 4 1 ((b26 (poN m k) (D6 (m.cp.getD k default).qu) i).map r3)))]) (fun (i:Nat)=>i≤(D6 (m.cp.getD k default).qu).length) (fun (i:Nat)=>(D6 (m.cp.getD k default).qu).length - i) 0 rfl rfl ?_ ?_ ?_ ?_
    ·exact Nat.zero_le _
    ·exact ⟨⟨_,rfl,by rfl⟩,rfl,trivial⟩
    ·exact ⟨⟨_,rfl,by rfl⟩,rfl,rfl,trivial⟩
    ·intro i hi
     have hbp:=fun h=>b1J hI.qu (i:=i) h
     have hpo:=@H7 (poN m k) (D6 (m.cp.getD k default).qu) i
     have hp8:=@J1 m k
     simp only [List.cons_append,List.nil_append]
     refine f9 (fun K12 hK12=>?_)
     refine d4 ?_
     refine a8 rfl ?_
     refine b6 rfl rfl (I9 rfl rfl rfl rfl) ?_
     refine b4 ?_
     refine hK12 _ ?_
     clear hK12 K12
     refine f9 (fun K13 hK13=>?_)
     refine r7 rfl (fun h2=>?_) (fun h2=>?_)
     ·try rw [h2]
      try simp only [rfb] at h2
      have hbq:=hbp (by omega)
      refine y9 ?_
      refine hK13 _ ?_
      clear hK13 K13
      refine f9 (fun K14 hK14=>?_)
      refine w7 ?_
      refine f9 (fun K15 hK15=>?_)
      refine d4 ?_
      refine a8 rfl ?_
      first | refine b6 rfl rfl (b8 G rfl rfl rfl rfl rfl (by omega) (by rw [List.length_map];omega)) ?_ | refine b6 rfl rfl (b8 G rfl rfl rfl rfl rfl (by omega) (by rw [List.length_map,H7,J1];omega)) ?_ | refine b6 rfl rfl (b8 G rfl rfl rfl rfl rfl (by omega) (by simp;omega)) ?_ | refine b6 rfl rfl (b8 G rfl rfl rfl rfl rfl (by omega) (by omega)) ?_
      refine a8 rfl ?_
      first | refine b6 rfl rfl (j6 G rfl rfl rfl rfl rfl (a1P (by omega)) rfl) ?_ | refine b6 rfl rfl (j6 G rfl rfl rfl rfl rfl (B4 (by omega) (by rw [H7,J1];omega)) rfl) ?_ | refine b6 rfl rfl (j6 G rfl rfl rfl rfl rfl (B4 (by omega) (by omega)) rfl) ?_
      refine a8 rfl ?_
      refine b6 rfl rfl (d6 rfl rfl) ?_
      refine b4 ?_
      refine hK15 _ ?_
      clear hK15 K15
      refine d4 ?_
      refine a8 rfl ?_
      refine b6 rfl rfl (l5 G rfl rfl rfl rfl) ?_
      refine a8 rfl ?_
      refine b6 rfl rfl (n9 G rfl rfl rfl rfl rfl rfl rfl) ?_
      refine a8 rfl ?_
      refine b6 rfl rfl (e6 rfl rfl) ?_
      refine a8 rfl ?_
      first | refine b6 rfl rfl (b8 G rfl rfl rfl rfl rfl (by omega) (by rw [List.length_map];omega)) ?_ | refine b6 rfl rfl (b8 G rfl rfl rfl rfl rfl (by omega) (by rw [List.length_map,H7,J1];omega)) ?_ | refine b6 rfl rfl (b8 G rfl rfl rfl rfl rfl (by omega) (by simp;omega)) ?_ | refine b6 rfl rfl (b8 G rfl rfl rfl rfl rfl (by omega) (by omega)) ?_
      refine a8 rfl ?_
      first | refine f8 G rfl rfl rfl rfl rfl (a1P (by omega)) rfl rfl rfl rfl rfl (Nat.le_of_ble_eq_true rfl) rfl ?_ | refine f8 G rfl rfl rfl rfl rfl (B4 (by omega) (by rw [H7,J1];omega)) rfl rfl rfl rfl rfl (Nat.le_of_ble_eq_true rfl) rfl ?_ | refine f8 G rfl rfl rfl rfl rfl (B4 (by omega) (by omega)) rfl rfl rfl rfl rfl (Nat.le_of_ble_eq_true rfl) rfl ?_
      refine b4 ?_
      refine hK14 _ ?_
      clear hK14 K14
      refine d4 ?_
      refine a8 rfl ?_
      first | refine b6 rfl rfl (x8 rfl rfl rfl rfl (by omega) (by omega)) ?_ | refine b6 rfl rfl (C5 rfl rfl rfl rfl) ?_
      refine a8 rfl ?_
      refine b6 rfl rfl (e6 rfl rfl) ?_
      refine b4 ⟨(i+1),?_,?_,⟨⟨_,rfl,by rfl⟩,rfl,trivial⟩,⟨⟨_,rfl,by (first | rfl | (exact congrArg (fun z=>Row.row _ _ z) (a1x (by omega))) | (exact congrArg (fun z=>Row.nest _ _ z []) (a1y (by omega) rfl)) | (exact congrArg (fun z=>Row.row _ _ z) (by rw [a0W,List.map_set];rfl)) | (obtain rfl:i=(D6 (m.cp.getD k default).qu).length:=(by omega);rfl))⟩,rfl,rfl,trivial⟩,rfl,rfl,rfl⟩
      ·omega
      ·omega
     ·try rw [h2]
      try simp only [rfb] at h2
      refine Y0 ?_
      refine hK7 _ ?_
      clear hK13 K13 hK7 K7
      refine d4 ?_
      refine a8 rfl ?_
      first | refine b6 rfl rfl (x8 rfl rfl rfl rfl (by omega) (by omega)) ?_ | refine b6 rfl rfl (C5 rfl rfl rfl rfl) ?_
      refine a8 rfl ?_
      refine b6 rfl rfl (e6 rfl rfl) ?_
      refine G8 (Gh.sub 12 6 np rfl rfl rfl) ?_
      refine b4 ⟨(k+1),?_,?_,⟨⟨_,rfl,by rfl⟩,rfl,trivial⟩,⟨⟨_,rfl,by (first | rfl | (exact congrArg (fun z=>Row.row _ _ z) (a1x (by omega))) | (exact congrArg (fun z=>Row.nest _ _ z []) (a1y (by omega) rfl)) | (exact congrArg (fun z=>Row.row _ _ z) (by rw [a0W,List.map_set];rfl)) | (obtain rfl:i=(D6 (m.cp.getD k default).qu).length:=(by omega);rfl))⟩,rfl,rfl,⟨⟨_,rfl,by (first | rfl | (exact congrArg (fun z=>Row.row _ _ z) (a1x (by omega))) | (exact congrArg (fun z=>Row.nest _ _ z []) (a1y (by omega) rfl)) | (exact congrArg (fun z=>Row.row _ _ z) (by rw [a0W,List.map_set];rfl)) | (obtain rfl:i=(D6 (m.cp.getD k default).qu).length:=(by omega);rfl))⟩,rfl,rfl,⟨⟨_,rfl,by (first | rfl | (exact congrArg (fun z=>Row.row _ _ z) (a1x (by omega))) | (exact congrArg (fun z=>Row.nest _ _ z []) (a1y (by omega) rfl)) | (exact congrArg (fun z=>Row.row _ _ z) (by rw [a0W,List.map_set];rfl)) | (obtain rfl:i=(D6 (m.cp.getD k default).qu).length:=(by omega);rfl))⟩,rfl,rfl,trivial⟩⟩⟩,rfl,rfl,rfl⟩
      ·omega
      ·omega
  ·try rw [h1]
   try simp only [rfb] at h1
   refine Y0 ?_
   refine hK3 _ ?_
   clear hK6 K6 hK3 K3
   refine f9 (fun K16 hK16=>?_)
   refine d4 ?_
   refine a8 rfl ?_
   refine b6 rfl rfl (p5 G rfl rfl rfl rfl rfl rfl) ?_
   refine a8 rfl ?_
   refine j7 G rfl rfl rfl rfl rfl rfl rfl rfl rfl rfl rfl ?_
   refine b4 ?_
   refine hK16 _ ?_
   clear hK16 K16
   refine c6 (d9 rfl rfl rfl rfl (a7 (b7 rfl ?_) (a7 (b7 rfl ?_) (a7 (b7 rfl ?_) (a7 (b7 rfl ?_) (a7 (n7 rfl ?_) b9))))))
   all_goals (first | rfl | (obtain rfl:k=m.cp.length:=(by omega);first | rfl | (rw [b27 (Nat.le_refl _)];rfl)) | simp)
end Go.Proofs.YtpfhomblkgmkkaaGreatDoor
set_option maxRecDepth 20000
namespace Go.Proofs.YtpfhomblkgmkkaaGreatDoor
open Go Go.Rf
theorem b2c (m:Mach) (w:ByteArray) (l:List Int) (hs:SmallM m) (hM:a1b m=true) (hl:a1J (m3 w)=l.length) (hk:(a0o (m3 w) l).2=false):Ctr Tryz.prog 73 [.agg [.lst 2 (m.rs.map p8),.lst 1 (m.en.map r3),.lst 1 (m.ra.map r3),.nst none 4 (m.cp.map (s6 169 182))],.v (.string w),.lst 1 (l.map Rf.r9)] (.many [.v (.string (a4M m (m3 w) l).1),.v (.bool (a4M m (m3 w) l).2)]):=by
 have hG:=(maF hM).g
 have hra:=hG.ra
 have hcp:=hs.cp
 have hrl:=@a6a (fun i=>m.ra.getD i default) 8
 have hkn:=c2h hk
 refine Ctr.of (n:=69) G Tryz.func73 rfl b3 rfl rfl rfl (fun w0=>?_)
 refine o7 0 rfl (fun _=>rfl) (fun u0=>?_)
 refine vm1 ?_
 refine R6 ?_
 refine zcd (fun h1=>?_) (fun h1=>?_)
 ·have k1:=b0P.mp h1
  have hO:=b8h (m:=m) (l:=l) k1
  refine vm5 ?_
  refine b6 rfl rfl (a8I rfl rfl) ?_
  refine o9 ?_
  refine d7 2 rfl rfl rfl (ArgsOK.of rfl) (a69 112 m (fun i=>m.ra.getD i default) (fun i hi=>a9M (i:Int) m (by omega))) rfl rfl ?_
  refine zcl (a0A (raN m) (by unfold raN;omega) (b8e (by omega))) ?_
  refine zgo ?_
  refine c6 (g8 rfl rfl rfl rfl (a7 (c1 ?_) (a7 (c1 ?_) b9)))
  all_goals exact a0O
 have k1:=mt b0P.mpr h1
 refine R6 ?_
 refine zcd (fun h2=>?_) (fun h2=>?_)
 ·have k2:=b0Q.mp h2
  refine zcl (b0c m hs hM) ?_
  refine zcd (fun h3=>?_) (fun h3=>?_)
  ·have hO:=b45 (l:=l) k2 h3
   refine zgo ?_
   refine c6 (g8 rfl rfl rfl rfl (a7 (c1 ?_) (a7 (c1 ?_) b9)))
   all_goals exact a0O
  have hO:=b46 (l:=l) k2 h3
  refine zgo ?_
  refine c6 (g8 rfl rfl rfl rfl (a7 (c1 ?_) (a7 (c1 ?_) b9)))
  all_goals exact a0O
 have k2:=mt b0Q.mpr h2
 have hA:=b8i (m:=m) (l:=l) k1 k2
 have hl1:l.length=1:=b9X hl k1 k2 hkn
 refine zgd ?_
 refine zcl (C4 m (l.getD ((0:Int)).toNat default) hcp) ?_
 refine zcd (fun h4=>?_) (fun h4=>?_)
 ·have hO:=hA.trans (b47 h4)
  refine zgo ?_
  refine c6 (g8 rfl rfl rfl rfl (a7 (c1 ?_) (a7 (c1 ?_) b9)))
  all_goals exact a0O
 have hin:=p7.mp h4
 have hcl:(l.getD ((0:Int)).toNat default).toNat < m.cp.length:=(by omega)
 have hI:=(hG.ok _ hcl).f
 have hsn:=hI.sn
 have hpl:=a15 hI.qu
 have hnx:=@a9d m.rs (X4 m) (l.getD ((0:Int)).toNat default).toNat
 have cN:=a7b m.rs (X4 m) (l.getD ((0:Int)).toNat default).toNat (b78 hG) (by rw [b5a];exact hcl)
 rw [Int.toNat_of_nonneg (by omega)] at cN
 refine zgn ?_
 refine u4 (l4 9 [0] mixed b3 rfl rfl (fun r0=>?_) (fun _ h=>h))
 refine a1e ?_
 refine zsa 4 ?_
 refine a1f ?_
 refine b5 (rs:=[7]) b3 rfl (AllB.cons ?_ AllB.nil)
 refine i1 [0] rfl rfl (d8 G 2 rfl rfl rfl rfl rfl (b4 ⟨rfl,?_⟩))
 refine b5 (rs:=[8]) b3 rfl (AllB.cons ?_ AllB.nil)
 refine i1 [0] rfl rfl (a55 38 rfl (fun _=>rfl) fun v38=>j7 G rfl rfl rfl rfl rfl rfl rfl rfl rfl rfl rfl (b4 ⟨rfl,?_⟩))
 refine G3 ?_
 refine R6 ?_
 refine zcd (fun h5=>?_) (fun h5=>?_)
 ·have hO:=hA.trans (b48 h4 (b0W.mp h5))
  refine vm5 ?_
  refine d7 3 rfl rfl rfl (ArgsOK.of rfl) (R8 (m.cp.getD (l.getD ((0:Int)).toNat default).toNat default).qu hI.qu) rfl rfl ?_
  refine zcl (a0A (D6 (m.cp.getD (l.getD ((0:Int)).toNat default).toNat default).qu) (by omega) (b8j hI.qu)) ?_
  refine zgo ?_
  refine c6 (g8 rfl rfl rfl rfl (a7 (c1 ?_) (a7 (c1 ?_) b9)))
  all_goals exact a0O
 have k5:=mt b0W.mpr h5
 refine R6 ?_
 refine zcd (fun h6=>?_) (fun h6=>?_)
 ·have hO:=hA.trans (b49 h4 (b0X.mp h6))
  refine zcl (a0A (m.cp.getD (l.getD ((0:Int)).toNat default).toNat default).st (by omega) (b8k hI)) ?_
  refine zgo ?_
  refine c6 (g8 rfl rfl rfl rfl (a7 (c1 ?_) (a7 (c1 ?_) b9)))
  all_goals exact a0O
 have k6:=mt b0X.mpr h6
 refine R6 ?_
 refine zcd (fun h7=>?_) (fun h7=>?_)
 ·have hO:=hA.trans (b3i h4 (a60.mp h7))
  refine zcl (a7a (m.cp.getD (l.getD ((0:Int)).toNat default).toNat default).qu.sl hI.qu.sl) ?_
  refine zgo ?_
  refine c6 (g8 rfl rfl rfl rfl (a7 (c1 ?_) (a7 (c1 ?_) b9)))
  all_goals exact a0O
 have k7:=mt a60.mpr h7
 have k8:m3 w=10:=b9Y hl k1 k2 hkn k5 k6 k7
 refine zgn ?_
 refine u4 (u4 (l4 9 [0,1] mixed b3 rfl rfl (fun r0=>?_) (fun _ h=>h)))
 refine zsa 0 ?_
 refine zsa 1 ?_
 refine zsa 2 ?_
 refine zsa 4 ?_
 refine a1f ?_
 refine b5 (rs:=[3]) b3 rfl (AllB.cons ?_ AllB.nil)
 refine i1 [0,1] rfl rfl (d7 7 rfl rfl rfl (ArgsOK.of rfl) (a39 m hG hs) rfl rfl (b4 ⟨rfl,?_⟩))
 refine b5 (rs:=[7]) b3 rfl (AllB.cons ?_ AllB.nil)
 refine i1 [0,1] rfl rfl (b6 rfl rfl (f6 rfl (ArgsOK.of rfl) cN rfl) (b4 ⟨rfl,?_⟩))
 refine zsa 8 ?_
 refine G3 ?_
 refine zcd (fun h8=>?_) (fun h8=>?_)
 ·have hO:=hA.trans (b00 h4 k8 h8)
  refine zcl (B5 (D9 m.rs (X4 m) (l.getD ((0:Int)).toNat default).toNat) (by omega) (by omega)) ?_
  refine zgo ?_
  refine c6 (g8 rfl rfl rfl rfl (a7 (c1 ?_) (a7 (c1 ?_) b9)))
  all_goals exact a0O
 have hO:=hA.trans (b0Z h4 k8 h8)
 refine zgo ?_
 refine c6 (g8 rfl rfl rfl rfl (a7 (c1 ?_) (a7 (c1 ?_) b9)))
 all_goals exact a0O
end Go.Proofs.YtpfhomblkgmkkaaGreatDoor
set_option maxRecDepth 20000
namespace Go.Proofs.YtpfhomblkgmkkaaGreatDoor
open Go Go.Rf
theorem a0b (x:Ifc) (hn:x.st.length≤1048576) (hl:x.qu.sl.length≤1048576) (hw:x.qu.wa.length≤1048576):Ctr Tryz.prog 91 [.agg [.v (.int .i64 x.ma),.lst 1 (x.st.map Rf.r9),.lst 3 (x.qu.sl.map j8),.lst 2 (x.qu.wa.map l1)]] (.shp true [some 4] [.v (.int .i64 x.ma),.fr 3 1 (x.st.map Rf.r9),.fr 169 3 (x.qu.sl.map j8),.fr 182 2 (x.qu.wa.map l1)]):=by
 refine Ctr.of (n:=12) G Tryz.func91 rfl b3 rfl rfl rfl (fun w0=>?_)
 refine o7 0 rfl (fun _=>rfl) (fun u0=>?_)
 refine T5 ?_
 refine zgn ?_
 refine u4 (l4 10 [0] mixed b3 rfl rfl (fun r0=>?_) (fun _ h=>h))
 refine a1e ?_
 refine a1f ?_
 refine b5 (rs:=[4]) b3 rfl (AllB.cons ?_ AllB.nil)
 refine i1 [0] rfl rfl (d7 3 rfl rfl rfl (ArgsOK.of rfl) (H5 x.st hn) rfl rfl (b4 ⟨rfl,?_⟩))
 refine b5 (rs:=[7]) b3 rfl (AllB.cons ?_ AllB.nil)
 refine i1 [0] rfl rfl (d7 5 rfl rfl rfl (ArgsOK.of rfl) (a6h x.qu hl hw) rfl rfl (b4 ⟨rfl,?_⟩))
 refine b5 (rs:=[8]) b3 rfl (AllB.cons ?_ AllB.nil)
 refine a2U ?_
 refine b5 (rs:=[9]) b3 rfl (AllB.cons ?_ AllB.nil)
 refine a2U ?_
 refine G3 ?_
 refine c6 (d9 rfl rfl rfl rfl (a7 (c1 ?_) (a7 (b7 rfl ?_) (a7 (b7 rfl ?_) (a7 (b7 rfl ?_) b9)))))
 all_goals (rfl)
theorem a1L (m:Mach) (hM:MaG m):Ctr Tryz.prog 53 [.agg [.lst 2 (m.rs.map p8),.lst 1 (m.en.map r3),.lst 1 (m.ra.map r3),.nst none 4 (m.cp.map (s6 169 182))]] (.shp true [some 4] [.fr 83 2 (m.rs.map p8),.fr 4 1 (m.en.map r3),.fr 4 1 (m.ra.map r3),.ne 135 4 (m.cp.map (s6 169 182))]):=by
 have f1:=hM.n
 have f2:=hM.en
 have f3:=hM.ra
 have f4:=hM.rn
 refine Ctr.of (n:=38) G Tryz.func53 rfl b3 rfl rfl rfl (fun w0=>?_)
 refine o7 0 rfl (fun _=>rfl) (fun u0=>?_)
 refine T5 ?_
 refine zgn ?_
 refine u4 (l4 16 [0,1] mixed b3 rfl rfl (fun r0=>?_) (fun _ h=>h))
 refine zsa 1 ?_
 refine zsa 2 ?_
 refine a1f ?_
 refine zsa 9 ?_
 refine zsa 10 ?_
 refine w3 (N:=7) rfl (p4 (fuel:=5) [⟨0,5,2,false,.row 83 2 []⟩,⟨4,9,3,false,.row 4 1 []⟩,⟨8,13,4,false,.row 4 1 []⟩,⟨12,17,5,false,.row 135 4 []⟩,⟨14,3,6,true,.box (avR [.slice none 0 0,.slice none 0 0,.slice none 0 0,.slice none 0 0] [])⟩] (AllVOK.cons (VOK.lit G rfl rfl rfl rfl rfl) (AllVOK.cons (VOK.lit G rfl rfl rfl rfl rfl) (AllVOK.cons (VOK.lit G rfl rfl rfl rfl rfl) (AllVOK.cons (VOK.lit G rfl rfl rfl rfl rfl) (AllVOK.cons (VOK.boxS G rfl rfl rfl rfl rfl) (AllVOK.nil)))))) (fun hok=>?_))
 refine j3 [(3,[0])] b3 b3 (fun e he=>hok e he) b3 (AllVS.cons ?_ AllVS.nil)
 refine VStep.mk1 [0,1] 5 (.own 2) 2 (.row 83 2 []) [⟨4,9,3,false,.row 4 1 []⟩,⟨8,13,4,false,.row 4 1 []⟩,⟨12,17,5,false,.row 135 4 []⟩,⟨14,3,6,true,.box (avR [.slice none 0 0,.slice none 0 0,.slice none 0 0,.slice none 0 0] [])⟩] rfl rfl rfl rfl rfl (fun b1 _ hbn=>g9 G N3 rfl rfl rfl rfl rfl rfl rfl rfl rfl F3 rfl rfl (b4 rfl)) b3 b3 b3 b3 (j3 [(7,[4])] b3 b3 (fun e he=>hok e (vin (is:=[0]) rfl he)) b3 (AllVS.cons ?_ AllVS.nil))
 refine VStep.mk1 [0,1] 9 (.own 3) 3 (.row 4 1 []) [⟨8,13,4,false,.row 4 1 []⟩,⟨12,17,5,false,.row 135 4 []⟩,⟨14,3,6,true,.box (avR [.slice none 0 0,.slice none 0 0,.slice none 0 0,.slice none 0 0] [])⟩] rfl rfl rfl rfl rfl (fun b1 _ hbn=>g9 G N3 rfl rfl rfl rfl rfl rfl rfl rfl rfl F3 rfl rfl (b4 rfl)) b3 b3 b3 b3 (j3 [(11,[8])] b3 b3 (fun e he=>hok e (vin (is:=[0,4]) rfl he)) b3 (AllVS.cons ?_ AllVS.nil))
 refine VStep.mk1 [0,1] 13 (.own 4) 4 (.row 4 1 []) [⟨12,17,5,false,.row 135 4 []⟩,⟨14,3,6,true,.box (avR [.slice none 0 0,.slice none 0 0,.slice none 0 0,.slice none 0 0] [])⟩] rfl rfl rfl rfl rfl (fun b1 _ hbn=>g9 G N3 rfl rfl rfl rfl rfl rfl rfl rfl rfl F3 rfl rfl (b4 rfl)) b3 b3 b3 b3 (j3 [(13,[12])] b3 b3 (fun e he=>hok e (vin (is:=[0,4,8]) rfl he)) b3 (AllVS.cons ?_ AllVS.nil))
 refine VStep.mk1 [0,1] 17 (.own 5) 5 (.row 135 4 []) [⟨14,3,6,true,.box (avR [.slice none 0 0,.slice none 0 0,.slice none 0 0,.slice none 0 0] [])⟩] rfl rfl rfl rfl rfl (fun b1 _ hbn=>b6 rfl rfl (v8 G rfl rfl rfl rfl) (b4 rfl)) b3 b3 b3 b3 (j3 [(15,[14])] b3 b3 (fun e he=>hok e (vin (is:=[0,4,8,12]) rfl he)) b3 (AllVS.cons ?_ AllVS.nil))
 refine c2G ?_
 clear hok
 refine c2S ?_
 refine i7 [1,2,3] [0,1,2,3,4,6] (fun (k:Nat)=>[(4,.v (.int .i64 (k:Int)))]) (fun (k:Nat)=>[(5,some (.nest 135 4 ((m.cp.take k).map (s6 169 182)) []))]) (fun (k:Nat)=>k≤m.cp.length) (fun (k:Nat)=>m.cp.length - k) 0 rfl rfl ?_ ?_ ?_ ?_
 ·exact Nat.zero_le _
 ·exact ⟨⟨_,rfl,by rfl⟩,rfl,trivial⟩
 ·exact ⟨⟨_,rfl,by rfl⟩,rfl,rfl,trivial⟩
 intro k hk
 have hkl:((m.cp.take k).map (s6 169 182)).length=k:=b8O
 simp only [List.cons_append,List.nil_append]
 refine zcd (fun h1=>?_) (fun h1=>?_)
 ·obtain ⟨g1,g2,g3⟩:=hM.lens (k:=k) (by omega)
  refine zgo ?_
  apply x5 [1,2,3,4] [0,1,2,3,4,6,11] 12 12 [0,1,2,3,4] mixed b3 rfl rfl (fun _ h=>znk h)
  ·intro r0
   refine zsa 0 ?_
   refine zsa 2 ?_
   refine zsa 3 ?_
   refine zsa 4 ?_
   refine a1f ?_
   refine b5 (rs:=[1,7]) b3 rfl (AllB.cons ?_ (AllB.cons ?_ AllB.nil))
   ·refine a7O ?_
    refine b5 (rs:=[7]) b3 rfl (AllB.cons ?_ AllB.nil)
    refine i1 [0,1,2,3,4] rfl rfl (d7 10 rfl rfl rfl (ArgsOK.of rfl) (a0b (m.cp.getD k default) (by omega) (by omega) (by omega)) rfl rfl (b4 ⟨rfl,?_⟩))
    refine b5 (rs:=[8]) b3 rfl (AllB.cons ?_ AllB.nil)
    refine i1 [0,1,2,3,4] rfl rfl (r5 G 11 rfl rfl rfl rfl rfl rfl rfl rfl (.v rfl (.own rfl (.own rfl (.own rfl .nil)))) rfl rfl rfl rfl (b4 ⟨rfl,?_⟩))
    refine b5 (rs:=[9]) b3 rfl (AllB.cons ?_ AllB.nil)
    refine c7 [0,1,2,3,4] rfl rfl (v6 (Gh.forget (id:=6) (k:=3) rfl rfl)<|v6 (Gh.keep [0,1,2,3,4,5,6,10] rfl)<|C6 (tx:=27) 12 rfl rfl rfl rfl rfl<|m9 G A1 rfl rfl rfl rfl rfl rfl rfl rfl rfl rfl F3 rfl rfl (b4 ⟨rfl,?_⟩))
    refine zsa 10 ?_
    refine b5 (rs:=[11]) b3 rfl (AllB.cons ?_ AllB.nil)
    refine a7O ?_
    exact l6 b3 (Meet.mk rfl rfl rfl rfl)
   refine i1 [0,1,2,3,4] rfl rfl (d7 10 rfl rfl rfl (ArgsOK.of rfl) (a0b (m.cp.getD k default) (by omega) (by omega) (by omega)) rfl rfl (b4 ⟨rfl,?_⟩))
   refine b5 (rs:=[1,8]) b3 rfl (AllB.cons ?_ (AllB.cons ?_ AllB.nil))
   ·refine a7O ?_
    refine b5 (rs:=[8]) b3 rfl (AllB.cons ?_ AllB.nil)
    refine i1 [0,1,2,3,4] rfl rfl (r5 G 11 rfl rfl rfl rfl rfl rfl rfl rfl (.v rfl (.own rfl (.own rfl (.own rfl .nil)))) rfl rfl rfl rfl (b4 ⟨rfl,?_⟩))
    refine b5 (rs:=[9]) b3 rfl (AllB.cons ?_ AllB.nil)
    refine c7 [0,1,2,3,4] rfl rfl (v6 (Gh.forget (id:=6) (k:=3) rfl rfl)<|v6 (Gh.keep [0,1,2,3,4,5,6,10] rfl)<|C6 (tx:=27) 12 rfl rfl rfl rfl rfl<|m9 G A1 rfl rfl rfl rfl rfl rfl rfl rfl rfl rfl F3 rfl rfl (b4 ⟨rfl,?_⟩))
    refine zsa 10 ?_
    refine b5 (rs:=[11]) b3 rfl (AllB.cons ?_ AllB.nil)
    refine a7O ?_
    exact l6 b3 (Meet.mk rfl rfl rfl rfl)
   refine i1 [0,1,2,3,4] rfl rfl (r5 G 11 rfl rfl rfl rfl rfl rfl rfl rfl (.v rfl (.own rfl (.own rfl (.own rfl .nil)))) rfl rfl rfl rfl (b4 ⟨rfl,?_⟩))
   refine b5 (rs:=[1]) b3 rfl (AllB.cons ?_ AllB.nil)
   refine a7O ?_
   refine b5 (rs:=[9]) b3 rfl (AllB.cons ?_ AllB.nil)
   refine c7 [0,1,2,3,4] rfl rfl (v6 (Gh.forget (id:=6) (k:=3) rfl rfl)<|v6 (Gh.keep [0,1,2,3,4,5,6,10] rfl)<|C6 (tx:=27) 12 rfl rfl rfl rfl rfl<|m9 G A1 rfl rfl rfl rfl rfl rfl rfl rfl rfl rfl F3 rfl rfl (b4 ⟨rfl,?_⟩))
   refine zsa 10 ?_
   refine b5 (rs:=[11]) b3 rfl (AllB.cons ?_ AllB.nil)
   refine a7O ?_
   exact l6 b3 (Meet.mk rfl rfl rfl rfl)
  refine a94 ?_
  refine G8 (Gh.sub 11 5 np rfl rfl rfl) (b4 ⟨(k+1),?_,?_,⟨⟨_,rfl,by rfl⟩,rfl,trivial⟩,⟨⟨_,rfl,by (exact congrArg (fun z=>Row.nest _ _ z []) (a9m (by omega) rfl))⟩,rfl,rfl,trivial⟩,rfl,rfl,rfl⟩)
  ·omega
  omega
 obtain rfl:k=m.cp.length:=(by omega)
 refine zgo ?_
 refine c6 (d9 rfl rfl rfl rfl (a7 (b7 rfl ?_) (a7 (b7 rfl ?_) (a7 (b7 rfl ?_) (a7 (n7 rfl ?_) b9)))))
 all_goals exact b8J
theorem a6m (m:Mach) (hM:MaG m):Ctr Tryz.prog 66 [.agg [.lst 2 (m.rs.map p8),.lst 1 (m.en.map r3),.lst 1 (m.ra.map r3),.nst none 4 (m.cp.map (s6 169 182))]] (.shp true [some 4] [.fr 83 2 (m.rs.map p8),.fr 4 1 (m.en.map r3),.fr 4 1 (m.ra.map r3),.ne 135 4 (m.cp.map (s6 169 182))]):=by
 have f1:=hM.n
 have f2:=hM.en
 have f3:=hM.ra
 have f4:=hM.rn
 refine Ctr.of (n:=36) G Tryz.func66 rfl (by kernel_rfl) rfl rfl rfl (fun w0=>?_)
 refine o7 0 rfl (fun _=>rfl) (fun u0=>?_)
 refine f9 (fun K1 hK1=>?_)
 refine d4 ?_
 refine a8 rfl ?_
 refine B0 1 rfl rfl rfl rfl rfl rfl rfl ?_
 refine a8 rfl ?_
 refine d8 G 2 rfl rfl rfl rfl rfl ?_
 refine b4 ?_
 refine hK1 _ ?_
 clear hK1 K1
 refine f9 (fun K2 hK2=>?_)
 refine l4 16 [0,1] mixed (by kernel_rfl) rfl rfl (fun r0=>?_) (fun _ h=>h)
 refine e9 1 rfl (by kernel_rfl) (by kernel_rfl) rfl rfl rfl rfl (l5 G rfl rfl rfl rfl) ?_
 refine e9 2 rfl (by kernel_rfl) (by kernel_rfl) rfl rfl rfl rfl (a5w (n9 G rfl rfl rfl rfl rfl rfl rfl)) ?_
 refine e9 5 rfl (by kernel_rfl) (by kernel_rfl) rfl rfl rfl rfl (l5 G rfl rfl rfl rfl) ?_
 refine e9 6 rfl (by kernel_rfl) (by kernel_rfl) rfl rfl rfl rfl (a5w (n9 G rfl rfl rfl rfl rfl rfl rfl)) ?_
 refine e9 9 rfl (by kernel_rfl) (by kernel_rfl) rfl rfl rfl rfl (l5 G rfl rfl rfl rfl) ?_
 refine e9 10 rfl (by kernel_rfl) (by kernel_rfl) rfl rfl rfl rfl (a5w (n9 G rfl rfl rfl rfl rfl rfl rfl)) ?_
 refine w3 (N:=7) rfl (p4 (fuel:=5) [⟨0,6,2,false,.row 83 2 []⟩,⟨4,10,3,false,.row 4 1 []⟩,⟨8,14,4,false,.row 4 1 []⟩,⟨12,18,5,false,.row 135 4 []⟩,⟨14,3,6,true,.box (avR [.slice none 0 0,.slice none 0 0,.slice none 0 0,.slice none 0 0] [])⟩] (AllVOK.cons (VOK.lit G rfl rfl rfl rfl rfl) (AllVOK.cons (VOK.lit G rfl rfl rfl rfl rfl) (AllVOK.cons (VOK.lit G rfl rfl rfl rfl rfl) (AllVOK.cons (VOK.lit G rfl rfl rfl rfl rfl) (AllVOK.cons (VOK.boxS G rfl rfl rfl rfl rfl) (AllVOK.nil)))))) (fun hok=>?_))
 refine j3 [(3,[0])] (by kernel_rfl) (by kernel_rfl) (fun e he=>hok e he) (by kernel_rfl) (AllVS.cons ?_ AllVS.nil)
 refine VStep.mk1 [0,1] 6 (.own 2) 2 (.row 83 2 []) [⟨4,10,3,false,.row 4 1 []⟩,⟨8,14,4,false,.row 4 1 []⟩,⟨12,18,5,false,.row 135 4 []⟩,⟨14,3,6,true,.box (avR [.slice none 0 0,.slice none 0 0,.slice none 0 0,.slice none 0 0] [])⟩] rfl rfl rfl rfl rfl (fun b1 _ hbn=>g9 G (by rw [hbn];exact Nat.le_of_ble_eq_true rfl) rfl rfl rfl rfl rfl rfl rfl rfl rfl (by first | (simp only [List.length_map,List.length_cons,List.length_nil];omega) | (simp;omega)) rfl rfl (b4 rfl)) (by kernel_rfl) (by kernel_rfl) (by kernel_rfl) (by kernel_rfl) ?_
 refine j3 [(7,[4])] (by kernel_rfl) (by kernel_rfl) (fun e he=>hok e (vin (is:=[0]) rfl he)) (by kernel_rfl) (AllVS.cons ?_ AllVS.nil)
 refine VStep.mk1 [0,1] 10 (.own 3) 3 (.row 4 1 []) [⟨8,14,4,false,.row 4 1 []⟩,⟨12,18,5,false,.row 135 4 []⟩,⟨14,3,6,true,.box (avR [.slice none 0 0,.slice none 0 0,.slice none 0 0,.slice none 0 0] [])⟩] rfl rfl rfl rfl rfl (fun b1 _ hbn=>g9 G (by rw [hbn];exact Nat.le_of_ble_eq_true rfl) rfl rfl rfl rfl rfl rfl rfl rfl rfl (by first | (simp only [List.length_map,List.length_cons,List.length_nil];omega) | (simp;omega)) rfl rfl (b4 rfl)) (by kernel_rfl) (by kernel_rfl) (by kernel_rfl) (by kernel_rfl) ?_
 refine j3 [(11,[8])] (by kernel_rfl) (by kernel_rfl) (fun e he=>hok e (vin (is:=[0,4]) rfl he)) (by kernel_rfl) (AllVS.cons ?_ AllVS.nil)
 refine VStep.mk1 [0,1] 14 (.own 4) 4 (.row 4 1 []) [⟨12,18,5,false,.row 135 4 []⟩,⟨14,3,6,true,.box (avR [.slice none 0 0,.slice none 0 0,.slice none 0 0,.slice none 0 0] [])⟩] rfl rfl rfl rfl rfl (fun b1 _ hbn=>g9 G (by rw [hbn];exact Nat.le_of_ble_eq_true rfl) rfl rfl rfl rfl rfl rfl rfl rfl rfl (by first | (simp only [List.length_map,List.length_cons,List.length_nil];omega) | (simp;omega)) rfl rfl (b4 rfl)) (by kernel_rfl) (by kernel_rfl) (by kernel_rfl) (by kernel_rfl) ?_
 refine j3 [(13,[12])] (by kernel_rfl) (by kernel_rfl) (fun e he=>hok e (vin (is:=[0,4,8]) rfl he)) (by kernel_rfl) (AllVS.cons ?_ AllVS.nil)
 refine VStep.mk1 [0,1] 18 (.own 5) 5 (.row 135 4 []) [⟨14,3,6,true,.box (avR [.slice none 0 0,.slice none 0 0,.slice none 0 0,.slice none 0 0] [])⟩] rfl rfl rfl rfl rfl (fun b1 _ hbn=>b6 rfl rfl (v8 G rfl rfl rfl rfl) (b4 rfl)) (by kernel_rfl) (by kernel_rfl) (by kernel_rfl) (by kernel_rfl) ?_
 refine j3 [(15,[14])] (by kernel_rfl) (by kernel_rfl) (fun e he=>hok e (vin (is:=[0,4,8,12]) rfl he)) (by kernel_rfl) (AllVS.cons ?_ AllVS.nil)
 refine VStep.mk1 [0,1] 3 (.ptr 6 0) 6 (.box (avR [.slice none 0 0,.slice none 0 0,.slice none 0 0,.slice none 0 0] [])) [] rfl rfl rfl rfl rfl (fun b1 _ hbn=>j7 G rfl rfl rfl rfl rfl rfl rfl rfl rfl rfl rfl (b4 rfl)) (by kernel_rfl) (by kernel_rfl) (by kernel_rfl) (by kernel_rfl) ?_
 refine B3 ?_
 clear hok
 refine a1Y (Gh.nest (id:=5) (yss:=[]) rfl rfl (by intro _ _ _ h;simp at h)) ?_
 refine l6 (by kernel_rfl) ?_
 refine hK2 _ ?_
 clear hK2 K2
 refine f9 (fun K3 hK3=>?_)
 refine f9 (fun K4 hK4=>?_)
 refine d4 ?_
 refine a8 rfl ?_
 refine b6 rfl rfl (l5 G rfl rfl rfl rfl) ?_
 refine a8 rfl ?_
 refine b6 rfl rfl (b6V (n9 G rfl rfl rfl rfl rfl rfl rfl)) ?_
 refine a8 rfl ?_
 first | refine b6 rfl rfl (a1D G rfl rfl rfl rfl (List.length_map _)) ?_ | refine b6 rfl rfl (a4e G rfl rfl rfl rfl) ?_
 refine a8 rfl ?_
 refine b6 rfl rfl (e6 rfl rfl) ?_
 refine b4 ?_
 refine hK4 _ ?_
 clear hK4 K4
 refine w7 ?_
 refine i7 [2,3,21,22] [1,2,3,4,6] (fun (k:Nat)=>[(23,.v (.int .i64 (k:Int)))]) (fun (k:Nat)=>[(5,some (.nest 135 4 ((m.cp.take k).map (s6 169 182)) []))]) (fun (k:Nat)=>k≤m.cp.length) (fun (k:Nat)=>m.cp.length - k) 0 rfl rfl ?_ ?_ ?_ ?_
 ·exact Nat.zero_le _
 ·exact ⟨⟨_,rfl,by rfl⟩,rfl,trivial⟩
 ·exact ⟨⟨_,rfl,by rfl⟩,rfl,rfl,trivial⟩
 ·intro k hk
  have hkl:((m.cp.take k).map (s6 169 182)).length=k:=(by rw [List.length_map,List.length_take];omega)
  simp only [List.cons_append,List.nil_append]
  refine f9 (fun K5 hK5=>?_)
  refine d4 ?_
  refine a8 rfl ?_
  refine b6 rfl rfl (I9 rfl rfl rfl rfl) ?_
  refine b4 ?_
  refine hK5 _ ?_
  clear hK5 K5
  refine f9 (fun K6 hK6=>?_)
  refine r7 rfl (fun h1=>?_) (fun h1=>?_)
  ·try rw [h1]
   try simp only [rfb] at h1
   obtain ⟨g1,g2,g3⟩:=hM.lens (k:=k) (by omega)
   refine y9 ?_
   refine hK6 _ ?_
   clear hK6 K6
   refine f9 (fun K7 hK7=>?_)
   refine w7 ?_
   refine f9 (fun K8 hK8=>?_)
   refine d4 ?_
   refine a8 rfl ?_
   first | refine b6 rfl rfl (E9 G rfl rfl rfl rfl (by omega) (a1P (by omega)) rfl) ?_ | refine b6 rfl rfl (E9 G rfl rfl rfl rfl (by omega) (a0f (by omega) (by omega)) rfl) ?_ | refine b6 rfl rfl (E9 G rfl rfl rfl rfl (by omega) (B4 (by omega) (by omega)) rfl) ?_
   refine a8 rfl ?_
   refine b6 rfl rfl (Q9 G rfl rfl rfl rfl) ?_
   refine a8 rfl ?_
   refine d8 G 8 rfl rfl rfl rfl rfl ?_
   refine a8 rfl ?_
   refine a55 26 rfl (fun _=>rfl) fun v26=>j7 G rfl rfl rfl rfl rfl rfl rfl rfl rfl rfl rfl ?_
   refine b4 ?_
   refine hK8 _ ?_
   clear hK8 K8
   apply x5 [2,3,21,22,23] [1,2,3,4,6,12] 13 8 [1,2,3,4,7] mixed (by kernel_rfl) rfl rfl hK7
   ·intro r0
    refine e9 0 rfl (by kernel_rfl) (by kernel_rfl) rfl rfl rfl rfl (l5 G rfl rfl rfl rfl) ?_
    refine e9 2 rfl (by kernel_rfl) (by kernel_rfl) rfl rfl rfl rfl (p5 G rfl rfl rfl rfl rfl rfl) ?_
    refine b5 (rs:=[1,3]) (by kernel_rfl) rfl (AllB.cons ?_ (AllB.cons ?_ AllB.nil))
    ·refine c7 [1,2,3,4,7] rfl rfl (b6 rfl rfl (n9 G rfl rfl rfl rfl rfl rfl rfl) (b4 ⟨rfl,?_⟩))
     refine b5 (rs:=[3]) (by kernel_rfl) rfl (AllB.cons ?_ AllB.nil)
     refine c7 [1,2,3,4,7] rfl rfl (d7 11 rfl rfl rfl (ArgsOK.of rfl) (D3 (m.cp.getD k default) (by omega) (by omega) (by omega)) rfl rfl (b4 ⟨rfl,?_⟩))
     refine b5 (rs:=[4]) (by kernel_rfl) rfl (AllB.cons ?_ AllB.nil)
     refine c7 [1,2,3,4,7] rfl rfl (r5 G 12 rfl rfl rfl rfl rfl rfl rfl rfl (.v rfl (.own rfl (.own rfl (.own rfl .nil)))) rfl rfl rfl rfl (b4 ⟨rfl,?_⟩))
     refine b5 (rs:=[5]) (by kernel_rfl) rfl (AllB.cons ?_ AllB.nil)
     refine c7 [1,2,3,4,7] rfl rfl (v6 (Gh.forget (id:=6) (k:=3) rfl rfl)<|v6 (Gh.keep [1,2,3,4,5,6,7,11] rfl)<|C6 (tx:=28) 13 rfl rfl rfl rfl rfl<|m9 G (by exact Nat.le_of_ble_eq_true rfl) rfl rfl rfl rfl rfl rfl rfl rfl rfl rfl (by first | (simp only [List.length_map,List.length_cons,List.length_nil];omega) | (simp;omega)) rfl rfl (b4 ⟨rfl,?_⟩))
     refine e9 6 rfl (by kernel_rfl) (by kernel_rfl) rfl rfl rfl rfl (l5 G rfl rfl rfl rfl) ?_
     refine b5 (rs:=[7]) (by kernel_rfl) rfl (AllB.cons ?_ AllB.nil)
     refine c7 [1,2,3,4,7] rfl rfl (j7 G rfl rfl rfl rfl rfl rfl rfl rfl rfl rfl rfl (b4 ⟨rfl,?_⟩))
     exact l6 (by kernel_rfl) (Meet.mk rfl rfl rfl rfl)
    ·refine c7 [1,2,3,4,7] rfl rfl (d7 11 rfl rfl rfl (ArgsOK.of rfl) (D3 (m.cp.getD k default) (by omega) (by omega) (by omega)) rfl rfl (b4 ⟨rfl,?_⟩))
     refine b5 (rs:=[1,4]) (by kernel_rfl) rfl (AllB.cons ?_ (AllB.cons ?_ AllB.nil))
     ·refine c7 [1,2,3,4,7] rfl rfl (b6 rfl rfl (n9 G rfl rfl rfl rfl rfl rfl rfl) (b4 ⟨rfl,?_⟩))
      refine b5 (rs:=[4]) (by kernel_rfl) rfl (AllB.cons ?_ AllB.nil)
      refine c7 [1,2,3,4,7] rfl rfl (r5 G 12 rfl rfl rfl rfl rfl rfl rfl rfl (.v rfl (.own rfl (.own rfl (.own rfl .nil)))) rfl rfl rfl rfl (b4 ⟨rfl,?_⟩))
      refine b5 (rs:=[5]) (by kernel_rfl) rfl (AllB.cons ?_ AllB.nil)
      refine c7 [1,2,3,4,7] rfl rfl (v6 (Gh.forget (id:=6) (k:=3) rfl rfl)<|v6 (Gh.keep [1,2,3,4,5,6,7,11] rfl)<|C6 (tx:=28) 13 rfl rfl rfl rfl rfl<|m9 G (by exact Nat.le_of_ble_eq_true rfl) rfl rfl rfl rfl rfl rfl rfl rfl rfl rfl (by first | (simp only [List.length_map,List.length_cons,List.length_nil];omega) | (simp;omega)) rfl rfl (b4 ⟨rfl,?_⟩))
      refine e9 6 rfl (by kernel_rfl) (by kernel_rfl) rfl rfl rfl rfl (l5 G rfl rfl rfl rfl) ?_
      refine b5 (rs:=[7]) (by kernel_rfl) rfl (AllB.cons ?_ AllB.nil)
      refine c7 [1,2,3,4,7] rfl rfl (j7 G rfl rfl rfl rfl rfl rfl rfl rfl rfl rfl rfl (b4 ⟨rfl,?_⟩))
      exact l6 (by kernel_rfl) (Meet.mk rfl rfl rfl rfl)
     ·refine c7 [1,2,3,4,7] rfl rfl (r5 G 12 rfl rfl rfl rfl rfl rfl rfl rfl (.v rfl (.own rfl (.own rfl (.own rfl .nil)))) rfl rfl rfl rfl (b4 ⟨rfl,?_⟩))
      refine b5 (rs:=[1]) (by kernel_rfl) rfl (AllB.cons ?_ AllB.nil)
      refine c7 [1,2,3,4,7] rfl rfl (b6 rfl rfl (n9 G rfl rfl rfl rfl rfl rfl rfl) (b4 ⟨rfl,?_⟩))
      refine b5 (rs:=[5]) (by kernel_rfl) rfl (AllB.cons ?_ AllB.nil)
      refine c7 [1,2,3,4,7] rfl rfl (v6 (Gh.forget (id:=6) (k:=3) rfl rfl)<|v6 (Gh.keep [1,2,3,4,5,6,7,11] rfl)<|C6 (tx:=28) 13 rfl rfl rfl rfl rfl<|m9 G (by exact Nat.le_of_ble_eq_true rfl) rfl rfl rfl rfl rfl rfl rfl rfl rfl rfl (by first | (simp only [List.length_map,List.length_cons,List.length_nil];omega) | (simp;omega)) rfl rfl (b4 ⟨rfl,?_⟩))
      refine e9 6 rfl (by kernel_rfl) (by kernel_rfl) rfl rfl rfl rfl (l5 G rfl rfl rfl rfl) ?_
      refine b5 (rs:=[7]) (by kernel_rfl) rfl (AllB.cons ?_ AllB.nil)
      refine c7 [1,2,3,4,7] rfl rfl (j7 G rfl rfl rfl rfl rfl rfl rfl rfl rfl rfl rfl (b4 ⟨rfl,?_⟩))
      exact l6 (by kernel_rfl) (Meet.mk rfl rfl rfl rfl)
   ·clear hK7 K7
    refine d4 ?_
    refine a8 rfl ?_
    first | refine b6 rfl rfl (x8 rfl rfl rfl rfl (by omega) (by omega)) ?_ | refine b6 rfl rfl (C5 rfl rfl rfl rfl) ?_
    refine a8 rfl ?_
    refine b6 rfl rfl (e6 rfl rfl) ?_
    refine G8 (Gh.sub 12 5 np rfl rfl rfl) ?_
    refine b4 ⟨(k+1),?_,?_,⟨⟨_,rfl,by rfl⟩,rfl,trivial⟩,⟨⟨_,rfl,by (exact congrArg (fun z=>Row.nest _ _ z []) (a9m (by omega) rfl))⟩,rfl,rfl,trivial⟩,rfl,rfl,rfl⟩
    ·omega
    ·omega
  ·try rw [h1]
   try simp only [rfb] at h1
   obtain rfl:k=m.cp.length:=(by omega)
   refine Y0 ?_
   refine hK3 _ ?_
   clear hK6 K6 hK3 K3
   refine f9 (fun K9 hK9=>?_)
   refine d4 ?_
   refine a8 rfl ?_
   refine b6 rfl rfl (p5 G rfl rfl rfl rfl rfl rfl) ?_
   refine a8 rfl ?_
   refine j7 G rfl rfl rfl rfl rfl rfl rfl rfl rfl rfl rfl ?_
   refine b4 ?_
   refine hK9 _ ?_
   clear hK9 K9
   refine c6 (d9 rfl rfl rfl rfl (a7 (b7 rfl ?_) (a7 (b7 rfl ?_) (a7 (b7 rfl ?_) (a7 (n7 rfl ?_) b9)))))
   all_goals (first | rfl | (rw [List.take_length];done) | (rw [List.take_length];rfl) | simp)
end Go.Proofs.YtpfhomblkgmkkaaGreatDoor
set_option maxRecDepth 20000
namespace Go.Proofs.YtpfhomblkgmkkaaGreatDoor
open Go Go.Rf
theorem a6n (s:ByteArray) (k:Int) (hs:s.size≤1048576) (hk:0≤k) (hk2:k≤1000000):Ctr Tryz.prog 133 [.v (.string s),.v (.int .i64 k)] (.many [.v (b2u (rrE s k)),.v (.int .i64 (rrN s k)),.v (.bool (okL s k))]):=by
 have a1:=Y6 (s:=s) (c:=10)
 have a2:=Y6 (s:=l7 s 10) (c:=35)
 have a3:=a1t (s:=l7 (l7 s 10) 35) (c:=32)
 have a4:=Y6 (s:=s7 (l7 (l7 s 10) 35) 32) (c:=64)
 have a5:=a1t (s:=s7 (l7 (l7 s 10) 35) 32) (c:=64)
 have hxs:(riE (l7 s 10)).c.size≤9223372036854775807∧(riE (l7 s 10)).r.size≤9223372036854775807:=(by have a6:=b6K (s:=l7 s 10);exact ⟨Nat.le_trans a6.1 (by omega),Nat.le_trans a6.2 (by omega)⟩)
 refine Ctr.of (n:=71) G Tryz.func133 rfl (by kernel_rfl) rfl rfl rfl (fun w0=>?_)
 refine f9 (fun K1 hK1=>?_)
 refine d4 ?_
 refine a8 rfl ?_
 refine d8 G 1 rfl rfl rfl rfl rfl ?_
 refine a8 rfl ?_
 refine b6 rfl rfl (d6 rfl rfl) ?_
 refine a8 rfl ?_
 refine b6 rfl rfl (d6 rfl rfl) ?_
 refine b4 ?_
 refine hK1 _ ?_
 clear hK1 K1
 refine f9 (fun K2 hK2=>?_)
 refine d4 ?_
 refine a8 rfl ?_
 refine b6 rfl rfl (e6 rfl rfl) ?_
 refine a8 rfl ?_
 refine b6 rfl rfl (f6 rfl (ArgsOK.of rfl) (Z8 s 10 10 rfl (by omega)) rfl) ?_
 refine a8 rfl ?_
 refine b6 rfl rfl (e6 rfl rfl) ?_
 refine a8 rfl ?_
 refine b6 rfl rfl (n8 rfl rfl rfl) ?_
 refine a8 rfl ?_
 refine b6 rfl rfl (n8 rfl rfl rfl) ?_
 refine a8 rfl ?_
 refine b6 rfl rfl (n8 rfl rfl rfl) ?_
 refine a8 rfl ?_
 refine b6 rfl rfl (d6 rfl rfl) ?_
 refine a8 rfl ?_
 refine b6 rfl rfl (d6 rfl rfl) ?_
 refine a8 rfl ?_
 refine b6 rfl rfl (d6 rfl rfl) ?_
 refine b4 ?_
 refine hK2 _ ?_
 clear hK2 K2
 refine f9 (fun K3 hK3=>?_)
 refine d4 ?_
 refine a8 rfl ?_
 refine b6 rfl rfl (e6 rfl rfl) ?_
 refine a8 rfl ?_
 refine b6 rfl rfl (f6 rfl (ArgsOK.of rfl) (Z8 (l7 s 10) 35 35 rfl (by omega)) rfl) ?_
 refine a8 rfl ?_
 refine b6 rfl rfl (e6 rfl rfl) ?_
 refine a8 rfl ?_
 refine b6 rfl rfl (n8 rfl rfl rfl) ?_
 refine a8 rfl ?_
 refine b6 rfl rfl (n8 rfl rfl rfl) ?_
 refine a8 rfl ?_
 refine b6 rfl rfl (n8 rfl rfl rfl) ?_
 refine a8 rfl ?_
 refine b6 rfl rfl (d6 rfl rfl) ?_
 refine a8 rfl ?_
 refine b6 rfl rfl (d6 rfl rfl) ?_
 refine a8 rfl ?_
 refine b6 rfl rfl (d6 rfl rfl) ?_
 refine b4 ?_
 refine hK3 _ ?_
 clear hK3 K3
 refine f9 (fun K4 hK4=>?_)
 refine d4 ?_
 refine a8 rfl ?_
 refine b6 rfl rfl (e6 rfl rfl) ?_
 refine a8 rfl ?_
 refine b6 rfl rfl (f6 rfl (ArgsOK.of rfl) (Z8 (l7 (l7 s 10) 35) 32 32 rfl (by omega)) rfl) ?_
 refine a8 rfl ?_
 refine b6 rfl rfl (e6 rfl rfl) ?_
 refine a8 rfl ?_
 refine b6 rfl rfl (n8 rfl rfl rfl) ?_
 refine a8 rfl ?_
 refine b6 rfl rfl (n8 rfl rfl rfl) ?_
 refine a8 rfl ?_
 refine b6 rfl rfl (n8 rfl rfl rfl) ?_
 refine a8 rfl ?_
 refine b6 rfl rfl (d6 rfl rfl) ?_
 refine a8 rfl ?_
 refine b6 rfl rfl (d6 rfl rfl) ?_
 refine a8 rfl ?_
 refine b6 rfl rfl (d6 rfl rfl) ?_
 refine b4 ?_
 refine hK4 _ ?_
 clear hK4 K4
 refine f9 (fun K5 hK5=>?_)
 refine d4 ?_
 refine a8 rfl ?_
 refine b6 rfl rfl (e6 rfl rfl) ?_
 refine a8 rfl ?_
 refine b6 rfl rfl (f6 rfl (ArgsOK.of rfl) (Z8 (s7 (l7 (l7 s 10) 35) 32) 64 64 rfl (by omega)) rfl) ?_
 refine a8 rfl ?_
 refine b6 rfl rfl (e6 rfl rfl) ?_
 refine a8 rfl ?_
 refine b6 rfl rfl (n8 rfl rfl rfl) ?_
 refine a8 rfl ?_
 refine b6 rfl rfl (n8 rfl rfl rfl) ?_
 refine a8 rfl ?_
 refine b6 rfl rfl (n8 rfl rfl rfl) ?_
 refine a8 rfl ?_
 refine b6 rfl rfl (d6 rfl rfl) ?_
 refine a8 rfl ?_
 refine b6 rfl rfl (d6 rfl rfl) ?_
 refine a8 rfl ?_
 refine b6 rfl rfl (d6 rfl rfl) ?_
 refine b4 ?_
 refine hK5 _ ?_
 clear hK5 K5
 rw [← c3a,← c3b]
 refine f9 (fun K6 hK6=>?_)
 refine d4 ?_
 refine a8 rfl ?_
 refine b6 rfl rfl (e6 rfl rfl) ?_
 refine a8 rfl ?_
 refine b6 rfl rfl (e6 rfl rfl) ?_
 refine a8 rfl ?_
 refine b6 rfl rfl (v8 G rfl rfl rfl rfl) ?_
 refine a8 rfl ?_
 refine d8 G 2 rfl rfl rfl rfl rfl ?_
 refine a8 rfl ?_
 refine j7 G rfl rfl rfl rfl rfl rfl rfl rfl rfl rfl rfl ?_
 refine b4 ?_
 refine hK6 _ ?_
 clear hK6 K6
 refine f9 (fun K7 hK7=>?_)
 refine f9 (fun K8 hK8=>?_)
 refine d4 (a8 rfl (b6 rfl rfl (e6 rfl rfl) (a8 rfl (b6 rfl rfl (a2K rfl rfl) (a8 rfl (b6 rfl rfl (e6 rfl rfl) (D4 rfl rfl rfl (fun h1=>?_) (fun h1=>?_))))))))
 ·try rw [h1]
  try simp only [rfb] at h1
  have hO:=b4q (s:=s) (k:=k) (by rw [b2y hk,riK];simp [h1])
  refine m7 rfl rfl rfl rfl rfl rfl ?_
  refine m7 rfl rfl rfl rfl rfl rfl ?_
  refine a8 rfl ?_
  refine b6 rfl rfl (C9 rfl rfl rfl) ?_
  refine a8 rfl ?_
  refine b6 rfl rfl (e6 rfl rfl) ?_
  refine m7 rfl rfl rfl rfl rfl rfl ?_
  refine m7 rfl rfl rfl rfl rfl rfl ?_
  refine m7 rfl rfl rfl rfl rfl rfl ?_
  refine a8 rfl ?_
  refine b6 rfl rfl (C9 rfl rfl rfl) ?_
  refine a8 rfl ?_
  refine b6 rfl rfl (e6 rfl rfl) ?_
  refine m7 rfl rfl rfl rfl rfl rfl ?_
  refine m7 rfl rfl rfl rfl rfl rfl ?_
  refine m7 rfl rfl rfl rfl rfl rfl ?_
  refine m7 rfl rfl rfl rfl rfl rfl ?_
  refine m7 rfl rfl rfl rfl rfl rfl ?_
  refine m7 rfl rfl rfl rfl rfl rfl ?_
  refine a8 rfl ?_
  refine b6 rfl rfl (C9 rfl rfl rfl) ?_
  refine b4 ?_
  refine hK8 _ ?_
  clear hK8 K8
  refine J6 rfl ?_
  refine f9 (fun K9 hK9=>?_)
  refine d4 ?_
  refine a8 rfl ?_
  refine b6 rfl rfl (v8 G rfl rfl rfl rfl) ?_
  refine a8 rfl ?_
  refine j7 G rfl rfl rfl rfl rfl rfl rfl rfl rfl rfl rfl ?_
  refine a8 rfl ?_
  refine b6 rfl rfl (d6 rfl rfl) ?_
  refine a8 rfl ?_
  refine b6 rfl rfl (d6 rfl rfl) ?_
  refine b4 ?_
  refine hK9 _ ?_
  clear hK9 K9
  refine c6 (g8 rfl rfl rfl rfl (a7 (A7 rfl ?_) (a7 (c1 ?_) (a7 (c1 ?_) b9))))
  all_goals clear hK7 K7
  all_goals (first | (rw [hO.1];rfl) | (rw [hO.2.1];rfl) | (rw [hO.2.1];done) | (rw [hO.2.2];rfl) | (rw [hO.2.2];done))
 ·try rw [h1]
  try simp only [rfb] at h1
  refine u6 rfl rfl rfl (b6 rfl rfl (e6 rfl rfl) (u6 rfl rfl rfl (b6 rfl rfl (I9 rfl rfl rfl rfl) (a8 rfl (b6 rfl rfl (F8 rfl rfl rfl) (a8 rfl (b6 rfl rfl (e6 rfl rfl) (D4 rfl rfl rfl (fun h2=>?_) (fun h2=>?_)))))))))
  ·try rw [h2]
   try simp only [rfb] at h2
   have d2:decide (k < 60)=false:=decide_eq_false (by omega)
   have hO:=b4q (s:=s) (k:=k) (by rw [b2y hk,riK];simp [h1,d2])
   refine m7 rfl rfl rfl rfl rfl rfl ?_
   refine m7 rfl rfl rfl rfl rfl rfl ?_
   refine m7 rfl rfl rfl rfl rfl rfl ?_
   refine a8 rfl ?_
   refine b6 rfl rfl (C9 rfl rfl rfl) ?_
   refine a8 rfl ?_
   refine b6 rfl rfl (e6 rfl rfl) ?_
   refine m7 rfl rfl rfl rfl rfl rfl ?_
   refine m7 rfl rfl rfl rfl rfl rfl ?_
   refine m7 rfl rfl rfl rfl rfl rfl ?_
   refine m7 rfl rfl rfl rfl rfl rfl ?_
   refine m7 rfl rfl rfl rfl rfl rfl ?_
   refine m7 rfl rfl rfl rfl rfl rfl ?_
   refine a8 rfl ?_
   refine b6 rfl rfl (C9 rfl rfl rfl) ?_
   refine b4 ?_
   refine hK8 _ ?_
   clear hK8 K8
   refine J6 rfl ?_
   refine f9 (fun K10 hK10=>?_)
   refine d4 ?_
   refine a8 rfl ?_
   refine b6 rfl rfl (v8 G rfl rfl rfl rfl) ?_
   refine a8 rfl ?_
   refine j7 G rfl rfl rfl rfl rfl rfl rfl rfl rfl rfl rfl ?_
   refine a8 rfl ?_
   refine b6 rfl rfl (d6 rfl rfl) ?_
   refine a8 rfl ?_
   refine b6 rfl rfl (d6 rfl rfl) ?_
   refine b4 ?_
   refine hK10 _ ?_
   clear hK10 K10
   refine c6 (g8 rfl rfl rfl rfl (a7 (A7 rfl ?_) (a7 (c1 ?_) (a7 (c1 ?_) b9))))
   all_goals clear hK7 K7
   all_goals (first | (rw [hO.1];rfl) | (rw [hO.2.1];rfl) | (rw [hO.2.1];done) | (rw [hO.2.2];rfl) | (rw [hO.2.2];done))
  ·try rw [h2]
   try simp only [rfb] at h2
   have d2:decide (k < 60)=true:=decide_eq_true (by omega)
   refine u6 rfl rfl rfl ?_
   refine b6 rfl rfl (p5 G rfl rfl rfl rfl rfl rfl) ?_
   refine u6 rfl rfl rfl ?_
   refine b6 rfl rfl (f6 rfl (ArgsOK.of rfl) (N6 (riE (l7 s 10)) hxs) rfl) ?_
   refine u6 rfl rfl rfl (b6 rfl rfl (a2K rfl rfl) (a8 rfl (b6 rfl rfl (F8 rfl rfl rfl) (a8 rfl (b6 rfl rfl (e6 rfl rfl) (D4 rfl rfl rfl (fun h3=>?_) (fun h3=>?_)))))))
   ·try rw [h3]
    try simp only [rfb] at h3
    have hO:=b4q (s:=s) (k:=k) (by rw [b2y hk,riK];simp [h1,d2,h3])
    refine m7 rfl rfl rfl rfl rfl rfl ?_
    refine m7 rfl rfl rfl rfl rfl rfl ?_
    refine m7 rfl rfl rfl rfl rfl rfl ?_
    refine m7 rfl rfl rfl rfl rfl rfl ?_
    refine m7 rfl rfl rfl rfl rfl rfl ?_
    refine m7 rfl rfl rfl rfl rfl rfl ?_
    refine a8 rfl ?_
    refine b6 rfl rfl (C9 rfl rfl rfl) ?_
    refine b4 ?_
    refine hK8 _ ?_
    clear hK8 K8
    refine J6 rfl ?_
    refine f9 (fun K11 hK11=>?_)
    refine d4 ?_
    refine a8 rfl ?_
    refine b6 rfl rfl (v8 G rfl rfl rfl rfl) ?_
    refine a8 rfl ?_
    refine j7 G rfl rfl rfl rfl rfl rfl rfl rfl rfl rfl rfl ?_
    refine a8 rfl ?_
    refine b6 rfl rfl (d6 rfl rfl) ?_
    refine a8 rfl ?_
    refine b6 rfl rfl (d6 rfl rfl) ?_
    refine b4 ?_
    refine hK11 _ ?_
    clear hK11 K11
    refine c6 (g8 rfl rfl rfl rfl (a7 (A7 rfl ?_) (a7 (c1 ?_) (a7 (c1 ?_) b9))))
    all_goals clear hK7 K7
    all_goals (first | (rw [hO.1];rfl) | (rw [hO.2.1];rfl) | (rw [hO.2.1];done) | (rw [hO.2.2];rfl) | (rw [hO.2.2];done))
   ·try rw [h3]
    try simp only [rfb] at h3
    refine u6 rfl rfl rfl ?_
    refine b6 rfl rfl (e6 rfl rfl) ?_
    refine u6 rfl rfl rfl ?_
    refine b6 rfl rfl (p5 G rfl rfl rfl rfl rfl rfl) ?_
    refine u6 rfl rfl rfl ?_
    refine b6 rfl rfl (f6 rfl (ArgsOK.of rfl) (a0F k (riE (l7 s 10)) (by omega) (by omega) (by assumption)) rfl) ?_
    refine u6 rfl rfl rfl ?_
    refine b6 rfl rfl (e6 rfl rfl) ?_
    refine u6 rfl rfl rfl ?_
    refine b6 rfl rfl (J8 rfl rfl rfl (by (try simp only [ByteArray.size_append,t8,List.size_toArray,List.length_cons,List.length_nil]);omega)) ?_
    refine u6 rfl rfl rfl ?_
    refine b6 rfl rfl (z7 rfl rfl rfl rfl) ?_
    refine a8 rfl ?_
    refine b6 rfl rfl (F8 rfl rfl rfl) ?_
    refine b4 ?_
    refine hK8 _ ?_
    clear hK8 K8
    refine r7 rfl (fun h4=>?_) (fun h4=>?_)
    ·try rw [h4]
     try simp only [rfb] at h4
     have hO:=b4q (s:=s) (k:=k) (by rw [b2y hk,riK];simp [h1,d2,h3,h4])
     refine f9 (fun K12 hK12=>?_)
     refine d4 ?_
     refine a8 rfl ?_
     refine b6 rfl rfl (v8 G rfl rfl rfl rfl) ?_
     refine a8 rfl ?_
     refine j7 G rfl rfl rfl rfl rfl rfl rfl rfl rfl rfl rfl ?_
     refine a8 rfl ?_
     refine b6 rfl rfl (d6 rfl rfl) ?_
     refine a8 rfl ?_
     refine b6 rfl rfl (d6 rfl rfl) ?_
     refine b4 ?_
     refine hK12 _ ?_
     clear hK12 K12
     refine c6 (g8 rfl rfl rfl rfl (a7 (A7 rfl ?_) (a7 (c1 ?_) (a7 (c1 ?_) b9))))
     all_goals clear hK7 K7
     all_goals (first | (rw [hO.1];rfl) | (rw [hO.2.1];rfl) | (rw [hO.2.1];done) | (rw [hO.2.2];rfl) | (rw [hO.2.2];done))
    ·try rw [h4]
     try simp only [rfb] at h4
     have hO:=c3c (s:=s) (k:=k) hk (by rw [b2y hk,riK];simp [h1,d2,h3,h4])
     refine y9 ?_
     refine hK7 _ ?_
     clear hK7 K7
     refine f9 (fun K13 hK13=>?_)
     refine d4 ?_
     refine a8 rfl ?_
     refine b6 rfl rfl (p5 G rfl rfl rfl rfl rfl rfl) ?_
     refine a8 rfl ?_
     refine b6 rfl rfl (e6 rfl rfl) ?_
     refine a8 rfl ?_
     refine b6 rfl rfl (j9 G rfl rfl rfl) ?_
     refine a8 rfl ?_
     first | refine b6 rfl rfl (x8 rfl rfl rfl rfl (by omega) (by omega)) ?_ | refine b6 rfl rfl (C5 rfl rfl rfl rfl) ?_
     refine a8 rfl ?_
     refine j7 G rfl rfl rfl rfl rfl rfl rfl rfl rfl rfl rfl ?_
     refine a8 rfl ?_
     refine b6 rfl rfl (d6 rfl rfl) ?_
     refine a8 rfl ?_
     refine b6 rfl rfl (d6 rfl rfl) ?_
     refine b4 ?_
     refine hK13 _ ?_
     clear hK13 K13
     refine c6 (g8 rfl rfl rfl rfl (a7 (A7 rfl ?_) (a7 (c1 ?_) (a7 (c1 ?_) b9))))
     all_goals (first | (rw [hO.1];rfl) | (rw [hO.2.1];rfl) | (rw [hO.2.1];done) | (rw [hO.2.2];rfl) | (rw [hO.2.2];done))
end Go.Proofs.YtpfhomblkgmkkaaGreatDoor
set_option maxRecDepth 20000
namespace Go.Proofs.YtpfhomblkgmkkaaGreatDoor
open Go Go.Rf
theorem a1k (s:ByteArray) (hs:s.size≤1048576):Ctr Tryz.prog 87 [.v (.string s)] (.many [.fr 63 2 ((pre (a5k s) (A0 s)).map a4g),.v (.int .i64 (T4 s (A0 s)))]):=by
 refine Ctr.of (n:=52) G Tryz.func87 rfl (by kernel_rfl) rfl rfl rfl (fun w0=>?_)
 refine f9 (fun K1 hK1=>?_)
 refine d4 ?_
 refine a8 rfl ?_
 refine b6 rfl rfl (d6 rfl rfl) ?_
 refine a8 rfl ?_
 refine b6 rfl rfl (d6 rfl rfl) ?_
 refine b4 ?_
 refine hK1 _ ?_
 clear hK1 K1
 refine f9 (fun K2 hK2=>?_)
 refine d4 ?_
 refine a8 rfl ?_
 refine s2 G 1 rfl rfl rfl rfl rfl rfl rfl rfl ?_
 refine a8 rfl ?_
 refine b6 rfl rfl (d6 rfl rfl) ?_
 refine b4 ?_
 refine hK2 _ ?_
 clear hK2 K2
 refine f9 (fun K3 hK3=>?_)
 refine d4 ?_
 refine a8 rfl ?_
 refine b6 rfl rfl (d6 rfl rfl) ?_
 refine b4 ?_
 refine hK3 _ ?_
 clear hK3 K3
 refine f9 (fun K4 hK4=>?_)
 refine w7 ?_
 refine i7 [0] [] (fun (n:Nat)=>[(4,.own 0),(5,.v (.int .i64 (T4 s n)))]) (fun (n:Nat)=>[(0,some (.row 63 2 ((pre (a5k s) n).map a4g)))]) (fun (n:Nat)=>∀ j,j < n→okN s j=true) (fun (n:Nat)=>60 - n) 0 rfl rfl ?_ ?_ ?_ ?_
 ·exact fun j hj=>by omega
 ·exact ⟨⟨_,rfl,by rfl⟩,rfl,⟨⟨_,rfl,by rfl⟩,rfl,trivial⟩⟩
 ·exact ⟨⟨_,rfl,by rfl⟩,rfl,rfl,trivial⟩
 ·intro n hinv
  have hp:=b1n hinv
  have hpi:T4 s n=(D5 s n:Int):=rfl
  obtain ⟨hs1,hs2⟩:=U3 (s:=D1 s n) (b:=10)
  have hl1:=R5 (s:=D1 s n) (b:=10)
  have hre:(D1 s n).size≤s.size:=a6O
  have hll:(J0 s n).size≤(D1 s n).size:=Y6
  have hln:(j2 (D1 s n) 10).getD ((0:Int)).toNat default=J0 s n:=hs1
  have hlz:((j2 (D1 s n) 10).getD ((0:Int)).toNat default).size≤(D1 s n).size:=(by rw [hln];omega)
  have hpl:((pre (a5k s) n).length:Int)=n:=(by simp [N8])
  simp only [List.cons_append,List.nil_append]
  refine f9 (fun K5 hK5=>?_)
  refine f9 (fun K6 hK6=>?_)
  refine d4 (a8 rfl (b6 rfl rfl (e6 rfl rfl) (a8 rfl (b6 rfl rfl (e6 rfl rfl) (a8 rfl (b6 rfl rfl (j9 G rfl rfl rfl) (a8 rfl (b6 rfl rfl (I9 rfl rfl rfl rfl) (a8 rfl (b6 rfl rfl (e6 rfl rfl) (D4 rfl rfl rfl (fun h1=>?_) (fun h1=>?_))))))))))))
  ·try rw [h1]
   try simp only [rfb] at h1
   refine u6 rfl rfl rfl ?_
   refine b6 rfl rfl (e6 rfl rfl) ?_
   refine u6 rfl rfl rfl ?_
   first | refine b6 rfl rfl (a1D G rfl rfl rfl rfl (List.length_map _)) ?_ | refine b6 rfl rfl (a4e G rfl rfl rfl rfl) ?_
   refine u6 rfl rfl rfl ?_
   refine b6 rfl rfl (I9 rfl rfl rfl rfl) ?_
   refine a8 rfl ?_
   refine b6 rfl rfl (C9 rfl rfl rfl) ?_
   refine b4 ?_
   refine hK6 _ ?_
   clear hK6 K6
   refine r7 rfl (fun h2=>?_) (fun h2=>?_)
   ·try rw [h2]
    try simp only [rfb] at h2
    refine y9 ?_
    refine hK5 _ ?_
    clear hK5 K5
    refine w7 ?_
    refine f9 (fun K7 hK7=>?_)
    refine d4 ?_
    refine a8 rfl ?_
    refine b6 rfl rfl (e6 rfl rfl) ?_
    refine a8 rfl ?_
    refine b6 rfl rfl (e6 rfl rfl) ?_
    refine a8 rfl ?_
    refine b6 rfl rfl (N7 G rfl rfl rfl rfl rfl (by omega) (by omega) (by omega)) ?_
    refine a8 rfl ?_
    refine d7 2 rfl rfl rfl (ArgsOK.of rfl) (V9 _ 10 (Nat.le_trans a6O hs)) rfl rfl ?_
    refine a8 rfl ?_
    refine b6 rfl rfl (d6 rfl rfl) ?_
    refine b4 ?_
    refine hK7 _ ?_
    clear hK7 K7
    rw [b2z]
    refine f9 (fun K8 hK8=>?_)
    refine d4 ?_
    refine a8 rfl ?_
    refine b6 rfl rfl (e6 rfl rfl) ?_
    refine a8 rfl ?_
    first | refine b6 rfl rfl (b8 G rfl rfl rfl rfl rfl (by omega) (by simp;omega)) ?_ | refine b6 rfl rfl (b8 G rfl rfl rfl rfl rfl (by omega) (by omega)) ?_
    refine a8 rfl ?_
    refine b6 rfl rfl (j6 G rfl rfl rfl rfl rfl (B4 (by omega) (by simp;omega)) rfl) ?_
    refine a8 rfl ?_
    refine b6 rfl rfl (e6 rfl rfl) ?_
    refine a8 rfl ?_
    first | refine b6 rfl rfl (a1D G rfl rfl rfl rfl (List.length_map _)) ?_ | refine b6 rfl rfl (a4e G rfl rfl rfl rfl) ?_
    refine a8 rfl ?_
    refine b6 rfl rfl (f6 rfl (ArgsOK.of rfl) (a9O _ _ (by rw [hln];omega) (by omega) (by omega)) rfl) ?_
    refine a8 rfl ?_
    refine b6 rfl rfl (e6 rfl rfl) ?_
    refine a8 rfl ?_
    refine b6 rfl rfl (n8 rfl rfl rfl) ?_
    refine a8 rfl ?_
    refine b6 rfl rfl (n8 rfl rfl rfl) ?_
    refine a8 rfl ?_
    refine d8 G 3 rfl rfl rfl rfl rfl ?_
    refine a8 rfl ?_
    refine j7 G rfl rfl rfl rfl rfl rfl rfl rfl rfl rfl rfl ?_
    refine a8 rfl ?_
    refine b6 rfl rfl (d6 rfl rfl) ?_
    refine b4 ?_
    refine hK8 _ ?_
    clear hK8 K8
    rw [hln,hpl]
    refine f9 (fun K9 hK9=>?_)
    refine f9 (fun K10 hK10=>?_)
    refine d4 ?_
    refine a8 rfl ?_
    refine b6 rfl rfl (e6 rfl rfl) ?_
    refine a8 rfl ?_
    first | refine b6 rfl rfl (a1D G rfl rfl rfl rfl (List.length_map _)) ?_ | refine b6 rfl rfl (a4e G rfl rfl rfl rfl) ?_
    refine a8 rfl (b6 rfl rfl (I9 rfl rfl rfl rfl) (a8 rfl (b6 rfl rfl (e6 rfl rfl) (D4 rfl rfl rfl (fun h3=>?_) (fun h3=>?_)))))
    ·try rw [h3]
     try simp only [rfb] at h3
     have hN:=a2v hinv (c1l (by omega))
     refine m7 rfl rfl rfl rfl rfl rfl ?_
     refine m7 rfl rfl rfl rfl rfl rfl ?_
     refine a8 rfl ?_
     refine b6 rfl rfl (C9 rfl rfl rfl) ?_
     refine b4 ?_
     refine hK10 _ ?_
     clear hK10 K10
     refine J6 rfl ?_
     refine Y0 ?_
     refine hK4 _ ?_
     clear hK9 K9 hK4 K4
     refine f9 (fun K11 hK11=>?_)
     refine d4 ?_
     refine a8 rfl ?_
     refine b6 rfl rfl (e6 rfl rfl) ?_
     refine a8 rfl ?_
     refine b6 rfl rfl (e6 rfl rfl) ?_
     refine a8 rfl ?_
     refine b6 rfl rfl (d6 rfl rfl) ?_
     refine a8 rfl ?_
     refine b6 rfl rfl (d6 rfl rfl) ?_
     refine b4 ?_
     refine hK11 _ ?_
     clear hK11 K11
     refine c6 (g8 rfl rfl rfl rfl (a7 (b7 rfl ?_) (a7 (c1 ?_) b9)))
     all_goals ((rw [hN]))
    ·try rw [h3]
     try simp only [rfb] at h3
     refine u6 rfl rfl rfl ?_
     refine b6 rfl rfl (e6 rfl rfl) ?_
     refine u6 rfl rfl rfl ?_
     refine b6 rfl rfl (a2K rfl rfl) ?_
     refine a8 rfl ?_
     refine b6 rfl rfl (F8 rfl rfl rfl) ?_
     refine b4 ?_
     refine hK10 _ ?_
     clear hK10 K10
     refine r7 rfl (fun h4=>?_) (fun h4=>?_)
     ·try rw [h4]
      try simp only [rfb] at h4
      have hN:=a2v hinv (b6M h4)
      refine Y0 ?_
      refine hK4 _ ?_
      clear hK9 K9 hK4 K4
      refine f9 (fun K12 hK12=>?_)
      refine d4 ?_
      refine a8 rfl ?_
      refine b6 rfl rfl (e6 rfl rfl) ?_
      refine a8 rfl ?_
      refine b6 rfl rfl (e6 rfl rfl) ?_
      refine a8 rfl ?_
      refine b6 rfl rfl (d6 rfl rfl) ?_
      refine a8 rfl ?_
      refine b6 rfl rfl (d6 rfl rfl) ?_
      refine b4 ?_
      refine hK12 _ ?_
      clear hK12 K12
      refine c6 (g8 rfl rfl rfl rfl (a7 (b7 rfl ?_) (a7 (c1 ?_) b9)))
      all_goals ((rw [hN]))
     ·try rw [h4]
      try simp only [rfb] at h4
      have hok:=c3d (s:=s) (n:=n) (by omega) (by omega) h4
      refine y9 ?_
      refine hK9 _ ?_
      clear hK9 K9
      refine f9 (fun K13 hK13=>?_)
      refine d4 ?_
      refine a8 rfl ?_
      refine b6 rfl rfl (e6 rfl rfl) ?_
      refine a8 rfl ?_
      refine b6 rfl rfl (p5 G rfl rfl rfl rfl rfl rfl) ?_
      refine a8 rfl ?_
      refine s2 G 4 rfl rfl rfl rfl rfl rfl rfl rfl ?_
      refine a8 rfl ?_
      refine g9 G np rfl rfl rfl rfl rfl rfl rfl rfl rfl (by simp [N8];omega) rfl rfl ?_
      refine a8 rfl ?_
      refine b6 rfl rfl (d6 rfl rfl) ?_
      refine b4 ?_
      refine hK13 _ ?_
      clear hK13 K13
      refine d4 ?_
      refine a8 rfl ?_
      refine b6 rfl rfl (e6 rfl rfl) ?_
      refine a8 rfl ?_
      refine b6 rfl rfl (e6 rfl rfl) ?_
      refine a8 rfl ?_
      first | refine b6 rfl rfl (b8 G rfl rfl rfl rfl rfl (by omega) (by simp;omega)) ?_ | refine b6 rfl rfl (b8 G rfl rfl rfl rfl rfl (by omega) (by omega)) ?_
      refine a8 rfl ?_
      refine b6 rfl rfl (j6 G rfl rfl rfl rfl rfl (B4 (by omega) (by simp;omega)) rfl) ?_
      refine a8 rfl ?_
      refine b6 rfl rfl (j9 G rfl rfl rfl) ?_
      refine a8 rfl ?_
      first | refine b6 rfl rfl (x8 rfl rfl rfl rfl (by omega) (by omega)) ?_ | refine b6 rfl rfl (C5 rfl rfl rfl rfl) ?_
      refine a8 rfl ?_
      first | refine b6 rfl rfl (x8 rfl rfl rfl rfl (by omega) (by omega)) ?_ | refine b6 rfl rfl (C5 rfl rfl rfl rfl) ?_
      refine a8 rfl ?_
      refine b6 rfl rfl (d6 rfl rfl) ?_
      refine b4 ⟨(n+1),?_,?_,⟨⟨_,rfl,by (first | exact (rfl:AV.own 0=AV.own 0) | (rw [hln,b0v (s:=s) (n:=n)];done))⟩,rfl,⟨⟨_,rfl,by (first | exact (rfl:AV.own 0=AV.own 0) | (rw [hln,b0v (s:=s) (n:=n)];done))⟩,rfl,trivial⟩⟩,⟨⟨_,rfl,by (exact congrArg (Row.row _ _) (a3f (g:=a5k s) (f:=a4g) (i:=n)))⟩,rfl,rfl,trivial⟩,rfl,rfl,rfl⟩
      ·exact i8 hinv hok
      ·omega
   ·try rw [h2]
    try simp only [rfb] at h2
    have hN:=a2v hinv (c1k (by omega))
    refine Y0 ?_
    refine hK4 _ ?_
    clear hK5 K5 hK4 K4
    refine f9 (fun K14 hK14=>?_)
    refine d4 ?_
    refine a8 rfl ?_
    refine b6 rfl rfl (e6 rfl rfl) ?_
    refine a8 rfl ?_
    refine b6 rfl rfl (e6 rfl rfl) ?_
    refine a8 rfl ?_
    refine b6 rfl rfl (d6 rfl rfl) ?_
    refine a8 rfl ?_
    refine b6 rfl rfl (d6 rfl rfl) ?_
    refine b4 ?_
    refine hK14 _ ?_
    clear hK14 K14
    refine c6 (g8 rfl rfl rfl rfl (a7 (b7 rfl ?_) (a7 (c1 ?_) b9)))
    all_goals ((rw [hN]))
  ·try rw [h1]
   try simp only [rfb] at h1
   have hN:=a2v hinv (b6L (by omega))
   refine m7 rfl rfl rfl rfl rfl rfl ?_
   refine m7 rfl rfl rfl rfl rfl rfl ?_
   refine m7 rfl rfl rfl rfl rfl rfl ?_
   refine a8 rfl ?_
   refine b6 rfl rfl (F8 rfl rfl rfl) ?_
   refine b4 ?_
   refine hK6 _ ?_
   clear hK6 K6
   refine a8f rfl ?_
   refine Y0 ?_
   refine hK4 _ ?_
   clear hK5 K5 hK4 K4
   refine f9 (fun K15 hK15=>?_)
   refine d4 ?_
   refine a8 rfl ?_
   refine b6 rfl rfl (e6 rfl rfl) ?_
   refine a8 rfl ?_
   refine b6 rfl rfl (e6 rfl rfl) ?_
   refine a8 rfl ?_
   refine b6 rfl rfl (d6 rfl rfl) ?_
   refine a8 rfl ?_
   refine b6 rfl rfl (d6 rfl rfl) ?_
   refine b4 ?_
   refine hK15 _ ?_
   clear hK15 K15
   refine c6 (g8 rfl rfl rfl rfl (a7 (b7 rfl ?_) (a7 (c1 ?_) b9)))
   all_goals ((rw [hN]))
theorem a1l (s:ByteArray) (hs:s.size≤1048576):Ctr Tryz.prog 89 [.v (.string s)] (.many [.fr 63 2 ((pre (a5k s) (A0 s)).map a4g),.fr 3 1 ((pre (T4 s) (A0 s+1)).map Rf.r9)]):=by
 refine Ctr.of (n:=37) G Tryz.func89 rfl (by kernel_rfl) rfl rfl rfl (fun w0=>?_)
 refine f9 (fun K1 hK1=>?_)
 refine d4 ?_
 refine a8 rfl ?_
 refine b6 rfl rfl (d6 rfl rfl) ?_
 refine a8 rfl ?_
 refine b6 rfl rfl (d6 rfl rfl) ?_
 refine b4 ?_
 refine hK1 _ ?_
 clear hK1 K1
 refine f9 (fun K2 hK2=>?_)
 refine d4 ?_
 refine a8 rfl ?_
 refine s2 G 1 rfl rfl rfl rfl rfl rfl rfl rfl ?_
 refine a8 rfl ?_
 refine s2 G 2 rfl rfl rfl rfl rfl rfl rfl rfl ?_
 refine a8 rfl ?_
 refine b6 rfl rfl (d6 rfl rfl) ?_
 refine a8 rfl ?_
 refine b6 rfl rfl (d6 rfl rfl) ?_
 refine a8 rfl ?_
 refine b6 rfl rfl (d6 rfl rfl) ?_
 refine b4 ?_
 refine hK2 _ ?_
 clear hK2 K2
 refine w7 ?_
 refine i7 [0] [] (fun (n:Nat)=>[(4,.own 0),(5,.own 1),(6,.v (.int .i64 (T4 s n)))]) (fun (n:Nat)=>[(0,some (.row 63 2 ((pre (a5k s) n).map a4g))),(1,some (.row 3 1 ((pre (T4 s) (n+1)).map Rf.r9)))]) (fun (n:Nat)=>∀ j,j < n→okN s j=true) (fun (n:Nat)=>61 - n) 0 rfl rfl ?_ ?_ ?_ ?_
 ·exact fun j hj=>by omega
 ·exact ⟨⟨_,rfl,by rfl⟩,rfl,⟨⟨_,rfl,by rfl⟩,rfl,⟨⟨_,rfl,by rfl⟩,rfl,trivial⟩⟩⟩
 ·exact ⟨⟨_,rfl,by rfl⟩,rfl,rfl,⟨⟨_,rfl,by rfl⟩,rfl,rfl,trivial⟩⟩
 ·intro n hinv
  have hp:=b1n hinv
  have hpi:T4 s n=(D5 s n:Int):=rfl
  have hre:(D1 s n).size≤s.size:=a6O
  have hll:(J0 s n).size≤(D1 s n).size:=Y6
  have hpl:((pre (a5k s) n).length:Int)=n:=(by simp [N8])
  simp only [List.cons_append,List.nil_append]
  refine w7 ?_
  refine f9 (fun K3 hK3=>?_)
  refine d4 ?_
  refine a8 rfl ?_
  refine b6 rfl rfl (e6 rfl rfl) ?_
  refine a8 rfl ?_
  refine b6 rfl rfl (e6 rfl rfl) ?_
  refine a8 rfl ?_
  refine b6 rfl rfl (N7 G rfl rfl rfl rfl rfl (by omega) (by omega) (by omega)) ?_
  refine a8 rfl ?_
  refine b6 rfl rfl (e6 rfl rfl) ?_
  refine a8 rfl ?_
  first | refine b6 rfl rfl (a1D G rfl rfl rfl rfl (List.length_map _)) ?_ | refine b6 rfl rfl (a4e G rfl rfl rfl rfl) ?_
  refine a8 rfl ?_
  refine b6 rfl rfl (f6 rfl (ArgsOK.of rfl) (a6n _ _ (Nat.le_trans a6O hs) (by omega) (by omega)) rfl) ?_
  refine a8 rfl ?_
  refine b6 rfl rfl (e6 rfl rfl) ?_
  refine a8 rfl ?_
  refine b6 rfl rfl (n8 rfl rfl rfl) ?_
  refine a8 rfl ?_
  refine b6 rfl rfl (n8 rfl rfl rfl) ?_
  refine a8 rfl ?_
  refine b6 rfl rfl (n8 rfl rfl rfl) ?_
  refine a8 rfl ?_
  refine d8 G 3 rfl rfl rfl rfl rfl ?_
  refine a8 rfl ?_
  refine j7 G rfl rfl rfl rfl rfl rfl rfl rfl rfl rfl rfl ?_
  refine a8 rfl ?_
  refine b6 rfl rfl (d6 rfl rfl) ?_
  refine a8 rfl ?_
  refine b6 rfl rfl (d6 rfl rfl) ?_
  refine b4 ?_
  refine hK3 _ ?_
  clear hK3 K3
  refine f9 (fun K4 hK4=>?_)
  refine f9 (fun K5 hK5=>?_)
  refine d4 ?_
  refine a8 rfl ?_
  refine b6 rfl rfl (e6 rfl rfl) ?_
  refine a8 rfl ?_
  refine b6 rfl rfl (a2K rfl rfl) ?_
  refine b4 ?_
  refine hK5 _ ?_
  clear hK5 K5
  rw [b2z,hpl]
  refine r7 rfl (fun h1=>?_) (fun h1=>?_)
  ·try rw [h1]
   try simp only [rfb] at h1
   have hN:=a2v hinv h1
   refine f9 (fun K6 hK6=>?_)
   refine d4 ?_
   refine a8 rfl ?_
   refine b6 rfl rfl (e6 rfl rfl) ?_
   refine a8 rfl ?_
   refine b6 rfl rfl (e6 rfl rfl) ?_
   refine a8 rfl ?_
   refine b6 rfl rfl (d6 rfl rfl) ?_
   refine a8 rfl ?_
   refine b6 rfl rfl (d6 rfl rfl) ?_
   refine b4 ?_
   refine hK6 _ ?_
   clear hK6 K6
   refine c6 (g8 rfl rfl rfl rfl (a7 (b7 rfl ?_) (a7 (b7 rfl ?_) b9)))
   all_goals clear hK4 K4
   all_goals ((rw [hN]))
  ·try rw [h1]
   try simp only [rfb] at h1
   have hok:okN s n=true:=h1
   obtain ⟨he1,he2⟩:=c1m hok
   rw [he1,he2]
   have hb1:=a8k hok
   refine y9 ?_
   refine hK4 _ ?_
   clear hK4 K4
   refine f9 (fun K7 hK7=>?_)
   refine d4 ?_
   refine a8 rfl ?_
   refine b6 rfl rfl (e6 rfl rfl) ?_
   refine a8 rfl ?_
   refine b6 rfl rfl (e6 rfl rfl) ?_
   refine a8 rfl ?_
   first | refine b6 rfl rfl (x8 rfl rfl rfl rfl (by omega) (by omega)) ?_ | refine b6 rfl rfl (C5 rfl rfl rfl rfl) ?_
   refine a8 rfl ?_
   refine b6 rfl rfl (d6 rfl rfl) ?_
   refine b4 ?_
   refine hK7 _ ?_
   clear hK7 K7
   refine f9 (fun K8 hK8=>?_)
   refine d4 ?_
   refine a8 rfl ?_
   refine b6 rfl rfl (e6 rfl rfl) ?_
   refine a8 rfl ?_
   refine b6 rfl rfl (p5 G rfl rfl rfl rfl rfl rfl) ?_
   refine a8 rfl ?_
   refine s2 G 4 rfl rfl rfl rfl rfl rfl rfl rfl ?_
   refine a8 rfl ?_
   refine g9 G np rfl rfl rfl rfl rfl rfl rfl rfl rfl (by simp [N8];omega) rfl rfl ?_
   refine a8 rfl ?_
   refine b6 rfl rfl (d6 rfl rfl) ?_
   refine b4 ?_
   refine hK8 _ ?_
   clear hK8 K8
   refine d4 ?_
   refine a8 rfl ?_
   refine b6 rfl rfl (e6 rfl rfl) ?_
   refine a8 rfl ?_
   refine b6 rfl rfl (e6 rfl rfl) ?_
   refine a8 rfl ?_
   refine s2 G 5 rfl rfl rfl rfl rfl rfl rfl rfl ?_
   refine a8 rfl ?_
   refine g9 G np rfl rfl rfl rfl rfl rfl rfl rfl rfl (by simp [N8];omega) rfl rfl ?_
   refine a8 rfl ?_
   refine b6 rfl rfl (d6 rfl rfl) ?_
   refine b4 ⟨(n+1),?_,?_,⟨⟨_,rfl,by (first | exact (rfl:AV.own 0=AV.own 0) | exact (rfl:AV.own 1=AV.own 1) | (rw [a06 (s:=s) (n:=n)];done))⟩,rfl,⟨⟨_,rfl,by (first | exact (rfl:AV.own 0=AV.own 0) | exact (rfl:AV.own 1=AV.own 1) | (rw [a06 (s:=s) (n:=n)];done))⟩,rfl,⟨⟨_,rfl,by (first | exact (rfl:AV.own 0=AV.own 0) | exact (rfl:AV.own 1=AV.own 1) | (rw [a06 (s:=s) (n:=n)];done))⟩,rfl,trivial⟩⟩⟩,⟨⟨_,rfl,by (first | exact congrArg (Row.row _ _) (a3f (g:=a5k s) (f:=a4g) (i:=n)) | (rw [a06];exact congrArg (Row.row _ _) (a3f (g:=T4 s) (f:=Rf.r9) (i:=n+1))))⟩,rfl,rfl,⟨⟨_,rfl,by (first | exact congrArg (Row.row _ _) (a3f (g:=a5k s) (f:=a4g) (i:=n)) | (rw [a06];exact congrArg (Row.row _ _) (a3f (g:=T4 s) (f:=Rf.r9) (i:=n+1))))⟩,rfl,rfl,trivial⟩⟩,rfl,rfl,rfl⟩
   ·exact i8 hinv hok
   ·omega
end Go.Proofs.YtpfhomblkgmkkaaGreatDoor
set_option maxRecDepth 20000
namespace Go.Proofs.YtpfhomblkgmkkaaGreatDoor
open Go Go.Rf
theorem a6o (x:Lg):Ctr Tryz.prog 22 [.v (a5m x)] (.one (.v (a5m x))):=by
 refine Ctr.of (n:=14) G Tryz.func22 rfl b3 rfl rfl rfl (fun w0=>?_)
 refine T5 ?_
 refine vm5 ?_
 refine d8 G 3 rfl rfl rfl rfl rfl ?_
 refine zgo ?_
 refine c6 (H1 rfl (A7 rfl ?_))
 all_goals exact b3m
theorem b2d (x:Lg) (l:Int) (h0:x.d.size≤9223372036854775807∧x.p.size≤9223372036854775807) (hl:0≤l∧l≤1048576):Ctr Tryz.prog 19 [.v (a5m x),.v (.int .i64 l)] (.one (.v (.int .i64 (b76 x l)))):=by
 refine Ctr.of (n:=20) G Tryz.func19 rfl b3 rfl rfl rfl (fun w0=>?_)
 refine vm1 ?_
 refine a32 ?_
 refine zcd (fun h1=>?_) (fun h1=>?_)
 ·refine zf1 ?_
  all_goals exact b8K
 refine a32 ?_
 refine zcd (fun h2=>?_) (fun h2=>?_)
 ·refine zf1 ?_
  all_goals exact b8K
 refine zf1 ?_
 all_goals exact b8K
theorem a0c (x:Lg) (hx:x.d.size+x.p.size≤1048576):Ctr Tryz.prog 45 [.v (a5m x)] (.one (.v (.bool (H2 x)))):=by
 have hl1:=a2D (s:=x.d++x.p)
 have hl2:=a2D (s:=x.d)
 have hp1:T4 (x.d++x.p) (A0 (x.d++x.p))=(D5 (x.d++x.p) (A0 (x.d++x.p)):Int):=rfl
 have hp2:T4 x.d (A0 x.d)=(D5 x.d (A0 x.d):Int):=rfl
 have hrl:=b3g (s:=x.d++x.p)
 have hap:(x.d++x.p).size=x.d.size+x.p.size:=ByteArray.size_append
 have hge:=b4X (s:=x.d++x.p)
 have hel:(pre (T4 (x.d++x.p)) (A0 (x.d++x.p)+1)).length=A0 (x.d++x.p)+1:=N8
 have hem:((pre (T4 (x.d++x.p)) (A0 (x.d++x.p)+1)).map Rf.r9).length=A0 (x.d++x.p)+1:=(by rw [List.length_map,N8])
 refine Ctr.of (n:=53) G Tryz.func45 rfl b3 rfl rfl rfl (fun w0=>?_)
 refine vm1 ?_
 refine a32 ?_
 refine a32 ?_
 refine zcd (fun h1=>?_) (fun h1=>?_)
 ·have hO:=b9N (x:=x) (by omega)
  refine zf1 ?_
  all_goals exact b5m
 refine vm5 ?_
 refine b13 ?_
 refine o9 ?_
 refine d7 2 rfl rfl rfl (ArgsOK.of rfl) (a1k _ V3) rfl rfl ?_
 refine vm5 ?_
 refine d7 3 rfl rfl rfl (ArgsOK.of rfl) (a1k _ V3) rfl rfl ?_
 refine a32 ?_
 refine a32 ?_
 refine zcd (fun h2=>?_) (fun h2=>?_)
 ·refine zgo ?_
  refine a0P ?_
  refine b6 rfl rfl (j9 G rfl rfl rfl) ?_
  refine zcd (fun h3=>?_) (fun h3=>?_)
  ·have hO:=c10 (x:=x) (by omega) (by omega) (by omega)
   refine zf1 ?_
   all_goals exact b5m
  have hO:=b9O (x:=x) (by omega)
  refine zf1 ?_
  all_goals exact b5m
 have hO:=b4Y (x:=x) (by omega)
 refine zf1 ?_
 all_goals exact b5m
theorem W0 (x:Lg) (hx:x.d.size+x.p.size≤1048576):Ctr Tryz.prog 65 [.v (a5m x)] (.one (.v (.bool (H2 x)))):=by
 have hl1:=a2D (s:=x.d++x.p)
 have hl2:=a2D (s:=x.d)
 have hp1:T4 (x.d++x.p) (A0 (x.d++x.p))=(D5 (x.d++x.p) (A0 (x.d++x.p)):Int):=rfl
 have hp2:T4 x.d (A0 x.d)=(D5 x.d (A0 x.d):Int):=rfl
 have hrl:=b3g (s:=x.d++x.p)
 have hap:(x.d++x.p).size=x.d.size+x.p.size:=ByteArray.size_append
 have hge:=b4X (s:=x.d++x.p)
 have hel:(pre (T4 (x.d++x.p)) (A0 (x.d++x.p)+1)).length=A0 (x.d++x.p)+1:=N8
 have hem:((pre (T4 (x.d++x.p)) (A0 (x.d++x.p)+1)).map Rf.r9).length=A0 (x.d++x.p)+1:=(by rw [List.length_map,N8])
 refine Ctr.of (n:=45) G Tryz.func65 rfl b3 rfl rfl rfl (fun w0=>?_)
 refine vm1 ?_
 refine vm5 ?_
 refine b13 ?_
 refine vm5 ?_
 refine d7 3 rfl rfl rfl (ArgsOK.of rfl) (a1l _ V3) rfl rfl ?_
 refine vm6 ?_
 refine c2R ?_
 refine a32 ?_
 refine zcd (fun h1=>?_) (fun h1=>?_)
 ·have hO:=b4Y (x:=x) (by omega)
  refine H3 ?_
  all_goals ((rw [hO]))
 refine zcd (fun h2=>?_) (fun h2=>?_)
 ·have hO:=b9P (x:=x) (by omega)
  refine zf1 ?_
  all_goals ((rw [hO]))
 refine zgo ?_
 refine i7 [1,33,34] [0,2] (fun (i:Nat)=>[(35,.v (.int .i64 (i:Int)))]) (fun (i:Nat)=>[]) (fun (i:Nat)=>i≤A0 (x.d++x.p)+1∧∀ j,j < i→¬ D5 (x.d++x.p) j=x.d.size) (fun (i:Nat)=>A0 (x.d++x.p)+1 - i) 0 rfl rfl ?_ ?_ ?_ ?_
 ·exact ⟨Nat.zero_le _,fun j hj=>by omega⟩
 ·exact ⟨⟨_,rfl,by rfl⟩,rfl,trivial⟩
 ·exact trivial
 intro i hinv
 have hi:=hinv.1
 have hpi:T4 (x.d++x.p) i=(D5 (x.d++x.p) i:Int):=rfl
 have hgi:i < A0 (x.d++x.p)+1→(pre (T4 (x.d++x.p)) (A0 (x.d++x.p)+1)).getD ((i:Int)).toNat default=T4 (x.d++x.p) i:=fun h=>a89 h
 simp only [List.cons_append,List.nil_append]
 refine zcd (fun h3=>?_) (fun h3=>?_)
 ·refine vm6 ?_
  refine c2R ?_
  refine a32 ?_
  refine zcd (fun h4=>?_) (fun h4=>?_)
  ·have hO:=b6e (x:=x) (j:=i) (by omega) (by omega) (by omega) (by omega)
   refine zf1 ?_
   all_goals ((rw [hO]))
  refine zgo ?_
  refine ⟨(i+1),?_,?_,⟨⟨_,rfl,by rfl⟩,rfl,trivial⟩,trivial,rfl,rfl,rfl⟩
  ·exact ⟨by omega,i8 hinv.2 (by omega)⟩
  omega
 have hO:=b6f (x:=x) (fun j hj=>hinv.2 j (by omega))
 refine zf1 ?_
 all_goals ((rw [hO]))
end Go.Proofs.YtpfhomblkgmkkaaGreatDoor
