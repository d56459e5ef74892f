/- Texts merged into one: W6, M18, Q5, M23, L4, L5, L6. -/
import Derived.Test.YtpfhomblkgmkkaaGreatDoorPFnExactExecuteCommandE
set_option maxHeartbeats 4000000
set_option linter.unusedSimpArgs false
set_option linter.unusedVariables false
set_option maxRecDepth 20000
namespace Go.Proofs.YtpfhomblkgmkkaaGreatDoor
open Go Go.Rf
theorem a1U:Z9 Tryz.prog 98 [.int .i64,.int .i64,.int .i64,.int .i64]=true:=by kernel_rfl
theorem D6 (m:Mach) (c:Int) (hn:m.cp.length<=1048576):Ctr Tryz.prog 114 [.agg [.lst 2 (m.rs.map m4),.lst 1 (m.en.map j4),.lst 1 (m.ra.map j4),.nst none 4 (m.cp.map (l8 169 182))],.v (.int .i64 c)] (.one (.v (.bool (m5 c 0 ((m.cp.length:Int) - 1))))):=by
 refine Ctr.of (n:=11) G Tryz.func114 Z a8 Z Z Z (λw0=>?_)
 refine j5 0 Z (λ_=>Z) (λu0=>?_)
 refine vm3 ?_
 exact b6f
theorem a4j (m:Mach) (s:MStep) (hn:m.cp.length<=1048576):Ctr Tryz.prog 119 [.agg [.lst 2 (m.rs.map m4),.lst 1 (m.en.map j4),.lst 1 (m.ra.map j4),.nst none 4 (m.cp.map (l8 169 182))],.v (b7O s)] (.one (.v (.bool (H1 m.cp.length s)))):=by
 refine Ctr.of (n:=75) G Tryz.func119 Z a8 Z Z Z (λw0=>?_)
 refine j5 0 Z (λ_=>Z) (λu0=>?_)
 refine a2r ?_
 refine zcd (λh1=>?_) (λh1=>?_)
 ·refine zcl (a0c _) ?_
  exact b4b
 refine zcd (λh4=>?_) (λh4=>?_)
 ·refine p8 ?_
  refine b5 Z Z (c6C [.int .i64,.int .i64,.int .i64,.int .i64] Z Z Z Z Z Z Z (.inl Z) (.inl Z) a1U ⟨_,_,Z,⟨_,Z⟩,_,_,Z,⟨_,Z⟩,_,_,Z,⟨_,Z⟩,_,_,Z,⟨_,Z⟩,Z⟩ ⟨_,_,Z,⟨_,Z⟩,_,_,Z,⟨_,Z⟩,_,_,Z,⟨_,Z⟩,_,_,Z,⟨_,Z⟩,Z⟩) ?_
  exact a2I
 refine zcd (λh5=>?_) (λh5=>?_)
 ·refine zwt ?_
  exact c3P
 refine zcd (λh8=>?_) (λh8=>?_)
 ·exact c3P
 refine zcd (λh11=>?_) (λh11=>?_)
 ·refine zcd (λh12=>?_) (λh12=>?_)
  ·refine zcl (D6 m s.c hn) ?_
   refine zcd (λh13=>?_) (λh13=>?_)
   ·refine zcl (a4B _) ?_
    exact a2I
   exact a2I
  exact a2I
 refine zcd (λh14=>?_) (λh14=>?_)
 ·refine zcl (a0c _) ?_
  refine zcd (λh15=>?_) (λh15=>?_)
  ·refine zcd (λh16=>?_) (λh16=>?_)
   ·refine zcl (C5 _ _ _) ?_
    exact a2I
   exact a2I
  exact a2I
 exact a2I
theorem a7u (m:Mach) (s:MStep) (hn:m.cp.length<=1048576):Ctr Tryz.prog 147 [.agg [.lst 2 (m.rs.map m4),.lst 1 (m.en.map j4),.lst 1 (m.ra.map j4),.nst none 4 (m.cp.map (l8 169 182))],.v (b7O s)] (.one (.v (.bool (H1 m.cp.length s)))):=by
 refine Ctr.of (n:=90) G Tryz.func147 Z a8 Z Z Z (λw0=>?_)
 refine j5 0 Z (λ_=>Z) (λu0=>?_)
 refine a2r ?_
 refine b2L ?_
 refine zcd (λh1=>?_) (λh1=>?_)
 ·refine zcl (a0d _) ?_
  exact b4b
 refine zcd (λh4=>?_) (λh4=>?_)
 ·exact b4b
 refine zcd (λh7=>?_) (λh7=>?_)
 ·refine zwt ?_
  exact b4b
 refine zcd (λh10=>?_) (λh10=>?_)
 ·exact b4b
 refine zcd (λh13=>?_) (λh13=>?_)
 ·exact c3Q
 refine zcd (λh16=>?_) (λh16=>?_)
 ·refine zcl (a0d _) ?_
  exact c3Q
 exact a2I
theorem b0d (m:Mach) (hM:MaG m) (hs:SmallM m):Ctr Tryz.prog 145 [.agg [.lst 2 (m.rs.map m4),.lst 1 (m.en.map j4),.lst 1 (m.ra.map j4),.nst none 4 (m.cp.map (l8 169 182))]] (.shp true [some 5] [.fr 4 1 ((S4 m).en.map j4),.fr 4 1 ((S4 m).ra.map j4),.fr 4 1 ((S4 m).po.map j4),.fr 3 1 ((S4 m).ma.map Rf.n7),.ne 93 1 ((S4 m).st.map a5Z)]):=by
 have f1:=hM.n
 have f2:=hM.en
 have f3:=hM.ra
 have f4:=hM.rn
 refine Ctr.of (n:=70) G Tryz.func145 Z a8 Z Z Z (λw0=>?_)
 refine j5 0 Z (λ_=>Z) (λu0=>?_)
 refine N3 ?_
 refine zgn ?_
 refine n9 (l3 14 [0,1] mixed a8 Z Z (λr0=>?_) (λ_ h=>h))
 refine zsa 1 ?_
 refine zsa 2 ?_
 refine zsa 5 ?_
 refine zsa 6 ?_
 refine x5 (N:=8) Z (r7 (fuel:=4) [⟨0,7,2,false,.row 4 1 []⟩,⟨4,11,3,false,.row 4 1 []⟩,⟨8,15,4,false,.row 4 1 (List.replicate 8 [.bool false])⟩,⟨9,16,5,false,.row 3 1 []⟩,⟨10,17,6,false,.row 93 1 []⟩,⟨12,3,7,true,.box (avR [.slice none 0 0,.slice none 0 0,.slice none 0 0,.slice none 0 0,.slice none 0 0] [])⟩] (AllVOK.cons (VOK.lit G Z Z Z Z Z) (AllVOK.cons (VOK.lit G Z Z Z Z Z) (AllVOK.cons (VOK.make (n:=8) G Z Z Z Z Z (by decide) (by decide)) (AllVOK.cons (VOK.lit G Z Z Z Z Z) (AllVOK.cons (VOK.lit G Z Z Z Z Z) (AllVOK.cons (VOK.boxS G Z Z Z Z Z) (AllVOK.nil))))))) (λhok=>?_))
 refine m6 [(3,[0])] a8 a8 (λe he=>hok e he) a8 (AllVS.cons ?_ AllVS.nil)
 refine VStep.mk1 [0,1] 7 (.own 2) 2 (.row 4 1 []) [⟨4,11,3,false,.row 4 1 []⟩,⟨8,15,4,false,.row 4 1 (List.replicate 8 [.bool false])⟩,⟨9,16,5,false,.row 3 1 []⟩,⟨10,17,6,false,.row 93 1 []⟩,⟨12,3,7,true,.box (avR [.slice none 0 0,.slice none 0 0,.slice none 0 0,.slice none 0 0,.slice none 0 0] [])⟩] Z Z Z Z Z (λb1 _ hbn=>j3 G O9 Z Z Z Z Z Z Z Z Z R4 Z Z (b6 Z)) a8 a8 a8 a8 (m6 [(7,[4])] a8 a8 (λe he=>hok e (vin (is:=[0]) Z he)) a8 (AllVS.cons ?_ AllVS.nil))
 refine VStep.mk1 [0,1] 11 (.own 3) 3 (.row 4 1 []) [⟨8,15,4,false,.row 4 1 (List.replicate 8 [.bool false])⟩,⟨9,16,5,false,.row 3 1 []⟩,⟨10,17,6,false,.row 93 1 []⟩,⟨12,3,7,true,.box (avR [.slice none 0 0,.slice none 0 0,.slice none 0 0,.slice none 0 0,.slice none 0 0] [])⟩] Z Z Z Z Z (λb1 _ hbn=>j3 G O9 Z Z Z Z Z Z Z Z Z R4 Z Z (b6 Z)) a8 a8 a8 a8 (m6 [(11,[8,9,10])] a8 a8 (λe he=>hok e (vin (is:=[0,4]) Z he)) a8 (AllVS.cons ?_ AllVS.nil))
 refine VStep.mk3 [0,1] 15 (.own 4) 4 (.row 4 1 (List.replicate 8 [.bool false])) 16 (.own 5) 5 (.row 3 1 []) 17 (.own 6) 6 (.row 93 1 []) [⟨12,3,7,true,.box (avR [.slice none 0 0,.slice none 0 0,.slice none 0 0,.slice none 0 0,.slice none 0 0] [])⟩] Z Z Z Z Z (λb1 _ hbn=>b5 Z Z (w6 G Z Z Z Z) (b6 Z)) a8 a8 a8 a8 (m6 [(13,[12])] a8 a8 (λe he=>hok e (vin (is:=[0,4,8,9,10]) Z he)) a8 (AllVS.cons ?_ AllVS.nil))
 refine VStep.mk1 [0,1] 3 (.ptr 7 0) 7 (.box (avR [.slice none 0 0,.slice none 0 0,.slice none 0 0,.slice none 0 0,.slice none 0 0] [])) [] Z Z Z Z Z (λb1 _ hbn=>m3 G Z Z Z Z Z Z Z Z Z Z Z (b6 Z)) a8 a8 a8 a8 (D1 ?_)
 clear hok
 refine a3c (Gh.nest (id:=6) (yss:=[]) Z Z (by intro _ _ _ h;simp at h)) ?_
 refine J1 ?_
 refine zgo ?_
 refine e6 [1,2,3] [0,1,2,3,7] (λ(k:Nat)=>[(4,.v (.int .i64 (k:Int)))]) (λ(k:Nat)=>[(4,some (.row 4 1 ((poN m k).map j4))),(5,some (.row 3 1 (((m.cp.map (λx=>x.ma)).take k).map Rf.n7))),(6,some (.nest 93 1 (((m.cp.map (λx=>x.st)).take k).map a5Z) []))]) (λ(k:Nat)=>k<=m.cp.length) (λ(k:Nat)=>m.cp.length - k) 0 Z Z ?_ ?_ ?_ ?_
 ·exact B2
 ·exact a8g
 ·exact c3p
 intro k hk
 have hp8:=@F9 m k
 have hm1:(m.cp.map (λx=>x.ma)).length=m.cp.length:=List.length_map _
 have hm2:(m.cp.map (λx=>x.st)).length=m.cp.length:=List.length_map _
 refine vm4 ?_
 refine zcd (λh1=>?_) (λh1=>?_)
 ·have hI:=(hM.ok k J).f
  have hsn:=hI.sn
  have hpl:=a1L hI.qu
  refine p8 ?_
  refine b41 ?_
  refine p8 ?_
  refine c8 9 Z Z Z (ArgsOK.of Z) (U8 (m.cp.getD k default).qu hI.qu) Z Z ?_
  refine zgo ?_
  refine e6 [1,2,3,4,5] [0,1,2,3,5,6,7,8] (λ(i:Nat)=>[(6,.v (.int .i64 (i:Int)))]) (λ(i:Nat)=>[(4,some (.row 4 1 ((b3P (poN m k) (A5 (m.cp.getD k default).qu) i).map j4)))]) (λ(i:Nat)=>i<=(A5 (m.cp.getD k default).qu).length) (λ(i:Nat)=>(A5 (m.cp.getD k default).qu).length - i) 0 Z Z ?_ ?_ ?_ ?_
  ·exact B2
  ·exact a8g
  ·exact a0J
  intro i hi
  have hbp:=λh=>b2p hI.qu (i:=i) h
  have hpo:=@E4 (poN m k) (A5 (m.cp.getD k default).qu) i
  have hp8:=@F9 m k
  refine vm4 ?_
  refine zcd (λh2=>?_) (λh2=>?_)
  ·have hbq:=hbp J
   refine zgn ?_
   refine n9 (r4 (l3 8 [0,1,2,3,5,6,7,8] mixed a8 Z Z (λr0=>?_) (λ_ h=>h)))
   refine a0A ?_
   first | refine d5 4 Z a8 a8 Z Z Z Z (b9 G Z Z Z Z Z J a6w) ?_ | refine d5 4 Z a8 a8 Z Z Z Z (b9 G Z Z Z Z Z J (by rw [List.length_map,E4,F9];omega)) ?_ | refine d5 4 Z a8 a8 Z Z Z Z (b9 G Z Z Z Z Z J B1) ?_ | refine d5 4 Z a8 a8 Z Z Z Z (b9 G Z Z Z Z Z J J) ?_
   first | refine d5 5 Z a8 a8 Z Z Z Z (j2 G Z Z Z Z Z (a14 J) Z) ?_ | refine d5 5 Z a8 a8 Z Z Z Z (j2 G Z Z Z Z Z (x9 J (by rw [E4,F9];omega)) Z) ?_ | refine d5 5 Z a8 a8 Z Z Z Z (j2 G Z Z Z Z Z (x9 J J) Z) ?_
   refine b7 (rs:=[6]) a8 Z (AllB.cons ?_ AllB.nil)
   first | refine f9 [0,1,2,3,5,6,7,8] Z Z (b5 Z Z (b9 G Z Z Z Z Z J a6w) (b6 ⟨Z,?_⟩)) | refine f9 [0,1,2,3,5,6,7,8] Z Z (b5 Z Z (b9 G Z Z Z Z Z J (by rw [List.length_map,E4,F9];omega)) (b6 ⟨Z,?_⟩)) | refine f9 [0,1,2,3,5,6,7,8] Z Z (b5 Z Z (b9 G Z Z Z Z Z J B1) (b6 ⟨Z,?_⟩)) | refine f9 [0,1,2,3,5,6,7,8] Z Z (b5 Z Z (b9 G Z Z Z Z Z J J) (b6 ⟨Z,?_⟩))
   refine b7 (rs:=[7]) a8 Z (AllB.cons ?_ AllB.nil)
   first | refine f9 [0,1,2,3,5,6,7,8] Z Z (l2 G Z Z Z Z Z (a14 J) Z Z Z Z Z (Nat.le_of_ble_eq_true Z) Z (b6 ⟨Z,?_⟩)) | refine f9 [0,1,2,3,5,6,7,8] Z Z (l2 G Z Z Z Z Z (x9 J (by rw [E4,F9];omega)) Z Z Z Z Z (Nat.le_of_ble_eq_true Z) Z (b6 ⟨Z,?_⟩)) | refine f9 [0,1,2,3,5,6,7,8] Z Z (l2 G Z Z Z Z Z (x9 J J) Z Z Z Z Z (Nat.le_of_ble_eq_true Z) Z (b6 ⟨Z,?_⟩))
   refine J1 ?_
   refine zgo ?_
   refine ⟨(i+1),?_,?_,⟨⟨_,Z,by rfl⟩,Z,trivial⟩,⟨⟨_,Z,by (first | rfl | (exact congrArg (λz=>Row.row _ _ z) (a0X J)) | (exact congrArg (λz=>Row.nest _ _ z []) (a0Y J Z)) | (exact congrArg (λz=>Row.row _ _ z) b54) | (obtain rfl:i=(A5 (m.cp.getD k default).qu).length:=J;rfl))⟩,Z,Z,trivial⟩,Z,Z,Z⟩
   ·omega
   omega
  refine zgo ?_
  apply x7 [1,2,3,4] [0,1,2,3,4,6,7,10] 11 12 [0,1,2,3,4,6,8] mixed a8 Z Z (λ_ h=>znk h)
  ·intro r0
   refine zsa 0 ?_
   refine zsa 2 ?_
   refine zsa 3 ?_
   refine zsa 4 ?_
   refine zsa 5 ?_
   refine d5 6 Z a8 a8 Z Z Z Z (P6 G Z Z Z Z) (d5 7 Z a8 a8 Z Z Z Z (D9 G Z Z Z Z) (b7 (rs:=[1,8]) a8 Z (AllB.cons ?_ (AllB.cons ?_ AllB.nil))))
   ·refine g9 [0,1,2,3,4,6,8] Z Z ?_
    refine U6 ?_
    refine b7 (rs:=[8]) a8 Z (AllB.cons ?_ AllB.nil)
    refine g9 [0,1,2,3,4,6,8] Z Z (t7 G 10 Z Z Z Z Z Z Z Z (b6 ⟨Z,?_⟩))
    exact c3H
   refine g9 [0,1,2,3,4,6,8] Z Z (t7 G 10 Z Z Z Z Z Z Z Z (b6 ⟨Z,?_⟩))
   refine b7 (rs:=[1]) a8 Z (AllB.cons ?_ AllB.nil)
   refine g9 [0,1,2,3,4,6,8] Z Z ?_
   refine U6 ?_
   exact c3H
  apply x7 [1,2,3,4] [0,1,2,3,4,7,10,13] 14 13 [0,1,2,3,4,10] mixed a8 Z Z (λ_ h=>znk h)
  ·intro r0
   refine zsa 0 ?_
   refine zsa 2 ?_
   refine zsa 3 ?_
   refine zsa 4 ?_
   refine zsa 5 ?_
   refine d5 6 Z a8 a8 Z Z Z Z (P6 G Z Z Z Z) (d5 7 Z a8 a8 Z Z Z Z (D9 G Z Z Z Z) (b7 (rs:=[1,8]) a8 Z (AllB.cons ?_ (AllB.cons ?_ AllB.nil))))
   ·refine g9 [0,1,2,3,4,10] Z Z ?_
    refine U6 ?_
    refine b7 (rs:=[8]) a8 Z (AllB.cons ?_ AllB.nil)
    refine g9 [0,1,2,3,4,10] Z Z (c8 12 Z Z Z (ArgsOK.of Z) (E3 _ J) Z Z (b6 ⟨Z,?_⟩))
    exact c39
   refine g9 [0,1,2,3,4,10] Z Z (c8 12 Z Z Z (ArgsOK.of Z) (E3 _ J) Z Z (b6 ⟨Z,?_⟩))
   refine b7 (rs:=[1,9]) a8 Z (AllB.cons ?_ (AllB.cons ?_ AllB.nil))
   ·refine g9 [0,1,2,3,4,10] Z Z ?_
    refine U6 ?_
    exact c39
   refine g9 [0,1,2,3,4,10] Z Z (A8 G 13 Z Z Z Z Z Z Z Z (.own Z .nil) Z Z Z Z (b6 ⟨Z,?_⟩))
   refine b7 (rs:=[1]) a8 Z (AllB.cons ?_ AllB.nil)
   refine g9 [0,1,2,3,4,10] Z Z ?_
   refine U6 ?_
   exact c3B
  refine b8 ?_
  refine b36 ?_
  refine a0s (Gh.sub 10 5 np Z Z Z) (a0s (Gh.sub 13 6 np Z Z Z) (b6 ⟨(k+1),?_,?_,⟨⟨_,Z,by rfl⟩,Z,trivial⟩,⟨⟨_,Z,by (first | rfl | (exact congrArg (λz=>Row.row _ _ z) (a0X J)) | (exact congrArg (λz=>Row.nest _ _ z []) (a0Y J Z)) | (exact congrArg (λz=>Row.row _ _ z) b54) | (obtain rfl:i=(A5 (m.cp.getD k default).qu).length:=J;rfl))⟩,Z,Z,⟨⟨_,Z,by (first | rfl | (exact congrArg (λz=>Row.row _ _ z) (a0X J)) | (exact congrArg (λz=>Row.nest _ _ z []) (a0Y J Z)) | (exact congrArg (λz=>Row.row _ _ z) b54) | (obtain rfl:i=(A5 (m.cp.getD k default).qu).length:=J;rfl))⟩,Z,Z,⟨⟨_,Z,by (first | rfl | (exact congrArg (λz=>Row.row _ _ z) (a0X J)) | (exact congrArg (λz=>Row.nest _ _ z []) (a0Y J Z)) | (exact congrArg (λz=>Row.row _ _ z) b54) | (obtain rfl:i=(A5 (m.cp.getD k default).qu).length:=J;rfl))⟩,Z,Z,trivial⟩⟩⟩,Z,Z,Z⟩))
  ·omega
  omega
 refine zgo ?_
 refine f6 (m8 Z Z Z Z (b4 (d7 Z ?_) (b4 (d7 Z ?_) (b4 (d7 Z ?_) (b4 (d7 Z ?_) (b4 (C7 Z ?_) f8))))))
 all_goals (first | rfl | (obtain rfl:k=m.cp.length:=J;first | rfl | (rw [b3Q (Nat.le_refl _)];rfl)) | simp)
theorem a4k (m:Mach) (hM:MaG m) (hs:SmallM m):Ctr Tryz.prog 118 [.agg [.lst 2 (m.rs.map m4),.lst 1 (m.en.map j4),.lst 1 (m.ra.map j4),.nst none 4 (m.cp.map (l8 169 182))]] (.shp true [some 5] [.fr 4 1 ((S4 m).en.map j4),.fr 4 1 ((S4 m).ra.map j4),.fr 4 1 ((S4 m).po.map j4),.fr 3 1 ((S4 m).ma.map Rf.n7),.ne 93 1 ((S4 m).st.map a5Z)]):=by
 have f1:=hM.n
 have f2:=hM.en
 have f3:=hM.ra
 have f4:=hM.rn
 refine Ctr.of (n:=57) G Tryz.func118 Z Y Z Z Z (λw0=>?_)
 refine j5 0 Z (λ_=>Z) (λu0=>?_)
 refine d3 (λK1 hK1=>?_)
 refine b8 (a7 Z (A3 1 Z Z Z Z Z Z Z (a7 Z (d6 G 2 Z Z Z Z Z (b6 (hK1 _ ?_))))))
 clear hK1 K1
 refine d3 (λK2 hK2=>?_)
 refine l3 14 [0,1] mixed Y Z Z (λr0=>?_) (λ_ h=>h)
 refine d5 1 Z Y Y Z Z Z Z (m9 G Z Z Z Z) (d5 2 Z Y Y Z Z Z Z (a5S (o7 G Z Z Z Z Z Z Z)) (d5 5 Z Y Y Z Z Z Z (m9 G Z Z Z Z) (d5 6 Z Y Y Z Z Z Z (a5S (o7 G Z Z Z Z Z Z Z)) ?_)))
 refine x5 (N:=8) Z (r7 (fuel:=4) [⟨0,8,2,false,.row 4 1 []⟩,⟨4,12,3,false,.row 4 1 []⟩,⟨8,16,4,false,.row 4 1 (List.replicate 8 [.bool false])⟩,⟨9,17,5,false,.row 3 1 []⟩,⟨10,18,6,false,.row 93 1 []⟩,⟨12,3,7,true,.box (avR [.slice none 0 0,.slice none 0 0,.slice none 0 0,.slice none 0 0,.slice none 0 0] [])⟩] (AllVOK.cons (VOK.lit G Z Z Z Z Z) (AllVOK.cons (VOK.lit G Z Z Z Z Z) (AllVOK.cons (VOK.make (n:=8) G Z Z Z Z Z (by decide) (by decide)) (AllVOK.cons (VOK.lit G Z Z Z Z Z) (AllVOK.cons (VOK.lit G Z Z Z Z Z) (AllVOK.cons (VOK.boxS G Z Z Z Z Z) (AllVOK.nil))))))) (λhok=>?_))
 refine m6 [(3,[0])] Y Y (λe he=>hok e he) Y (AllVS.cons ?_ AllVS.nil)
 refine VStep.mk1 [0,1] 8 (.own 2) 2 (.row 4 1 []) [⟨4,12,3,false,.row 4 1 []⟩,⟨8,16,4,false,.row 4 1 (List.replicate 8 [.bool false])⟩,⟨9,17,5,false,.row 3 1 []⟩,⟨10,18,6,false,.row 93 1 []⟩,⟨12,3,7,true,.box (avR [.slice none 0 0,.slice none 0 0,.slice none 0 0,.slice none 0 0,.slice none 0 0] [])⟩] Z Z Z Z Z (λb1 _ hbn=>j3 G (by rw [hbn];exact Nat.le_of_ble_eq_true Z) Z Z Z Z Z Z Z Z Z (by first | (simp only [List.length_map,List.length_cons,List.length_nil];omega) | (simp;omega)) Z Z (b6 Z)) Y Y Y Y ?_
 refine m6 [(7,[4])] Y Y (λe he=>hok e (vin (is:=[0]) Z he)) Y (AllVS.cons ?_ AllVS.nil)
 refine VStep.mk1 [0,1] 12 (.own 3) 3 (.row 4 1 []) [⟨8,16,4,false,.row 4 1 (List.replicate 8 [.bool false])⟩,⟨9,17,5,false,.row 3 1 []⟩,⟨10,18,6,false,.row 93 1 []⟩,⟨12,3,7,true,.box (avR [.slice none 0 0,.slice none 0 0,.slice none 0 0,.slice none 0 0,.slice none 0 0] [])⟩] Z Z Z Z Z (λb1 _ hbn=>j3 G (by rw [hbn];exact Nat.le_of_ble_eq_true Z) Z Z Z Z Z Z Z Z Z (by first | (simp only [List.length_map,List.length_cons,List.length_nil];omega) | (simp;omega)) Z Z (b6 Z)) Y Y Y Y ?_
 refine m6 [(11,[8,9,10])] Y Y (λe he=>hok e (vin (is:=[0,4]) Z he)) Y (AllVS.cons ?_ AllVS.nil)
 refine VStep.mk3 [0,1] 16 (.own 4) 4 (.row 4 1 (List.replicate 8 [.bool false])) 17 (.own 5) 5 (.row 3 1 []) 18 (.own 6) 6 (.row 93 1 []) [⟨12,3,7,true,.box (avR [.slice none 0 0,.slice none 0 0,.slice none 0 0,.slice none 0 0,.slice none 0 0] [])⟩] Z Z Z Z Z (λb1 _ hbn=>b5 Z Z (w6 G Z Z Z Z) (b6 Z)) Y Y Y Y ?_
 refine m6 [(13,[12])] Y Y (λe he=>hok e (vin (is:=[0,4,8,9,10]) Z he)) Y (AllVS.cons ?_ AllVS.nil)
 refine VStep.mk1 [0,1] 3 (.ptr 7 0) 7 (.box (avR [.slice none 0 0,.slice none 0 0,.slice none 0 0,.slice none 0 0,.slice none 0 0] [])) [] Z Z Z Z Z (λb1 _ hbn=>m3 G Z Z Z Z Z Z Z Z Z Z Z (b6 Z)) Y Y Y Y (D1 ?_)
 clear hok
 refine a3c (Gh.nest (id:=6) (yss:=[]) Z Z (by intro _ _ _ h;simp at h)) (C3 Y (hK2 _ ?_))
 clear hK2 K2
 refine d3 (λK3 hK3=>?_)
 refine d3 (λK4 hK4=>?_)
 refine b8 (a7 Z (b5 Z Z (m9 G Z Z Z Z) (a7 Z (b5 Z Z (b7I (o7 G Z Z Z Z Z Z Z)) (a7 Z ?_)))))
 first | refine b5 Z Z (T5 G Z Z Z Z (List.length_map _)) ?_ | refine b5 Z Z (a1j G Z Z Z Z) ?_
 refine a7 Z (b5 Z Z (c7 Z Z) (b6 (hK4 _ ?_)))
 clear hK4 K4
 refine r4 ?_
 refine e6 [2,3,21,22] [1,2,3,7] (λ(k:Nat)=>[(23,.v (.int .i64 (k:Int)))]) (λ(k:Nat)=>[(4,some (.row 4 1 ((poN m k).map j4))),(5,some (.row 3 1 (((m.cp.map (λx=>x.ma)).take k).map Rf.n7))),(6,some (.nest 93 1 (((m.cp.map (λx=>x.st)).take k).map a5Z) []))]) (λ(k:Nat)=>k<=m.cp.length) (λ(k:Nat)=>m.cp.length - k) 0 Z Z ?_ ?_ ?_ ?_
 ·exact B2
 ·exact a8g
 ·exact c3p
 ·intro k hk
  have hp8:=@F9 m k
  have hm1:(m.cp.map (λx=>x.ma)).length=m.cp.length:=List.length_map _
  have hm2:(m.cp.map (λx=>x.st)).length=m.cp.length:=List.length_map _
  simp only [List.cons_append,List.nil_append]
  refine d3 (λK5 hK5=>?_)
  refine b8 (a7 Z (b5 Z Z (B3 Z Z Z Z) (b6 (hK5 _ ?_))))
  clear hK5 K5
  refine d3 (λK6 hK6=>?_)
  refine j9 Z (λh1=>?_) (λh1=>?_)
  ·try rw [h1]
   try simp only [rfb] at h1
   have hI:=(hM.ok k J).f
   have hsn:=hI.sn
   have hpl:=a1L hI.qu
   refine s4 (hK6 _ ?_)
   clear hK6 K6
   refine d3 (λK7 hK7=>?_)
   refine r4 ?_
   refine d3 (λK8 hK8=>?_)
   refine b8 (a7 Z ?_)
   first | refine b5 Z Z (A6 G Z Z Z Z J (a14 J) Z) ?_ | refine b5 Z Z (A6 G Z Z Z Z J (V5 J J) Z) ?_ | refine b5 Z Z (A6 G Z Z Z Z J (x9 J J) Z) ?_
   refine a7 Z (b5 Z Z (L9 G Z Z Z Z) (a7 Z (d6 G 9 Z Z Z Z Z (a7 Z (a6o 26 Z (λ_=>Z) λv26=>m3 G Z Z Z Z Z Z Z Z Z Z Z (b6 (hK8 _ ?_)))))))
   clear hK8 K8
   refine d3 (λK9 hK9=>?_)
   refine b8 (a7 Z (b5 Z Z (m9 G Z Z Z Z) (a7 Z (b5 Z Z (o7 G Z Z Z Z Z Z Z) (a7 Z (b5 Z Z (m9 G Z Z Z Z) (a7 Z (b5 Z Z (o7 G Z Z Z Z Z Z Z) (a7 Z (t7 G 10 Z Z Z Z Z Z Z Z (a7 Z ?_)))))))))))
   refine Z2 (Gh.forget (id:=7) (k:=3) Z Z)<|Z2 (Gh.keep [1,2,3,4,5,6,7,8,9] Z)<|j3 G np rfl rfl rfl rfl rfl rfl rfl rfl rfl (by first | (simp only [List.length_map,List.length_cons,List.length_nil];omega) | (simp;omega)) rfl rfl ?_
   refine a7 Z (b5 Z Z (m9 G Z Z Z Z) (a7 Z (m3 G Z Z Z Z Z Z Z Z Z Z Z (b6 (hK9 _ ?_)))))
   clear hK9 K9
   refine d3 (λK10 hK10=>?_)
   apply x7 [2,3,5,21,22,23] [1,2,3,4,5,7,8,12] 13 9 [1,2,3,4,5,8,9] mixed Y Z Z hK10
   ·intro r0
    refine d5 0 Z Y Y Z Z Z Z (m9 G Z Z Z Z) (d5 2 Z Y Y Z Z Z Z (m9 G Z Z Z Z) (d5 3 Z Y Y Z Z Z Z (a5S (o7 G Z Z Z Z Z Z Z)) ?_))
    refine b7 (rs:=[1,4]) Y Z (AllB.cons ?_ (AllB.cons ?_ AllB.nil))
    ·refine f9 [1,2,3,4,5,8,9] Z Z (b5 Z Z (o7 G Z Z Z Z Z Z Z) (b6 ⟨Z,?_⟩))
     refine b7 (rs:=[4]) Y Z (AllB.cons ?_ AllB.nil)
     refine f9 [1,2,3,4,5,8,9] Z Z (c8 11 Z Z Z (ArgsOK.of Z) (z7 _ J) Z Z (b6 ⟨Z,?_⟩))
     exact c38
    ·refine f9 [1,2,3,4,5,8,9] Z Z (c8 11 Z Z Z (ArgsOK.of Z) (z7 _ J) Z Z (b6 ⟨Z,?_⟩))
     refine b7 (rs:=[1,5]) Y Z (AllB.cons ?_ (AllB.cons ?_ AllB.nil))
     ·refine f9 [1,2,3,4,5,8,9] Z Z (b5 Z Z (o7 G Z Z Z Z Z Z Z) (b6 ⟨Z,?_⟩))
      exact c38
     ·refine f9 [1,2,3,4,5,8,9] Z Z (A8 G 12 Z Z Z Z Z Z Z Z (.own Z .nil) Z Z Z Z (b6 ⟨Z,?_⟩))
      refine b7 (rs:=[1]) Y Z (AllB.cons ?_ AllB.nil)
      refine f9 [1,2,3,4,5,8,9] Z Z (b5 Z Z (o7 G Z Z Z Z Z Z Z) (b6 ⟨Z,?_⟩))
      exact c3y
   ·clear hK10 K10
    refine d3 (λK11 hK11=>?_)
    refine b8 (a7 Z (b5 Z Z (m9 G Z Z Z Z) (a7 Z (b5 Z Z (d9 G Z Z Z Z Z Z) (a7 Z (c8 14 Z Z Z (ArgsOK.of Z) (N5 (m.cp.getD k default).qu hI.qu) Z Z (a7 Z ?_)))))))
    first | refine b5 Z Z (T5 G Z Z Z Z (List.length_map _)) ?_ | refine b5 Z Z (a1j G Z Z Z Z) ?_
    refine a7 Z (b5 Z Z (c7 Z Z) (b6 (hK11 _ ?_)))
    clear hK11 K11
    refine r4 ?_
    refine e6 [2,3,21,22,23,44,45] [1,2,3,5,7,12,13] (λ(i:Nat)=>[(46,.v (.int .i64 (i:Int)))]) (λ(i:Nat)=>[(4,some (.row 4 1 ((b3P (poN m k) (A5 (m.cp.getD k default).qu) i).map j4)))]) (λ(i:Nat)=>i<=(A5 (m.cp.getD k default).qu).length) (λ(i:Nat)=>(A5 (m.cp.getD k default).qu).length - i) 0 Z Z ?_ ?_ ?_ ?_
    ·exact B2
    ·exact a8g
    ·exact a0J
    ·intro i hi
     have hbp:=λh=>b2p hI.qu (i:=i) h
     have hpo:=@E4 (poN m k) (A5 (m.cp.getD k default).qu) i
     have hp8:=@F9 m k
     simp only [List.cons_append,List.nil_append]
     refine d3 (λK12 hK12=>?_)
     refine b8 (a7 Z (b5 Z Z (B3 Z Z Z Z) (b6 (hK12 _ ?_))))
     clear hK12 K12
     refine d3 (λK13 hK13=>?_)
     refine j9 Z (λh2=>?_) (λh2=>?_)
     ·try rw [h2]
      try simp only [rfb] at h2
      have hbq:=hbp J
      refine s4 (hK13 _ ?_)
      clear hK13 K13
      refine d3 (λK14 hK14=>?_)
      refine r4 ?_
      refine d3 (λK15 hK15=>?_)
      refine b8 (a7 Z ?_)
      first | refine b5 Z Z (b9 G Z Z Z Z Z J (by rw [List.length_map];omega)) ?_ | refine b5 Z Z (b9 G Z Z Z Z Z J (by rw [List.length_map,E4,F9];omega)) ?_ | refine b5 Z Z (b9 G Z Z Z Z Z J (by simp;omega)) ?_ | refine b5 Z Z (b9 G Z Z Z Z Z J J) ?_
      refine a7 Z ?_
      first | refine b5 Z Z (j2 G Z Z Z Z Z (a14 J) Z) ?_ | refine b5 Z Z (j2 G Z Z Z Z Z (x9 J (by rw [E4,F9];omega)) Z) ?_ | refine b5 Z Z (j2 G Z Z Z Z Z (x9 J J) Z) ?_
      refine a7 Z (b5 Z Z (c6 Z Z) (b6 (hK15 _ ?_)))
      clear hK15 K15
      refine b8 (a7 Z (b5 Z Z (m9 G Z Z Z Z) (a7 Z (b5 Z Z (o7 G Z Z Z Z Z Z Z) (a7 Z (b5 Z Z (c7 Z Z) (a7 Z ?_)))))))
      first | refine b5 Z Z (b9 G Z Z Z Z Z J (by rw [List.length_map];omega)) ?_ | refine b5 Z Z (b9 G Z Z Z Z Z J (by rw [List.length_map,E4,F9];omega)) ?_ | refine b5 Z Z (b9 G Z Z Z Z Z J (by simp;omega)) ?_ | refine b5 Z Z (b9 G Z Z Z Z Z J J) ?_
      refine a7 Z ?_
      first | refine l2 G Z Z Z Z Z (a14 J) Z Z Z Z Z (Nat.le_of_ble_eq_true Z) Z ?_ | refine l2 G Z Z Z Z Z (x9 J (by rw [E4,F9];omega)) Z Z Z Z Z (Nat.le_of_ble_eq_true Z) Z ?_ | refine l2 G Z Z Z Z Z (x9 J J) Z Z Z Z Z (Nat.le_of_ble_eq_true Z) Z ?_
      refine b6 (hK14 _ ?_)
      clear hK14 K14
      refine b8 (a7 Z ?_)
      first | refine b5 Z Z (v7 Z Z Z Z J J) ?_ | refine b5 Z Z (A2 Z Z Z Z) ?_
      refine a7 Z (b5 Z Z (c7 Z Z) ?_)
      refine b6 ⟨(i+1),?_,?_,⟨⟨_,Z,by rfl⟩,Z,trivial⟩,⟨⟨_,Z,by (first | rfl | (exact congrArg (λz=>Row.row _ _ z) (a0X J)) | (exact congrArg (λz=>Row.nest _ _ z []) (a0Y J Z)) | (exact congrArg (λz=>Row.row _ _ z) (by rw [a0j,List.map_set];rfl)) | (obtain rfl:i=(A5 (m.cp.getD k default).qu).length:=J;rfl))⟩,Z,Z,trivial⟩,Z,Z,Z⟩
      ·omega
      ·omega
     ·try rw [h2]
      try simp only [rfb] at h2
      refine X9 (hK7 _ ?_)
      clear hK13 K13 hK7 K7
      refine b8 (a7 Z ?_)
      first | refine b5 Z Z (v7 Z Z Z Z J J) ?_ | refine b5 Z Z (A2 Z Z Z Z) ?_
      refine a7 Z (b5 Z Z (c7 Z Z) (a0s (Gh.sub 12 6 np Z Z Z) ?_))
      refine b6 ⟨(k+1),?_,?_,⟨⟨_,Z,by rfl⟩,Z,trivial⟩,⟨⟨_,Z,by (first | rfl | (exact congrArg (λz=>Row.row _ _ z) (a0X J)) | (exact congrArg (λz=>Row.nest _ _ z []) (a0Y J Z)) | (exact congrArg (λz=>Row.row _ _ z) (by rw [a0j,List.map_set];rfl)) | (obtain rfl:i=(A5 (m.cp.getD k default).qu).length:=J;rfl))⟩,Z,Z,⟨⟨_,Z,by (first | rfl | (exact congrArg (λz=>Row.row _ _ z) (a0X J)) | (exact congrArg (λz=>Row.nest _ _ z []) (a0Y J Z)) | (exact congrArg (λz=>Row.row _ _ z) (by rw [a0j,List.map_set];rfl)) | (obtain rfl:i=(A5 (m.cp.getD k default).qu).length:=J;rfl))⟩,Z,Z,⟨⟨_,Z,by (first | rfl | (exact congrArg (λz=>Row.row _ _ z) (a0X J)) | (exact congrArg (λz=>Row.nest _ _ z []) (a0Y J Z)) | (exact congrArg (λz=>Row.row _ _ z) (by rw [a0j,List.map_set];rfl)) | (obtain rfl:i=(A5 (m.cp.getD k default).qu).length:=J;rfl))⟩,Z,Z,trivial⟩⟩⟩,Z,Z,Z⟩
      ·omega
      ·omega
  ·try rw [h1]
   try simp only [rfb] at h1
   refine X9 (hK3 _ ?_)
   clear hK6 K6 hK3 K3
   refine d3 (λK16 hK16=>?_)
   refine b8 (a7 Z (b5 Z Z (d9 G Z Z Z Z Z Z) (a7 Z (m3 G Z Z Z Z Z Z Z Z Z Z Z (b6 (hK16 _ ?_))))))
   clear hK16 K16
   refine f6 (m8 Z Z Z Z (b4 (d7 Z ?_) (b4 (d7 Z ?_) (b4 (d7 Z ?_) (b4 (d7 Z ?_) (b4 (C7 Z ?_) f8))))))
   all_goals (first | rfl | (obtain rfl:k=m.cp.length:=J;first | rfl | (rw [b3Q (Nat.le_refl _)];rfl)) | simp)
theorem b2S (m:Mach) (w:ByteArray) (l:List Int) (hs:SmallM m) (hM:a0w m=true) (hl:a1e (l5 w)=l.length) (hk:(X3 (l5 w) l).2=false):Ctr Tryz.prog 73 [.agg [.lst 2 (m.rs.map m4),.lst 1 (m.en.map j4),.lst 1 (m.ra.map j4),.nst none 4 (m.cp.map (l8 169 182))],.v (.string w),.lst 1 (l.map Rf.n7)] (.many [.v (.string (a41 m (l5 w) l).1),.v (.bool (a41 m (l5 w) l).2)]):=by
 have hG:=(maF hM).g
 have hra:=hG.ra
 have hcp:=hs.cp
 have hrl:=@a6s (λi=>m.ra.getD i default) 8
 have hkn:=c5q hk
 refine Ctr.of (n:=69) G Tryz.func73 Z a8 Z Z Z (λw0=>?_)
 refine j5 0 Z (λ_=>Z) (λu0=>?_)
 refine vm3 ?_
 refine J7 ?_
 refine zcd (λh1=>?_) (λh1=>?_)
 ·have k1:=b1u.mp h1
  have hO:=b84 (m:=m) (l:=l) k1
  refine p8 ?_
  refine b5 Z Z (a9d Z Z) ?_
  refine vm5 ?_
  refine c8 2 Z Z Z (ArgsOK.of Z) (a7r 112 m (λi=>m.ra.getD i default) (λi hi=>a99 (i:Int) m J)) Z Z ?_
  refine zcl (Y7 (raN m) (by unfold raN;omega) (b81 J)) ?_
  exact b2M
 have k1:=mt b1u.mpr h1
 refine J7 ?_
 refine zcd (λh2=>?_) (λh2=>?_)
 ·have k2:=b1v.mp h2
  refine zcl (b0K m hs hM) ?_
  refine zcd (λh3=>?_) (λh3=>?_)
  ·have hO:=b5T (l:=l) k2 h3
   exact b2M
  have hO:=b5U (l:=l) k2 h3
  exact b2M
 have k2:=mt b1v.mpr h2
 have hA:=b85 (m:=m) (l:=l) k1 k2
 have hl1:l.length=1:=c09 hl k1 k2 hkn
 refine zgd ?_
 refine zcl (D6 m (l.getD ((0:Int)).toNat default) hcp) ?_
 refine zcd (λh4=>?_) (λh4=>?_)
 ·have hO:=hA.trans (b5V h4)
  exact b2M
 have hin:=s2.mp h4
 have hcl:(l.getD ((0:Int)).toNat default).toNat < m.cp.length:=J
 have hI:=(hG.ok _ hcl).f
 have hsn:=hI.sn
 have hpl:=a1L hI.qu
 have hnx:=@a9B m.rs (S4 m) (l.getD ((0:Int)).toNat default).toNat
 have cN:=a7t m.rs (S4 m) (l.getD ((0:Int)).toNat default).toNat (b8V hG) (by rw [b5Y];exact hcl)
 rw [Int.toNat_of_nonneg J] at cN
 refine zgn ?_
 refine n9 (l3 9 [0] mixed a8 Z Z (λr0=>?_) (λ_ h=>h))
 refine a0A ?_
 refine b0z ?_
 refine b7 (rs:=[7]) a8 Z (AllB.cons ?_ AllB.nil)
 refine g9 [0] Z Z (d6 G 2 Z Z Z Z Z (b6 ⟨Z,?_⟩))
 refine b7 (rs:=[8]) a8 Z (AllB.cons ?_ AllB.nil)
 refine g9 [0] Z Z (a6o 38 Z (λ_=>Z) λv38=>m3 G Z Z Z Z Z Z Z Z Z Z Z (b6 ⟨Z,?_⟩))
 refine J1 ?_
 refine J7 ?_
 refine zcd (λh5=>?_) (λh5=>?_)
 ·have hO:=hA.trans (b5W h4 (b1B.mp h5))
  refine p8 ?_
  refine c8 3 Z Z Z (ArgsOK.of Z) (N5 (m.cp.getD (l.getD ((0:Int)).toNat default).toNat default).qu hI.qu) Z Z ?_
  refine zcl (Y7 (A5 (m.cp.getD (l.getD ((0:Int)).toNat default).toNat default).qu) J (b86 hI.qu)) ?_
  exact b2M
 have k5:=mt b1B.mpr h5
 refine J7 ?_
 refine zcd (λh6=>?_) (λh6=>?_)
 ·have hO:=hA.trans (b5X h4 (b1C.mp h6))
  refine zcl (Y7 (m.cp.getD (l.getD ((0:Int)).toNat default).toNat default).st J (b87 hI)) ?_
  exact b2M
 have k6:=mt b1C.mpr h6
 refine J7 ?_
 refine zcd (λh7=>?_) (λh7=>?_)
 ·have hO:=hA.trans (b3Z h4 (a7d.mp h7))
  refine zcl (a7s (m.cp.getD (l.getD ((0:Int)).toNat default).toNat default).qu.sl hI.qu.sl) ?_
  exact b2M
 have k7:=mt a7d.mpr h7
 have k8:l5 w=10:=c1a hl k1 k2 hkn k5 k6 k7
 refine zgn ?_
 refine n9 (n9 (l3 9 [0,1] mixed a8 Z Z (λr0=>?_) (λ_ h=>h)))
 refine zsa 0 ?_
 refine zsa 1 ?_
 refine zsa 2 ?_
 refine b0z ?_
 refine b7 (rs:=[3]) a8 Z (AllB.cons ?_ AllB.nil)
 refine g9 [0,1] Z Z (c8 7 Z Z Z (ArgsOK.of Z) (a4k m hG hs) Z Z (b6 ⟨Z,?_⟩))
 refine b7 (rs:=[7]) a8 Z (AllB.cons ?_ AllB.nil)
 refine g9 [0,1] Z Z (b5 Z Z (f7 Z (ArgsOK.of Z) cN Z) (b6 ⟨Z,?_⟩))
 refine zsa 8 ?_
 refine J1 ?_
 refine zcd (λh8=>?_) (λh8=>?_)
 ·have hO:=hA.trans (b1G h4 k8 h8)
  refine zcl (x8 (A9 m.rs (S4 m) (l.getD ((0:Int)).toNat default).toNat) J J) ?_
  exact b2M
 have hO:=hA.trans (b1F h4 k8 h8)
 exact b2M
theorem a4z (x:Ifc) (hn:x.st.length<=1048576) (hl:x.qu.sl.length<=1048576) (hw:x.qu.wa.length<=1048576):Ctr Tryz.prog 91 [.agg [.v (.int .i64 x.ma),.lst 1 (x.st.map Rf.n7),.lst 3 (x.qu.sl.map e9),.lst 2 (x.qu.wa.map e7)]] (.shp true [some 4] [.v (.int .i64 x.ma),.fr 3 1 (x.st.map Rf.n7),.fr 169 3 (x.qu.sl.map e9),.fr 182 2 (x.qu.wa.map e7)]):=by
 refine Ctr.of (n:=12) G Tryz.func91 Z a8 Z Z Z (λw0=>?_)
 refine j5 0 Z (λ_=>Z) (λu0=>?_)
 refine N3 ?_
 refine zgn ?_
 refine n9 (l3 10 [0] mixed a8 Z Z (λr0=>?_) (λ_ h=>h))
 refine a0A ?_
 refine zsa 5 ?_
 refine zsa 6 ?_
 refine b7 (rs:=[4]) a8 Z (AllB.cons ?_ AllB.nil)
 refine g9 [0] Z Z (c8 3 Z Z Z (ArgsOK.of Z) (E3 x.st hn) Z Z (b6 ⟨Z,?_⟩))
 refine b7 (rs:=[7]) a8 Z (AllB.cons ?_ AllB.nil)
 refine g9 [0] Z Z (c8 5 Z Z Z (ArgsOK.of Z) (a6A x.qu hl hw) Z Z (b6 ⟨Z,?_⟩))
 exact c3J
theorem a1h (m:Mach) (hM:MaG m):Ctr Tryz.prog 53 [.agg [.lst 2 (m.rs.map m4),.lst 1 (m.en.map j4),.lst 1 (m.ra.map j4),.nst none 4 (m.cp.map (l8 169 182))]] (.shp true [some 4] [.fr 83 2 (m.rs.map m4),.fr 4 1 (m.en.map j4),.fr 4 1 (m.ra.map j4),.ne 135 4 (m.cp.map (l8 169 182))]):=by
 have f1:=hM.n
 have f2:=hM.en
 have f3:=hM.ra
 have f4:=hM.rn
 refine Ctr.of (n:=38) G Tryz.func53 Z a8 Z Z Z (λw0=>?_)
 refine j5 0 Z (λ_=>Z) (λu0=>?_)
 refine N3 ?_
 refine zgn ?_
 refine n9 (l3 16 [0,1] mixed a8 Z Z (λr0=>?_) (λ_ h=>h))
 refine zsa 1 ?_
 refine zsa 2 ?_
 refine zsa 5 ?_
 refine zsa 6 ?_
 refine zsa 9 ?_
 refine zsa 10 ?_
 refine x5 (N:=7) Z (r7 (fuel:=5) [⟨0,5,2,false,.row 83 2 []⟩,⟨4,9,3,false,.row 4 1 []⟩,⟨8,13,4,false,.row 4 1 []⟩,⟨12,17,5,false,.row 135 4 []⟩,⟨14,3,6,true,.box (avR [.slice none 0 0,.slice none 0 0,.slice none 0 0,.slice none 0 0] [])⟩] (AllVOK.cons (VOK.lit G Z Z Z Z Z) (AllVOK.cons (VOK.lit G Z Z Z Z Z) (AllVOK.cons (VOK.lit G Z Z Z Z Z) (AllVOK.cons (VOK.lit G Z Z Z Z Z) (AllVOK.cons (VOK.boxS G Z Z Z Z Z) (AllVOK.nil)))))) (λhok=>?_))
 refine m6 [(3,[0])] a8 a8 (λe he=>hok e he) a8 (AllVS.cons ?_ AllVS.nil)
 refine VStep.mk1 [0,1] 5 (.own 2) 2 (.row 83 2 []) [⟨4,9,3,false,.row 4 1 []⟩,⟨8,13,4,false,.row 4 1 []⟩,⟨12,17,5,false,.row 135 4 []⟩,⟨14,3,6,true,.box (avR [.slice none 0 0,.slice none 0 0,.slice none 0 0,.slice none 0 0] [])⟩] Z Z Z Z Z (λb1 _ hbn=>j3 G O9 Z Z Z Z Z Z Z Z Z R4 Z Z (b6 Z)) a8 a8 a8 a8 (m6 [(7,[4])] a8 a8 (λe he=>hok e (vin (is:=[0]) Z he)) a8 (AllVS.cons ?_ AllVS.nil))
 refine VStep.mk1 [0,1] 9 (.own 3) 3 (.row 4 1 []) [⟨8,13,4,false,.row 4 1 []⟩,⟨12,17,5,false,.row 135 4 []⟩,⟨14,3,6,true,.box (avR [.slice none 0 0,.slice none 0 0,.slice none 0 0,.slice none 0 0] [])⟩] Z Z Z Z Z (λb1 _ hbn=>j3 G O9 Z Z Z Z Z Z Z Z Z R4 Z Z (b6 Z)) a8 a8 a8 a8 (m6 [(11,[8])] a8 a8 (λe he=>hok e (vin (is:=[0,4]) Z he)) a8 (AllVS.cons ?_ AllVS.nil))
 refine VStep.mk1 [0,1] 13 (.own 4) 4 (.row 4 1 []) [⟨12,17,5,false,.row 135 4 []⟩,⟨14,3,6,true,.box (avR [.slice none 0 0,.slice none 0 0,.slice none 0 0,.slice none 0 0] [])⟩] Z Z Z Z Z (λb1 _ hbn=>j3 G O9 Z Z Z Z Z Z Z Z Z R4 Z Z (b6 Z)) a8 a8 a8 a8 (m6 [(13,[12])] a8 a8 (λe he=>hok e (vin (is:=[0,4,8]) Z he)) a8 (AllVS.cons ?_ AllVS.nil))
 refine VStep.mk1 [0,1] 17 (.own 5) 5 (.row 135 4 []) [⟨14,3,6,true,.box (avR [.slice none 0 0,.slice none 0 0,.slice none 0 0,.slice none 0 0] [])⟩] Z Z Z Z Z (λb1 _ hbn=>b5 Z Z (w6 G Z Z Z Z) (b6 Z)) a8 a8 a8 a8 (m6 [(15,[14])] a8 a8 (λe he=>hok e (vin (is:=[0,4,8,12]) Z he)) a8 (AllVS.cons ?_ AllVS.nil))
 refine c5P ?_
 clear hok
 refine c5Z ?_
 refine e6 [1,2,3] [0,1,2,3,4,6] (λ(k:Nat)=>[(4,.v (.int .i64 (k:Int)))]) (λ(k:Nat)=>[(5,some (.nest 135 4 ((m.cp.take k).map (l8 169 182)) []))]) (λ(k:Nat)=>k<=m.cp.length) (λ(k:Nat)=>m.cp.length - k) 0 Z Z ?_ ?_ ?_ ?_
 ·exact B2
 ·exact a8g
 ·exact a0J
 intro k hk
 have hkl:((m.cp.take k).map (l8 169 182)).length=k:=b9u
 refine vm4 ?_
 refine zcd (λh1=>?_) (λh1=>?_)
 ·obtain ⟨g1,g2,g3⟩:=hM.lens (k:=k) J
  exact c7Q
 obtain rfl:k=m.cp.length:=J
 refine zgo ?_
 refine f6 (m8 Z Z Z Z (b4 (d7 Z ?_) (b4 (d7 Z ?_) (b4 (d7 Z ?_) (b4 (C7 Z ?_) f8)))))
 all_goals exact b9q
theorem a6D (m:Mach) (hM:MaG m):Ctr Tryz.prog 66 [.agg [.lst 2 (m.rs.map m4),.lst 1 (m.en.map j4),.lst 1 (m.ra.map j4),.nst none 4 (m.cp.map (l8 169 182))]] (.shp true [some 4] [.fr 83 2 (m.rs.map m4),.fr 4 1 (m.en.map j4),.fr 4 1 (m.ra.map j4),.ne 135 4 (m.cp.map (l8 169 182))]):=by
 have f1:=hM.n
 have f2:=hM.en
 have f3:=hM.ra
 have f4:=hM.rn
 refine Ctr.of (n:=36) G Tryz.func66 Z Y Z Z Z (λw0=>?_)
 refine j5 0 Z (λ_=>Z) (λu0=>?_)
 refine d3 (λK1 hK1=>?_)
 refine b8 (a7 Z (A3 1 Z Z Z Z Z Z Z (a7 Z (d6 G 2 Z Z Z Z Z (b6 (hK1 _ ?_))))))
 clear hK1 K1
 refine d3 (λK2 hK2=>?_)
 refine l3 16 [0,1] mixed Y Z Z (λr0=>?_) (λ_ h=>h)
 refine d5 1 Z Y Y Z Z Z Z (m9 G Z Z Z Z) (d5 2 Z Y Y Z Z Z Z (a5S (o7 G Z Z Z Z Z Z Z)) (d5 5 Z Y Y Z Z Z Z (m9 G Z Z Z Z) (d5 6 Z Y Y Z Z Z Z (a5S (o7 G Z Z Z Z Z Z Z)) (d5 9 Z Y Y Z Z Z Z (m9 G Z Z Z Z) (d5 10 Z Y Y Z Z Z Z (a5S (o7 G Z Z Z Z Z Z Z)) ?_)))))
 refine x5 (N:=7) Z (r7 (fuel:=5) [⟨0,6,2,false,.row 83 2 []⟩,⟨4,10,3,false,.row 4 1 []⟩,⟨8,14,4,false,.row 4 1 []⟩,⟨12,18,5,false,.row 135 4 []⟩,⟨14,3,6,true,.box (avR [.slice none 0 0,.slice none 0 0,.slice none 0 0,.slice none 0 0] [])⟩] (AllVOK.cons (VOK.lit G Z Z Z Z Z) (AllVOK.cons (VOK.lit G Z Z Z Z Z) (AllVOK.cons (VOK.lit G Z Z Z Z Z) (AllVOK.cons (VOK.lit G Z Z Z Z Z) (AllVOK.cons (VOK.boxS G Z Z Z Z Z) (AllVOK.nil)))))) (λhok=>?_))
 refine m6 [(3,[0])] Y Y (λe he=>hok e he) Y (AllVS.cons ?_ AllVS.nil)
 refine VStep.mk1 [0,1] 6 (.own 2) 2 (.row 83 2 []) [⟨4,10,3,false,.row 4 1 []⟩,⟨8,14,4,false,.row 4 1 []⟩,⟨12,18,5,false,.row 135 4 []⟩,⟨14,3,6,true,.box (avR [.slice none 0 0,.slice none 0 0,.slice none 0 0,.slice none 0 0] [])⟩] Z Z Z Z Z (λb1 _ hbn=>j3 G (by rw [hbn];exact Nat.le_of_ble_eq_true Z) Z Z Z Z Z Z Z Z Z (by first | (simp only [List.length_map,List.length_cons,List.length_nil];omega) | (simp;omega)) Z Z (b6 Z)) Y Y Y Y ?_
 refine m6 [(7,[4])] Y Y (λe he=>hok e (vin (is:=[0]) Z he)) Y (AllVS.cons ?_ AllVS.nil)
 refine VStep.mk1 [0,1] 10 (.own 3) 3 (.row 4 1 []) [⟨8,14,4,false,.row 4 1 []⟩,⟨12,18,5,false,.row 135 4 []⟩,⟨14,3,6,true,.box (avR [.slice none 0 0,.slice none 0 0,.slice none 0 0,.slice none 0 0] [])⟩] Z Z Z Z Z (λb1 _ hbn=>j3 G (by rw [hbn];exact Nat.le_of_ble_eq_true Z) Z Z Z Z Z Z Z Z Z (by first | (simp only [List.length_map,List.length_cons,List.length_nil];omega) | (simp;omega)) Z Z (b6 Z)) Y Y Y Y ?_
 refine m6 [(11,[8])] Y Y (λe he=>hok e (vin (is:=[0,4]) Z he)) Y (AllVS.cons ?_ AllVS.nil)
 refine VStep.mk1 [0,1] 14 (.own 4) 4 (.row 4 1 []) [⟨12,18,5,false,.row 135 4 []⟩,⟨14,3,6,true,.box (avR [.slice none 0 0,.slice none 0 0,.slice none 0 0,.slice none 0 0] [])⟩] Z Z Z Z Z (λb1 _ hbn=>j3 G (by rw [hbn];exact Nat.le_of_ble_eq_true Z) Z Z Z Z Z Z Z Z Z (by first | (simp only [List.length_map,List.length_cons,List.length_nil];omega) | (simp;omega)) Z Z (b6 Z)) Y Y Y Y ?_
 refine m6 [(13,[12])] Y Y (λe he=>hok e (vin (is:=[0,4,8]) Z he)) Y (AllVS.cons ?_ AllVS.nil)
 refine VStep.mk1 [0,1] 18 (.own 5) 5 (.row 135 4 []) [⟨14,3,6,true,.box (avR [.slice none 0 0,.slice none 0 0,.slice none 0 0,.slice none 0 0] [])⟩] Z Z Z Z Z (λb1 _ hbn=>b5 Z Z (w6 G Z Z Z Z) (b6 Z)) Y Y Y Y ?_
 refine m6 [(15,[14])] Y Y (λe he=>hok e (vin (is:=[0,4,8,12]) Z he)) Y (AllVS.cons ?_ AllVS.nil)
 refine VStep.mk1 [0,1] 3 (.ptr 6 0) 6 (.box (avR [.slice none 0 0,.slice none 0 0,.slice none 0 0,.slice none 0 0] [])) [] Z Z Z Z Z (λb1 _ hbn=>m3 G Z Z Z Z Z Z Z Z Z Z Z (b6 Z)) Y Y Y Y (D1 ?_)
 clear hok
 refine a3c (Gh.nest (id:=5) (yss:=[]) Z Z (by intro _ _ _ h;simp at h)) (C3 Y (hK2 _ ?_))
 clear hK2 K2
 refine d3 (λK3 hK3=>?_)
 refine d3 (λK4 hK4=>?_)
 refine b8 (a7 Z (b5 Z Z (m9 G Z Z Z Z) (a7 Z (b5 Z Z (b7I (o7 G Z Z Z Z Z Z Z)) (a7 Z ?_)))))
 first | refine b5 Z Z (T5 G Z Z Z Z (List.length_map _)) ?_ | refine b5 Z Z (a1j G Z Z Z Z) ?_
 refine a7 Z (b5 Z Z (c7 Z Z) (b6 (hK4 _ ?_)))
 clear hK4 K4
 refine r4 ?_
 refine e6 [2,3,21,22] [1,2,3,4,6] (λ(k:Nat)=>[(23,.v (.int .i64 (k:Int)))]) (λ(k:Nat)=>[(5,some (.nest 135 4 ((m.cp.take k).map (l8 169 182)) []))]) (λ(k:Nat)=>k<=m.cp.length) (λ(k:Nat)=>m.cp.length - k) 0 Z Z ?_ ?_ ?_ ?_
 ·exact B2
 ·exact a8g
 ·exact a0J
 ·intro k hk
  have hkl:((m.cp.take k).map (l8 169 182)).length=k:=(by rw [List.length_map,List.length_take];omega)
  simp only [List.cons_append,List.nil_append]
  refine d3 (λK5 hK5=>?_)
  refine b8 (a7 Z (b5 Z Z (B3 Z Z Z Z) (b6 (hK5 _ ?_))))
  clear hK5 K5
  refine d3 (λK6 hK6=>?_)
  refine j9 Z (λh1=>?_) (λh1=>?_)
  ·try rw [h1]
   try simp only [rfb] at h1
   obtain ⟨g1,g2,g3⟩:=hM.lens (k:=k) J
   refine s4 (hK6 _ ?_)
   clear hK6 K6
   refine d3 (λK7 hK7=>?_)
   refine r4 ?_
   refine d3 (λK8 hK8=>?_)
   refine b8 (a7 Z ?_)
   first | refine b5 Z Z (A6 G Z Z Z Z J (a14 J) Z) ?_ | refine b5 Z Z (A6 G Z Z Z Z J (V5 J J) Z) ?_ | refine b5 Z Z (A6 G Z Z Z Z J (x9 J J) Z) ?_
   refine a7 Z (b5 Z Z (L9 G Z Z Z Z) (a7 Z (d6 G 8 Z Z Z Z Z (a7 Z (a6o 26 Z (λ_=>Z) λv26=>m3 G Z Z Z Z Z Z Z Z Z Z Z (b6 (hK8 _ ?_)))))))
   clear hK8 K8
   apply x7 [2,3,21,22,23] [1,2,3,4,6,12] 13 8 [1,2,3,4,7] mixed Y Z Z hK7
   ·intro r0
    refine d5 0 Z Y Y Z Z Z Z (m9 G Z Z Z Z) (d5 2 Z Y Y Z Z Z Z (d9 G Z Z Z Z Z Z) ?_)
    refine b7 (rs:=[1,3]) Y Z (AllB.cons ?_ (AllB.cons ?_ AllB.nil))
    ·refine f9 [1,2,3,4,7] Z Z (b5 Z Z (o7 G Z Z Z Z Z Z Z) (b6 ⟨Z,?_⟩))
     refine b7 (rs:=[3]) Y Z (AllB.cons ?_ AllB.nil)
     refine f9 [1,2,3,4,7] Z Z (c8 11 Z Z Z (ArgsOK.of Z) (A0 (m.cp.getD k default) J J J) Z Z (b6 ⟨Z,?_⟩))
     exact c34
    ·refine f9 [1,2,3,4,7] Z Z (c8 11 Z Z Z (ArgsOK.of Z) (A0 (m.cp.getD k default) J J J) Z Z (b6 ⟨Z,?_⟩))
     refine b7 (rs:=[1,4]) Y Z (AllB.cons ?_ (AllB.cons ?_ AllB.nil))
     ·refine f9 [1,2,3,4,7] Z Z (b5 Z Z (o7 G Z Z Z Z Z Z Z) (b6 ⟨Z,?_⟩))
      exact c34
     ·refine f9 [1,2,3,4,7] Z Z (A8 G 12 Z Z Z Z Z Z Z Z (.v Z (.own Z (.own Z (.own Z .nil)))) Z Z Z Z (b6 ⟨Z,?_⟩))
      refine b7 (rs:=[1]) Y Z (AllB.cons ?_ AllB.nil)
      refine f9 [1,2,3,4,7] Z Z (b5 Z Z (o7 G Z Z Z Z Z Z Z) (b6 ⟨Z,?_⟩))
      exact c3A
   ·clear hK7 K7
    refine b8 (a7 Z ?_)
    first | refine b5 Z Z (v7 Z Z Z Z J J) ?_ | refine b5 Z Z (A2 Z Z Z Z) ?_
    refine a7 Z (b5 Z Z (c7 Z Z) (a0s (Gh.sub 12 5 np Z Z Z) ?_))
    refine b6 ⟨(k+1),?_,?_,⟨⟨_,Z,by rfl⟩,Z,trivial⟩,⟨⟨_,Z,by (exact congrArg (λz=>Row.nest _ _ z []) (b1o J Z))⟩,Z,Z,trivial⟩,Z,Z,Z⟩
    ·omega
    ·omega
  ·try rw [h1]
   try simp only [rfb] at h1
   obtain rfl:k=m.cp.length:=J
   refine X9 (hK3 _ ?_)
   clear hK6 K6 hK3 K3
   refine d3 (λK9 hK9=>?_)
   refine b8 (a7 Z (b5 Z Z (d9 G Z Z Z Z Z Z) (a7 Z (m3 G Z Z Z Z Z Z Z Z Z Z Z (b6 (hK9 _ ?_))))))
   clear hK9 K9
   refine f6 (m8 Z Z Z Z (b4 (d7 Z ?_) (b4 (d7 Z ?_) (b4 (d7 Z ?_) (b4 (C7 Z ?_) f8)))))
   all_goals (first | rfl | (rw [List.take_length];done) | (rw [List.take_length];rfl) | simp)
theorem a6E (s:ByteArray) (k:Int) (hs:s.size<=1048576) (hk:0<=k) (hk2:k<=1000000):Ctr Tryz.prog 133 [.v (.string s),.v (.int .i64 k)] (.many [.v (b3d (rrE s k)),.v (.int .i64 (rrN s k)),.v (.bool (okL s k))]):=by
 have a1:=a0g (s:=s) (c:=10)
 have a2:=a0g (s:=l1 s 10) (c:=35)
 have a3:=a3a (s:=l1 (l1 s 10) 35) (c:=32)
 have a4:=a0g (s:=q9 (l1 (l1 s 10) 35) 32) (c:=64)
 have a5:=a3a (s:=q9 (l1 (l1 s 10) 35) 32) (c:=64)
 have hxs:(riE (l1 s 10)).c.size<=9223372036854775807/\(riE (l1 s 10)).r.size<=9223372036854775807:=(by have a6:=b7x (s:=l1 s 10);exact ⟨Nat.le_trans a6.1 J,Nat.le_trans a6.2 J⟩)
 refine Ctr.of (n:=71) G Tryz.func133 Z Y Z Z Z (λw0=>?_)
 refine d3 (λK1 hK1=>?_)
 refine b8 (a7 Z (d6 G 1 Z Z Z Z Z (a7 Z (b5 Z Z (c6 Z Z) (a7 Z (b5 Z Z (c6 Z Z) (b6 (hK1 _ ?_))))))))
 clear hK1 K1
 refine d3 (λK2 hK2=>?_)
 refine b8 (a7 Z (b5 Z Z (c7 Z Z) (a7 Z (b5 Z Z (f7 Z (ArgsOK.of Z) (V0 s 10 10 Z J) Z) (a7 Z (b5 Z Z (c7 Z Z) (a7 Z (b5 Z Z (j7 Z Z Z) (a7 Z (b5 Z Z (j7 Z Z Z) (a7 Z (b5 Z Z (j7 Z Z Z) (a7 Z (b5 Z Z (c6 Z Z) (a7 Z (b5 Z Z (c6 Z Z) (a7 Z (b5 Z Z (c6 Z Z) (b6 (hK2 _ ?_))))))))))))))))))))
 clear hK2 K2
 refine d3 (λK3 hK3=>?_)
 refine b8 (a7 Z (b5 Z Z (c7 Z Z) (a7 Z (b5 Z Z (f7 Z (ArgsOK.of Z) (V0 (l1 s 10) 35 35 Z J) Z) (a7 Z (b5 Z Z (c7 Z Z) (a7 Z (b5 Z Z (j7 Z Z Z) (a7 Z (b5 Z Z (j7 Z Z Z) (a7 Z (b5 Z Z (j7 Z Z Z) (a7 Z (b5 Z Z (c6 Z Z) (a7 Z (b5 Z Z (c6 Z Z) (a7 Z (b5 Z Z (c6 Z Z) (b6 (hK3 _ ?_))))))))))))))))))))
 clear hK3 K3
 refine d3 (λK4 hK4=>?_)
 refine b8 (a7 Z (b5 Z Z (c7 Z Z) (a7 Z (b5 Z Z (f7 Z (ArgsOK.of Z) (V0 (l1 (l1 s 10) 35) 32 32 Z J) Z) (a7 Z (b5 Z Z (c7 Z Z) (a7 Z (b5 Z Z (j7 Z Z Z) (a7 Z (b5 Z Z (j7 Z Z Z) (a7 Z (b5 Z Z (j7 Z Z Z) (a7 Z (b5 Z Z (c6 Z Z) (a7 Z (b5 Z Z (c6 Z Z) (a7 Z (b5 Z Z (c6 Z Z) (b6 (hK4 _ ?_))))))))))))))))))))
 clear hK4 K4
 refine d3 (λK5 hK5=>?_)
 refine b8 (a7 Z (b5 Z Z (c7 Z Z) (a7 Z (b5 Z Z (f7 Z (ArgsOK.of Z) (V0 (q9 (l1 (l1 s 10) 35) 32) 64 64 Z J) Z) (a7 Z (b5 Z Z (c7 Z Z) (a7 Z (b5 Z Z (j7 Z Z Z) (a7 Z (b5 Z Z (j7 Z Z Z) (a7 Z (b5 Z Z (j7 Z Z Z) (a7 Z (b5 Z Z (c6 Z Z) (a7 Z (b5 Z Z (c6 Z Z) (a7 Z (b5 Z Z (c6 Z Z) (b6 (hK5 _ ?_))))))))))))))))))))
 clear hK5 K5
 rw [← c6v,← c6w]
 refine d3 (λK6 hK6=>?_)
 refine b8 (a7 Z (b5 Z Z (c7 Z Z) (a7 Z (b5 Z Z (c7 Z Z) (a7 Z (b5 Z Z (w6 G Z Z Z Z) (a7 Z (d6 G 2 Z Z Z Z Z (a7 Z (m3 G Z Z Z Z Z Z Z Z Z Z Z (b6 (hK6 _ ?_))))))))))))
 clear hK6 K6
 refine d3 (λK7 hK7=>?_)
 refine d3 (λK8 hK8=>?_)
 refine b8 (a7 Z (b5 Z Z (c7 Z Z) (a7 Z (b5 Z Z (a2S Z Z) (a7 Z (b5 Z Z (c7 Z Z) (A1 Z Z Z (λh1=>?_) (λh1=>?_))))))))
 ·try rw [h1]
  try simp only [rfb] at h1
  have hO:=b5e (s:=s) (k:=k) (by rw [b3h hk,riK];simp [h1])
  refine l9 Z Z Z Z Z Z (l9 Z Z Z Z Z Z (a7 Z (b5 Z Z (z8 Z Z Z) (a7 Z (b5 Z Z (c7 Z Z) (l9 Z Z Z Z Z Z (l9 Z Z Z Z Z Z (l9 Z Z Z Z Z Z (a7 Z (b5 Z Z (z8 Z Z Z) (a7 Z (b5 Z Z (c7 Z Z) (l9 Z Z Z Z Z Z (l9 Z Z Z Z Z Z (l9 Z Z Z Z Z Z (l9 Z Z Z Z Z Z (l9 Z Z Z Z Z Z (l9 Z Z Z Z Z Z (a7 Z (b5 Z Z (z8 Z Z Z) (b6 (hK8 _ ?_))))))))))))))))))))))
  clear hK8 K8
  refine L8 Z ?_
  refine d3 (λK9 hK9=>?_)
  refine b8 (a7 Z (b5 Z Z (w6 G Z Z Z Z) (a7 Z (m3 G Z Z Z Z Z Z Z Z Z Z Z (a7 Z (b5 Z Z (c6 Z Z) (a7 Z (b5 Z Z (c6 Z Z) (b6 (hK9 _ ?_))))))))))
  clear hK9 K9
  exact c1C
 ·try rw [h1]
  try simp only [rfb] at h1
  refine p5 Z Z Z (b5 Z Z (c7 Z Z) (p5 Z Z Z (b5 Z Z (B3 Z Z Z Z) (a7 Z (b5 Z Z (x6 Z Z Z) (a7 Z (b5 Z Z (c7 Z Z) (A1 Z Z Z (λh2=>?_) (λh2=>?_)))))))))
  ·try rw [h2]
   try simp only [rfb] at h2
   have d2:decide (k < 60)=false:=decide_eq_false J
   have hO:=b5e (s:=s) (k:=k) (by rw [b3h hk,riK];simp [h1,d2])
   refine l9 Z Z Z Z Z Z (l9 Z Z Z Z Z Z (l9 Z Z Z Z Z Z (a7 Z (b5 Z Z (z8 Z Z Z) (a7 Z (b5 Z Z (c7 Z Z) (l9 Z Z Z Z Z Z (l9 Z Z Z Z Z Z (l9 Z Z Z Z Z Z (l9 Z Z Z Z Z Z (l9 Z Z Z Z Z Z (l9 Z Z Z Z Z Z (a7 Z (b5 Z Z (z8 Z Z Z) (b6 (hK8 _ ?_))))))))))))))))
   clear hK8 K8
   refine L8 Z ?_
   refine d3 (λK10 hK10=>?_)
   refine b8 (a7 Z (b5 Z Z (w6 G Z Z Z Z) (a7 Z (m3 G Z Z Z Z Z Z Z Z Z Z Z (a7 Z (b5 Z Z (c6 Z Z) (a7 Z (b5 Z Z (c6 Z Z) (b6 (hK10 _ ?_))))))))))
   clear hK10 K10
   exact c1C
  ·try rw [h2]
   try simp only [rfb] at h2
   have d2:decide (k < 60)=true:=decide_eq_true J
   refine p5 Z Z Z (b5 Z Z (d9 G Z Z Z Z Z Z) (p5 Z Z Z (b5 Z Z (f7 Z (ArgsOK.of Z) (I1 (riE (l1 s 10)) hxs) Z) ?_)))
   refine p5 Z Z Z (b5 Z Z (a2S Z Z) (a7 Z (b5 Z Z (x6 Z Z Z) (a7 Z (b5 Z Z (c7 Z Z) (A1 Z Z Z (λh3=>?_) (λh3=>?_)))))))
   ·try rw [h3]
    try simp only [rfb] at h3
    have hO:=b5e (s:=s) (k:=k) (by rw [b3h hk,riK];simp [h1,d2,h3])
    refine l9 Z Z Z Z Z Z (l9 Z Z Z Z Z Z (l9 Z Z Z Z Z Z (l9 Z Z Z Z Z Z (l9 Z Z Z Z Z Z (l9 Z Z Z Z Z Z (a7 Z (b5 Z Z (z8 Z Z Z) (b6 (hK8 _ ?_)))))))))
    clear hK8 K8
    refine L8 Z ?_
    refine d3 (λK11 hK11=>?_)
    refine b8 (a7 Z (b5 Z Z (w6 G Z Z Z Z) (a7 Z (m3 G Z Z Z Z Z Z Z Z Z Z Z (a7 Z (b5 Z Z (c6 Z Z) (a7 Z (b5 Z Z (c6 Z Z) (b6 (hK11 _ ?_))))))))))
    clear hK11 K11
    exact c1C
   ·try rw [h3]
    try simp only [rfb] at h3
    refine p5 Z Z Z (b5 Z Z (c7 Z Z) (p5 Z Z Z (b5 Z Z (d9 G Z Z Z Z Z Z) (p5 Z Z Z (b5 Z Z (f7 Z (ArgsOK.of Z) (Z4 k (riE (l1 s 10)) J J (by assumption)) Z) (p5 Z Z Z (b5 Z Z (c7 Z Z) (p5 Z Z Z (b5 Z Z (G5 Z Z Z (by (try simp only [ByteArray.size_append,r8,List.size_toArray,List.length_cons,List.length_nil]);omega)) (p5 Z Z Z (b5 Z Z (s8 Z Z Z Z) (a7 Z (b5 Z Z (x6 Z Z Z) (b6 (hK8 _ ?_)))))))))))))))
    clear hK8 K8
    refine j9 Z (λh4=>?_) (λh4=>?_)
    ·try rw [h4]
     try simp only [rfb] at h4
     have hO:=b5e (s:=s) (k:=k) (by rw [b3h hk,riK];simp [h1,d2,h3,h4])
     refine d3 (λK12 hK12=>?_)
     refine b8 (a7 Z (b5 Z Z (w6 G Z Z Z Z) (a7 Z (m3 G Z Z Z Z Z Z Z Z Z Z Z (a7 Z (b5 Z Z (c6 Z Z) (a7 Z (b5 Z Z (c6 Z Z) (b6 (hK12 _ ?_))))))))))
     clear hK12 K12
     exact c1C
    ·try rw [h4]
     try simp only [rfb] at h4
     have hO:=c6x (s:=s) (k:=k) hk (by rw [b3h hk,riK];simp [h1,d2,h3,h4])
     refine s4 (hK7 _ ?_)
     clear hK7 K7
     refine d3 (λK13 hK13=>?_)
     refine b8 (a7 Z (b5 Z Z (d9 G Z Z Z Z Z Z) (a7 Z (b5 Z Z (c7 Z Z) (a7 Z (b5 Z Z (o8 G Z Z Z) (a7 Z ?_)))))))
     first | refine b5 Z Z (v7 Z Z Z Z J J) ?_ | refine b5 Z Z (A2 Z Z Z Z) ?_
     refine a7 Z (m3 G Z Z Z Z Z Z Z Z Z Z Z (a7 Z (b5 Z Z (c6 Z Z) (a7 Z (b5 Z Z (c6 Z Z) (b6 (hK13 _ ?_)))))))
     clear hK13 K13
     refine f6 (r5 Z Z Z Z (b4 (a06 Z ?_) (b4 (l4 ?_) (b4 (l4 ?_) f8))))
     all_goals (first | (rw [hO.1];rfl) | (rw [hO.2.1];rfl) | (rw [hO.2.1];done) | (rw [hO.2.2];rfl) | (rw [hO.2.2];done))
theorem a3G (s:ByteArray) (hs:s.size<=1048576):Ctr Tryz.prog 87 [.v (.string s)] (.many [.fr 63 2 ((pre (a74 s) (w3 s)).map a7O),.v (.int .i64 (P0 s (w3 s)))]):=by
 refine Ctr.of (n:=52) G Tryz.func87 Z Y Z Z Z (λw0=>?_)
 refine d3 (λK1 hK1=>?_)
 refine b8 (a7 Z (b5 Z Z (c6 Z Z) (a7 Z (b5 Z Z (c6 Z Z) (b6 (hK1 _ ?_))))))
 clear hK1 K1
 refine d3 (λK2 hK2=>?_)
 refine b8 (a7 Z (t7 G 1 Z Z Z Z Z Z Z Z (a7 Z (b5 Z Z (c6 Z Z) (b6 (hK2 _ ?_))))))
 clear hK2 K2
 refine d3 (λK3 hK3=>?_)
 refine b8 (a7 Z (b5 Z Z (c6 Z Z) (b6 (hK3 _ ?_))))
 clear hK3 K3
 refine d3 (λK4 hK4=>?_)
 refine r4 ?_
 refine e6 [0] [] (λ(n:Nat)=>[(4,.own 0),(5,.v (.int .i64 (P0 s n)))]) (λ(n:Nat)=>[(0,some (.row 63 2 ((pre (a74 s) n).map a7O)))]) (λ(n:Nat)=>∀j,j < n→okN s j=true) (λ(n:Nat)=>60 - n) 0 Z Z ?_ ?_ ?_ ?_
 ·exact λj hj=>by omega
 ·exact R5
 ·exact a0J
 ·intro n hinv
  have hp:=b1Y hinv
  have hpi:P0 s n=(A4 s n:Int):=rfl
  obtain ⟨hs1,hs2⟩:=Q9 (s:=B9 s n) (b:=10)
  have hl1:=N1 (s:=B9 s n) (b:=10)
  have hre:(B9 s n).size<=s.size:=a61
  have hll:(I8 s n).size<=(B9 s n).size:=a0g
  have hln:(g8 (B9 s n) 10).getD ((0:Int)).toNat default=I8 s n:=hs1
  have hlz:((g8 (B9 s n) 10).getD ((0:Int)).toNat default).size<=(B9 s n).size:=(by rw [hln];omega)
  have hpl:((pre (a74 s) n).length:Int)=n:=(by simp [Q0])
  simp only [List.cons_append,List.nil_append]
  refine d3 (λK5 hK5=>?_)
  refine d3 (λK6 hK6=>?_)
  refine b8 (a7 Z (b5 Z Z (c7 Z Z) (a7 Z (b5 Z Z (c7 Z Z) (a7 Z (b5 Z Z (o8 G Z Z Z) (a7 Z (b5 Z Z (B3 Z Z Z Z) (a7 Z (b5 Z Z (c7 Z Z) (A1 Z Z Z (λh1=>?_) (λh1=>?_))))))))))))
  ·try rw [h1]
   try simp only [rfb] at h1
   refine p5 Z Z Z (b5 Z Z (c7 Z Z) (p5 Z Z Z ?_))
   first | refine b5 Z Z (T5 G Z Z Z Z (List.length_map _)) ?_ | refine b5 Z Z (a1j G Z Z Z Z) ?_
   refine p5 Z Z Z (b5 Z Z (B3 Z Z Z Z) (a7 Z (b5 Z Z (z8 Z Z Z) (b6 (hK6 _ ?_)))))
   clear hK6 K6
   refine j9 Z (λh2=>?_) (λh2=>?_)
   ·try rw [h2]
    try simp only [rfb] at h2
    refine s4 (hK5 _ ?_)
    clear hK5 K5
    refine r4 ?_
    refine d3 (λK7 hK7=>?_)
    refine b8 (a7 Z (b5 Z Z (c7 Z Z) (a7 Z (b5 Z Z (c7 Z Z) (a7 Z (b5 Z Z (I2 G Z Z Z Z Z J J J) (a7 Z (c8 2 Z Z Z (ArgsOK.of Z) (S2 _ 10 (Nat.le_trans a61 hs)) Z Z (a7 Z (b5 Z Z (c6 Z Z) (b6 (hK7 _ ?_))))))))))))
    clear hK7 K7
    rw [b3i]
    refine d3 (λK8 hK8=>?_)
    refine b8 (a7 Z (b5 Z Z (c7 Z Z) (a7 Z ?_)))
    first | refine b5 Z Z (b9 G Z Z Z Z Z J (by simp;omega)) ?_ | refine b5 Z Z (b9 G Z Z Z Z Z J J) ?_
    refine a7 Z (b5 Z Z (j2 G Z Z Z Z Z (x9 J (by simp;omega)) Z) (a7 Z (b5 Z Z (c7 Z Z) (a7 Z ?_))))
    first | refine b5 Z Z (T5 G Z Z Z Z (List.length_map _)) ?_ | refine b5 Z Z (a1j G Z Z Z Z) ?_
    refine a7 Z (b5 Z Z (f7 Z (ArgsOK.of Z) (b0b _ _ (by rw [hln];omega) J J) Z) (a7 Z (b5 Z Z (c7 Z Z) (a7 Z (b5 Z Z (j7 Z Z Z) (a7 Z (b5 Z Z (j7 Z Z Z) (a7 Z (d6 G 3 Z Z Z Z Z (a7 Z (m3 G Z Z Z Z Z Z Z Z Z Z Z (a7 Z (b5 Z Z (c6 Z Z) (b6 (hK8 _ ?_)))))))))))))))
    clear hK8 K8
    rw [hln,hpl]
    refine d3 (λK9 hK9=>?_)
    refine d3 (λK10 hK10=>?_)
    refine b8 (a7 Z (b5 Z Z (c7 Z Z) (a7 Z ?_)))
    first | refine b5 Z Z (T5 G Z Z Z Z (List.length_map _)) ?_ | refine b5 Z Z (a1j G Z Z Z Z) ?_
    refine a7 Z (b5 Z Z (B3 Z Z Z Z) (a7 Z (b5 Z Z (c7 Z Z) (A1 Z Z Z (λh3=>?_) (λh3=>?_)))))
    ·try rw [h3]
     try simp only [rfb] at h3
     have hN:=a2f hinv (c4k J)
     refine l9 Z Z Z Z Z Z (l9 Z Z Z Z Z Z (a7 Z (b5 Z Z (z8 Z Z Z) (b6 (hK10 _ ?_)))))
     clear hK10 K10
     refine L8 Z (X9 (hK4 _ ?_))
     clear hK9 K9 hK4 K4
     refine d3 (λK11 hK11=>?_)
     refine b8 (a7 Z (b5 Z Z (c7 Z Z) (a7 Z (b5 Z Z (c7 Z Z) (a7 Z (b5 Z Z (c6 Z Z) (a7 Z (b5 Z Z (c6 Z Z) (b6 (hK11 _ ?_))))))))))
     clear hK11 K11
     exact b57
    ·try rw [h3]
     try simp only [rfb] at h3
     refine p5 Z Z Z (b5 Z Z (c7 Z Z) (p5 Z Z Z (b5 Z Z (a2S Z Z) (a7 Z (b5 Z Z (x6 Z Z Z) (b6 (hK10 _ ?_)))))))
     clear hK10 K10
     refine j9 Z (λh4=>?_) (λh4=>?_)
     ·try rw [h4]
      try simp only [rfb] at h4
      have hN:=a2f hinv (c4l h4)
      refine X9 (hK4 _ ?_)
      clear hK9 K9 hK4 K4
      refine d3 (λK12 hK12=>?_)
      refine b8 (a7 Z (b5 Z Z (c7 Z Z) (a7 Z (b5 Z Z (c7 Z Z) (a7 Z (b5 Z Z (c6 Z Z) (a7 Z (b5 Z Z (c6 Z Z) (b6 (hK12 _ ?_))))))))))
      clear hK12 K12
      exact b57
     ·try rw [h4]
      try simp only [rfb] at h4
      have hok:=c6y (s:=s) (n:=n) J J h4
      refine s4 (hK9 _ ?_)
      clear hK9 K9
      refine d3 (λK13 hK13=>?_)
      refine b8 (a7 Z (b5 Z Z (c7 Z Z) (a7 Z (b5 Z Z (d9 G Z Z Z Z Z Z) (a7 Z (t7 G 4 Z Z Z Z Z Z Z Z (a7 Z (j3 G np Z Z Z Z Z Z Z Z Z (by simp [Q0];omega) Z Z (a7 Z (b5 Z Z (c6 Z Z) (b6 (hK13 _ ?_))))))))))))
      clear hK13 K13
      refine b8 (a7 Z (b5 Z Z (c7 Z Z) (a7 Z (b5 Z Z (c7 Z Z) (a7 Z ?_)))))
      first | refine b5 Z Z (b9 G Z Z Z Z Z J (by simp;omega)) ?_ | refine b5 Z Z (b9 G Z Z Z Z Z J J) ?_
      refine a7 Z (b5 Z Z (j2 G Z Z Z Z Z (x9 J (by simp;omega)) Z) (a7 Z (b5 Z Z (o8 G Z Z Z) (a7 Z ?_))))
      first | refine b5 Z Z (v7 Z Z Z Z J J) ?_ | refine b5 Z Z (A2 Z Z Z Z) ?_
      refine a7 Z ?_
      first | refine b5 Z Z (v7 Z Z Z Z J J) ?_ | refine b5 Z Z (A2 Z Z Z Z) ?_
      refine a7 Z (b5 Z Z (c6 Z Z) ?_)
      refine b6 ⟨(n+1),?_,?_,⟨⟨_,Z,by (first | exact (rfl:AV.own 0=AV.own 0) | (rw [hln,b06 (s:=s) (n:=n)];done))⟩,Z,⟨⟨_,Z,by (first | exact (rfl:AV.own 0=AV.own 0) | (rw [hln,b06 (s:=s) (n:=n)];done))⟩,Z,trivial⟩⟩,⟨⟨_,Z,by (exact congrArg (Row.row _ _) (a25 (g:=a74 s) (f:=a7O) (i:=n)))⟩,Z,Z,trivial⟩,Z,Z,Z⟩
      ·exact o9 hinv hok
      ·omega
   ·try rw [h2]
    try simp only [rfb] at h2
    have hN:=a2f hinv (c4j J)
    refine X9 (hK4 _ ?_)
    clear hK5 K5 hK4 K4
    refine d3 (λK14 hK14=>?_)
    refine b8 (a7 Z (b5 Z Z (c7 Z Z) (a7 Z (b5 Z Z (c7 Z Z) (a7 Z (b5 Z Z (c6 Z Z) (a7 Z (b5 Z Z (c6 Z Z) (b6 (hK14 _ ?_))))))))))
    clear hK14 K14
    exact b57
  ·try rw [h1]
   try simp only [rfb] at h1
   have hN:=a2f hinv (b7y J)
   refine l9 Z Z Z Z Z Z (l9 Z Z Z Z Z Z (l9 Z Z Z Z Z Z (a7 Z (b5 Z Z (x6 Z Z Z) (b6 (hK6 _ ?_))))))
   clear hK6 K6
   refine K0 Z (X9 (hK4 _ ?_))
   clear hK5 K5 hK4 K4
   refine d3 (λK15 hK15=>?_)
   refine b8 (a7 Z (b5 Z Z (c7 Z Z) (a7 Z (b5 Z Z (c7 Z Z) (a7 Z (b5 Z Z (c6 Z Z) (a7 Z (b5 Z Z (c6 Z Z) (b6 (hK15 _ ?_))))))))))
   clear hK15 K15
   exact b57
theorem a5d (s:ByteArray) (hs:s.size<=1048576):Ctr Tryz.prog 89 [.v (.string s)] (.many [.fr 63 2 ((pre (a74 s) (w3 s)).map a7O),.fr 3 1 ((pre (P0 s) (w3 s+1)).map Rf.n7)]):=by
 refine Ctr.of (n:=37) G Tryz.func89 Z Y Z Z Z (λw0=>?_)
 refine d3 (λK1 hK1=>?_)
 refine b8 (a7 Z (b5 Z Z (c6 Z Z) (a7 Z (b5 Z Z (c6 Z Z) (b6 (hK1 _ ?_))))))
 clear hK1 K1
 refine d3 (λK2 hK2=>?_)
 refine b8 (a7 Z (t7 G 1 Z Z Z Z Z Z Z Z (a7 Z (t7 G 2 Z Z Z Z Z Z Z Z (a7 Z (b5 Z Z (c6 Z Z) (a7 Z (b5 Z Z (c6 Z Z) (a7 Z (b5 Z Z (c6 Z Z) (b6 (hK2 _ ?_))))))))))))
 clear hK2 K2
 refine r4 ?_
 refine e6 [0] [] (λ(n:Nat)=>[(4,.own 0),(5,.own 1),(6,.v (.int .i64 (P0 s n)))]) (λ(n:Nat)=>[(0,some (.row 63 2 ((pre (a74 s) n).map a7O))),(1,some (.row 3 1 ((pre (P0 s) (n+1)).map Rf.n7)))]) (λ(n:Nat)=>∀j,j < n→okN s j=true) (λ(n:Nat)=>61 - n) 0 Z Z ?_ ?_ ?_ ?_
 ·exact λj hj=>by omega
 ·exact c3r
 ·exact b58
 ·intro n hinv
  have hp:=b1Y hinv
  have hpi:P0 s n=(A4 s n:Int):=rfl
  have hre:(B9 s n).size<=s.size:=a61
  have hll:(I8 s n).size<=(B9 s n).size:=a0g
  have hpl:((pre (a74 s) n).length:Int)=n:=(by simp [Q0])
  simp only [List.cons_append,List.nil_append]
  refine r4 ?_
  refine d3 (λK3 hK3=>?_)
  refine b8 (a7 Z (b5 Z Z (c7 Z Z) (a7 Z (b5 Z Z (c7 Z Z) (a7 Z (b5 Z Z (I2 G Z Z Z Z Z J J J) (a7 Z (b5 Z Z (c7 Z Z) (a7 Z ?_)))))))))
  first | refine b5 Z Z (T5 G Z Z Z Z (List.length_map _)) ?_ | refine b5 Z Z (a1j G Z Z Z Z) ?_
  refine a7 Z (b5 Z Z (f7 Z (ArgsOK.of Z) (a6E _ _ (Nat.le_trans a61 hs) J J) Z) (a7 Z (b5 Z Z (c7 Z Z) (a7 Z (b5 Z Z (j7 Z Z Z) (a7 Z (b5 Z Z (j7 Z Z Z) (a7 Z (b5 Z Z (j7 Z Z Z) (a7 Z (d6 G 3 Z Z Z Z Z (a7 Z (m3 G Z Z Z Z Z Z Z Z Z Z Z (a7 Z (b5 Z Z (c6 Z Z) (a7 Z (b5 Z Z (c6 Z Z) (b6 (hK3 _ ?_)))))))))))))))))))
  clear hK3 K3
  refine d3 (λK4 hK4=>?_)
  refine d3 (λK5 hK5=>?_)
  refine b8 (a7 Z (b5 Z Z (c7 Z Z) (a7 Z (b5 Z Z (a2S Z Z) (b6 (hK5 _ ?_))))))
  clear hK5 K5
  rw [b3i,hpl]
  refine j9 Z (λh1=>?_) (λh1=>?_)
  ·try rw [h1]
   try simp only [rfb] at h1
   have hN:=a2f hinv h1
   refine d3 (λK6 hK6=>?_)
   refine b8 (a7 Z (b5 Z Z (c7 Z Z) (a7 Z (b5 Z Z (c7 Z Z) (a7 Z (b5 Z Z (c6 Z Z) (a7 Z (b5 Z Z (c6 Z Z) (b6 (hK6 _ ?_))))))))))
   clear hK6 K6
   refine f6 (r5 Z Z Z Z (b4 (d7 Z ?_) (b4 (d7 Z ?_) f8)))
   all_goals clear hK4 K4
   all_goals ((rw [hN]))
  ·try rw [h1]
   try simp only [rfb] at h1
   have hok:okN s n=true:=h1
   obtain ⟨he1,he2⟩:=c4m hok
   rw [he1,he2]
   have hb1:=a8N hok
   refine s4 (hK4 _ ?_)
   clear hK4 K4
   refine d3 (λK7 hK7=>?_)
   refine b8 (a7 Z (b5 Z Z (c7 Z Z) (a7 Z (b5 Z Z (c7 Z Z) (a7 Z ?_)))))
   first | refine b5 Z Z (v7 Z Z Z Z J J) ?_ | refine b5 Z Z (A2 Z Z Z Z) ?_
   refine a7 Z (b5 Z Z (c6 Z Z) (b6 (hK7 _ ?_)))
   clear hK7 K7
   refine d3 (λK8 hK8=>?_)
   refine b8 (a7 Z (b5 Z Z (c7 Z Z) (a7 Z (b5 Z Z (d9 G Z Z Z Z Z Z) (a7 Z (t7 G 4 Z Z Z Z Z Z Z Z (a7 Z (j3 G np Z Z Z Z Z Z Z Z Z (by simp [Q0];omega) Z Z (a7 Z (b5 Z Z (c6 Z Z) (b6 (hK8 _ ?_))))))))))))
   clear hK8 K8
   refine b8 (a7 Z (b5 Z Z (c7 Z Z) (a7 Z (b5 Z Z (c7 Z Z) (a7 Z (t7 G 5 Z Z Z Z Z Z Z Z (a7 Z (j3 G np Z Z Z Z Z Z Z Z Z (by simp [Q0];omega) Z Z (a7 Z (b5 Z Z (c6 Z Z) ?_))))))))))
   refine b6 ⟨(n+1),?_,?_,⟨⟨_,Z,by (first | exact (rfl:AV.own 0=AV.own 0) | exact (rfl:AV.own 1=AV.own 1) | (rw [a0r (s:=s) (n:=n)];done))⟩,Z,⟨⟨_,Z,by (first | exact (rfl:AV.own 0=AV.own 0) | exact (rfl:AV.own 1=AV.own 1) | (rw [a0r (s:=s) (n:=n)];done))⟩,Z,⟨⟨_,Z,by (first | exact (rfl:AV.own 0=AV.own 0) | exact (rfl:AV.own 1=AV.own 1) | (rw [a0r (s:=s) (n:=n)];done))⟩,Z,trivial⟩⟩⟩,⟨⟨_,Z,by (first | exact congrArg (Row.row _ _) (a25 (g:=a74 s) (f:=a7O) (i:=n)) | (rw [a0r];exact congrArg (Row.row _ _) (a25 (g:=P0 s) (f:=Rf.n7) (i:=n+1))))⟩,Z,Z,⟨⟨_,Z,by (first | exact congrArg (Row.row _ _) (a25 (g:=a74 s) (f:=a7O) (i:=n)) | (rw [a0r];exact congrArg (Row.row _ _) (a25 (g:=P0 s) (f:=Rf.n7) (i:=n+1))))⟩,Z,Z,trivial⟩⟩,Z,Z,Z⟩
   ·exact o9 hinv hok
   ·omega
theorem b2T (x y:Lg):Ctr Tryz.prog 38 [.v (a9m x),.v (a9m y)] (.one (.v (.bool (eqL x y)))):=by
 refine Ctr.of (n:=20) G Tryz.func38 Z a8 Z Z Z (λw0=>?_)
 refine a2r ?_
 refine J7 ?_
 refine zcd (λh1=>?_) (λh1=>?_)
 ·exact b6d
 refine J7 ?_
 refine zcd (λh2=>?_) (λh2=>?_)
 ·exact b6d
 refine zcd (λh3=>?_) (λh3=>?_)
 ·exact b6d
 exact b6d
theorem b2U (x:Lg):Ctr Tryz.prog 22 [.v (a9m x)] (.one (.v (a9m x))):=by
 refine Ctr.of (n:=14) G Tryz.func22 Z a8 Z Z Z (λw0=>?_)
 exact c1z
theorem b2V (x:Lg) (l:Int) (h0:x.d.size<=9223372036854775807/\x.p.size<=9223372036854775807) (hl:0<=l/\l<=1048576):Ctr Tryz.prog 19 [.v (a9m x),.v (.int .i64 l)] (.one (.v (.int .i64 (b3X x l)))):=by
 refine Ctr.of (n:=20) G Tryz.func19 Z a8 Z Z Z (λw0=>?_)
 refine vm3 ?_
 refine a47 ?_
 refine zcd (λh1=>?_) (λh1=>?_)
 ·exact c6a
 refine a47 ?_
 refine zcd (λh2=>?_) (λh2=>?_)
 ·exact c6a
 exact c6a
theorem a4E (x:Lg) (hx:x.d.size+x.p.size<=1048576):Ctr Tryz.prog 45 [.v (a9m x)] (.one (.v (.bool (T8 x)))):=by
 have hl1:=a39 (s:=x.d++x.p)
 have hl2:=a39 (s:=x.d)
 have hp1:P0 (x.d++x.p) (w3 (x.d++x.p))=(A4 (x.d++x.p) (w3 (x.d++x.p)):Int):=rfl
 have hp2:P0 x.d (w3 x.d)=(A4 x.d (w3 x.d):Int):=rfl
 have hrl:=b3W (s:=x.d++x.p)
 have hap:(x.d++x.p).size=x.d.size+x.p.size:=ByteArray.size_append
 have hge:=b5M (s:=x.d++x.p)
 have hel:(pre (P0 (x.d++x.p)) (w3 (x.d++x.p)+1)).length=w3 (x.d++x.p)+1:=Q0
 have hem:((pre (P0 (x.d++x.p)) (w3 (x.d++x.p)+1)).map Rf.n7).length=w3 (x.d++x.p)+1:=(by rw [List.length_map,Q0])
 refine Ctr.of (n:=53) G Tryz.func45 Z a8 Z Z Z (λw0=>?_)
 refine vm3 ?_
 refine a47 ?_
 refine a47 ?_
 refine zcd (λh1=>?_) (λh1=>?_)
 ·have hO:=c0Y (x:=x) J
  exact b6b
 refine zgo ?_
 refine b7b ?_
 refine vm5 ?_
 refine c8 2 Z Z Z (ArgsOK.of Z) (a3G _ a1O) Z Z ?_
 refine p8 ?_
 refine c8 3 Z Z Z (ArgsOK.of Z) (a3G _ a1O) Z Z ?_
 refine a47 ?_
 refine a47 ?_
 refine zcd (λh2=>?_) (λh2=>?_)
 ·refine zgo ?_
  refine a0I ?_
  refine b5 Z Z (o8 G Z Z Z) ?_
  refine zcd (λh3=>?_) (λh3=>?_)
  ·have hO:=c49 (x:=x) J J J
   exact b6b
  have hO:=c0Z (x:=x) J
  exact b6b
 have hO:=b5N (x:=x) J
 exact b6b
theorem a05 (x:Lg) (hx:x.d.size+x.p.size<=1048576):Ctr Tryz.prog 65 [.v (a9m x)] (.one (.v (.bool (T8 x)))):=by
 have hl1:=a39 (s:=x.d++x.p)
 have hl2:=a39 (s:=x.d)
 have hp1:P0 (x.d++x.p) (w3 (x.d++x.p))=(A4 (x.d++x.p) (w3 (x.d++x.p)):Int):=rfl
 have hp2:P0 x.d (w3 x.d)=(A4 x.d (w3 x.d):Int):=rfl
 have hrl:=b3W (s:=x.d++x.p)
 have hap:(x.d++x.p).size=x.d.size+x.p.size:=ByteArray.size_append
 have hge:=b5M (s:=x.d++x.p)
 have hel:(pre (P0 (x.d++x.p)) (w3 (x.d++x.p)+1)).length=w3 (x.d++x.p)+1:=Q0
 have hem:((pre (P0 (x.d++x.p)) (w3 (x.d++x.p)+1)).map Rf.n7).length=w3 (x.d++x.p)+1:=(by rw [List.length_map,Q0])
 refine Ctr.of (n:=45) G Tryz.func65 Z a8 Z Z Z (λw0=>?_)
 refine vm3 ?_
 refine zgo ?_
 refine b7b ?_
 refine p8 ?_
 refine c8 3 Z Z Z (ArgsOK.of Z) (a5d _ a1O) Z Z ?_
 refine vm7 ?_
 refine c5Y ?_
 refine a47 ?_
 refine zcd (λh1=>?_) (λh1=>?_)
 ·have hO:=b5N (x:=x) J
  refine zwt ?_
  refine zf1 ?_
  all_goals ((rw [hO]))
 refine zcd (λh2=>?_) (λh2=>?_)
 ·have hO:=c00 (x:=x) J
  refine zf1 ?_
  all_goals ((rw [hO]))
 refine zgo ?_
 refine e6 [1,33,34] [0,2] (λ(i:Nat)=>[(35,.v (.int .i64 (i:Int)))]) (λ(i:Nat)=>[]) (λ(i:Nat)=>i<=w3 (x.d++x.p)+1/\∀j,j < i→¬ A4 (x.d++x.p) j=x.d.size) (λ(i:Nat)=>w3 (x.d++x.p)+1 - i) 0 Z Z ?_ ?_ ?_ ?_
 ·exact E5
 ·exact a8g
 ·exact trivial
 intro i hinv
 have hi:=hinv.1
 have hpi:P0 (x.d++x.p) i=(A4 (x.d++x.p) i:Int):=rfl
 have hgi:i < w3 (x.d++x.p)+1→(pre (P0 (x.d++x.p)) (w3 (x.d++x.p)+1)).getD ((i:Int)).toNat default=P0 (x.d++x.p) i:=λh=>b3u h
 refine vm4 ?_
 refine zcd (λh3=>?_) (λh3=>?_)
 ·refine vm7 ?_
  refine c5Y ?_
  refine a47 ?_
  refine zcd (λh4=>?_) (λh4=>?_)
  ·have hO:=b60 (x:=x) (j:=i) J J J J
   refine zf1 ?_
   all_goals ((rw [hO]))
  refine zgo ?_
  refine ⟨(i+1),?_,?_,⟨⟨_,Z,by rfl⟩,Z,trivial⟩,trivial,Z,Z,Z⟩
  ·exact ⟨by omega,o9 hinv.2 J⟩
  omega
 have hO:=b61 (x:=x) (λj hj=>hinv.2 j J)
 refine zf1 ?_
 all_goals ((rw [hO]))
end Go.Proofs.YtpfhomblkgmkkaaGreatDoor
