/- Texts merged into one: W6, M18, Q5, M23, L4, L5, L6. -/
import Derived.Test.YtpfhomblkgmkkaaGreatDoorPFnExactRunScriptE
set_option maxHeartbeats 4000000
set_option linter.unusedSimpArgs false
set_option linter.unusedVariables false
set_option maxRecDepth 20000
namespace Go.Proofs.YtpfhomblkgmkkaaGreatDoor
open Go Go.Rf
theorem a1U:a0a Tryz.prog 98 [.int .i64,.int .i64,.int .i64,.int .i64]=true:=by kernel_rfl
theorem D5 (m:Mach) (c:Int) (hn:m.cp.length<=1048576):Ctr Tryz.prog 114 [.agg [.lst 2 (m.rs.map l7),.lst 1 (m.en.map j6),.lst 1 (m.ra.map j6),.nst none 4 (m.cp.map (l6 169 182))],.v (.int .i64 c)] (.one (.v (.bool (m3 c 0 ((m.cp.length:Int) - 1))))):=by
 refine Ctr.of (n:=11) G Tryz.func114 Z a8 Z Z Z (λw0=>?_)
 refine j5 0 Z (λ_=>Z) (λu0=>?_)
 refine vm3 ?_
 exact b58
theorem a4e (m:Mach) (s:MStep) (hn:m.cp.length<=1048576):Ctr Tryz.prog 119 [.agg [.lst 2 (m.rs.map l7),.lst 1 (m.en.map j6),.lst 1 (m.ra.map j6),.nst none 4 (m.cp.map (l6 169 182))],.v (b7R s)] (.one (.v (.bool (O4 m.cp.length s)))):=by
 refine Ctr.of (n:=75) G Tryz.func119 Z a8 Z Z Z (λw0=>?_)
 refine j5 0 Z (λ_=>Z) (λu0=>?_)
 refine a2u ?_
 refine zcd (λh1=>?_) (λh1=>?_)
 ·refine zcl (a0f _) ?_
  exact b34
 refine zcd (λh4=>?_) (λh4=>?_)
 ·refine n9 ?_
  refine b5 Z Z (c6x [.int .i64,.int .i64,.int .i64,.int .i64] Z Z Z Z Z Z Z (.inl Z) (.inl Z) a1U ⟨_,_,Z,⟨_,Z⟩,_,_,Z,⟨_,Z⟩,_,_,Z,⟨_,Z⟩,_,_,Z,⟨_,Z⟩,Z⟩ ⟨_,_,Z,⟨_,Z⟩,_,_,Z,⟨_,Z⟩,_,_,Z,⟨_,Z⟩,_,_,Z,⟨_,Z⟩,Z⟩) ?_
  exact a2N
 refine zcd (λh5=>?_) (λh5=>?_)
 ·refine zwt ?_
  exact c3K
 refine zcd (λh8=>?_) (λh8=>?_)
 ·exact c3K
 refine zcd (λh11=>?_) (λh11=>?_)
 ·refine zcd (λh12=>?_) (λh12=>?_)
  ·refine zcl (D5 m s.c hn) ?_
   refine zcd (λh13=>?_) (λh13=>?_)
   ·refine zcl (a4x _) ?_
    exact a2N
   exact a2N
  exact a2N
 refine zcd (λh14=>?_) (λh14=>?_)
 ·refine zcl (a0f _) ?_
  refine zcd (λh15=>?_) (λh15=>?_)
  ·refine zcd (λh16=>?_) (λh16=>?_)
   ·refine zcl (C5 _ _ _) ?_
    exact a2N
   exact a2N
  exact a2N
 exact a2N
theorem a7o (m:Mach) (s:MStep) (hn:m.cp.length<=1048576):Ctr Tryz.prog 147 [.agg [.lst 2 (m.rs.map l7),.lst 1 (m.en.map j6),.lst 1 (m.ra.map j6),.nst none 4 (m.cp.map (l6 169 182))],.v (b7R s)] (.one (.v (.bool (O4 m.cp.length s)))):=by
 refine Ctr.of (n:=90) G Tryz.func147 Z a8 Z Z Z (λw0=>?_)
 refine j5 0 Z (λ_=>Z) (λu0=>?_)
 refine a2u ?_
 refine b2H ?_
 refine zcd (λh1=>?_) (λh1=>?_)
 ·refine zcl (a0g _) ?_
  exact b34
 refine zcd (λh4=>?_) (λh4=>?_)
 ·exact b34
 refine zcd (λh7=>?_) (λh7=>?_)
 ·refine zwt ?_
  exact b34
 refine zcd (λh10=>?_) (λh10=>?_)
 ·exact b34
 refine zcd (λh13=>?_) (λh13=>?_)
 ·exact c3L
 refine zcd (λh16=>?_) (λh16=>?_)
 ·refine zcl (a0g _) ?_
  exact c3L
 exact a2N
theorem b0a (m:Mach) (hM:MaG m) (hs:SmallM m):Ctr Tryz.prog 145 [.agg [.lst 2 (m.rs.map l7),.lst 1 (m.en.map j6),.lst 1 (m.ra.map j6),.nst none 4 (m.cp.map (l6 169 182))]] (.shp true [some 5] [.fr 4 1 ((S3 m).en.map j6),.fr 4 1 ((S3 m).ra.map j6),.fr 4 1 ((S3 m).po.map j6),.fr 3 1 ((S3 m).ma.map Rf.n8),.ne 93 1 ((S3 m).st.map a5T)]):=by
 have f1:=hM.n
 have f2:=hM.en
 have f3:=hM.ra
 have f4:=hM.rn
 refine Ctr.of (n:=70) G Tryz.func145 Z a8 Z Z Z (λw0=>?_)
 refine j5 0 Z (λ_=>Z) (λu0=>?_)
 refine N0 ?_
 refine zgn ?_
 refine p6 (j7 14 [0,1] mixed a8 Z Z (λr0=>?_) (λ_ h=>h))
 refine zsa 1 ?_
 refine zsa 2 ?_
 refine zsa 5 ?_
 refine zsa 6 ?_
 refine x5 (N:=8) Z (r7 (fuel:=4) [⟨0,7,2,false,.row 4 1 []⟩,⟨4,11,3,false,.row 4 1 []⟩,⟨8,15,4,false,.row 4 1 (List.replicate 8 [.bool false])⟩,⟨9,16,5,false,.row 3 1 []⟩,⟨10,17,6,false,.row 93 1 []⟩,⟨12,3,7,true,.box (avR [.slice none 0 0,.slice none 0 0,.slice none 0 0,.slice none 0 0,.slice none 0 0] [])⟩] (AllVOK.cons (VOK.lit G Z Z Z Z Z) (AllVOK.cons (VOK.lit G Z Z Z Z Z) (AllVOK.cons (VOK.make (n:=8) G Z Z Z Z Z (by decide) (by decide)) (AllVOK.cons (VOK.lit G Z Z Z Z Z) (AllVOK.cons (VOK.lit G Z Z Z Z Z) (AllVOK.cons (VOK.boxS G Z Z Z Z Z) (AllVOK.nil))))))) (λhok=>?_))
 refine m5 [(3,[0])] a8 a8 (λe he=>hok e he) a8 (AllVS.cons ?_ AllVS.nil)
 refine VStep.mk1 [0,1] 7 (.own 2) 2 (.row 4 1 []) [⟨4,11,3,false,.row 4 1 []⟩,⟨8,15,4,false,.row 4 1 (List.replicate 8 [.bool false])⟩,⟨9,16,5,false,.row 3 1 []⟩,⟨10,17,6,false,.row 93 1 []⟩,⟨12,3,7,true,.box (avR [.slice none 0 0,.slice none 0 0,.slice none 0 0,.slice none 0 0,.slice none 0 0] [])⟩] Z Z Z Z Z (λb1 _ hbn=>j3 G O8 Z Z Z Z Z Z Z Z Z R2 Z Z (b6 Z)) a8 a8 a8 a8 (m5 [(7,[4])] a8 a8 (λe he=>hok e (vin (is:=[0]) Z he)) a8 (AllVS.cons ?_ AllVS.nil))
 refine VStep.mk1 [0,1] 11 (.own 3) 3 (.row 4 1 []) [⟨8,15,4,false,.row 4 1 (List.replicate 8 [.bool false])⟩,⟨9,16,5,false,.row 3 1 []⟩,⟨10,17,6,false,.row 93 1 []⟩,⟨12,3,7,true,.box (avR [.slice none 0 0,.slice none 0 0,.slice none 0 0,.slice none 0 0,.slice none 0 0] [])⟩] Z Z Z Z Z (λb1 _ hbn=>j3 G O8 Z Z Z Z Z Z Z Z Z R2 Z Z (b6 Z)) a8 a8 a8 a8 (m5 [(11,[8,9,10])] a8 a8 (λe he=>hok e (vin (is:=[0,4]) Z he)) a8 (AllVS.cons ?_ AllVS.nil))
 refine VStep.mk3 [0,1] 15 (.own 4) 4 (.row 4 1 (List.replicate 8 [.bool false])) 16 (.own 5) 5 (.row 3 1 []) 17 (.own 6) 6 (.row 93 1 []) [⟨12,3,7,true,.box (avR [.slice none 0 0,.slice none 0 0,.slice none 0 0,.slice none 0 0,.slice none 0 0] [])⟩] Z Z Z Z Z (λb1 _ hbn=>b5 Z Z (w5 G Z Z Z Z) (b6 Z)) a8 a8 a8 a8 (m5 [(13,[12])] a8 a8 (λe he=>hok e (vin (is:=[0,4,8,9,10]) Z he)) a8 (AllVS.cons ?_ AllVS.nil))
 refine VStep.mk1 [0,1] 3 (.ptr 7 0) 7 (.box (avR [.slice none 0 0,.slice none 0 0,.slice none 0 0,.slice none 0 0,.slice none 0 0] [])) [] Z Z Z Z Z (λb1 _ hbn=>m4 G Z Z Z Z Z Z Z Z Z Z Z (b6 Z)) a8 a8 a8 a8 (D0 ?_)
 clear hok
 refine a3a (Gh.nest (id:=6) (yss:=[]) Z Z (by intro _ _ _ h;simp at h)) ?_
 refine H4 ?_
 refine zgo ?_
 refine d9 [1,2,3] [0,1,2,3,7] (λ(k:Nat)=>[(4,.v (.int .i64 (k:Int)))]) (λ(k:Nat)=>[(4,some (.row 4 1 ((poN m k).map j6))),(5,some (.row 3 1 (((m.cp.map (λx=>x.ma)).take k).map Rf.n8))),(6,some (.nest 93 1 (((m.cp.map (λx=>x.st)).take k).map a5T) []))]) (λ(k:Nat)=>k<=m.cp.length) (λ(k:Nat)=>m.cp.length - k) 0 Z Z ?_ ?_ ?_ ?_
 ·exact C7
 ·exact a8c
 ·exact c3l
 intro k hk
 have hp8:=@F7 m k
 have hm1:(m.cp.map (λx=>x.ma)).length=m.cp.length:=List.length_map _
 have hm2:(m.cp.map (λx=>x.st)).length=m.cp.length:=List.length_map _
 refine vm4 ?_
 refine zcd (λh1=>?_) (λh1=>?_)
 ·have hI:=(hM.ok k J).f
  have hsn:=hI.sn
  have hpl:=a1N hI.qu
  refine n9 ?_
  refine b2F ?_
  refine n9 ?_
  refine c8 9 Z Z Z (ArgsOK.of Z) (V0 (m.cp.getD k default).qu hI.qu) Z Z ?_
  refine zgo ?_
  refine d9 [1,2,3,4,5] [0,1,2,3,5,6,7,8] (λ(i:Nat)=>[(6,.v (.int .i64 (i:Int)))]) (λ(i:Nat)=>[(4,some (.row 4 1 ((b3J (poN m k) (A6 (m.cp.getD k default).qu) i).map j6)))]) (λ(i:Nat)=>i<=(A6 (m.cp.getD k default).qu).length) (λ(i:Nat)=>(A6 (m.cp.getD k default).qu).length - i) 0 Z Z ?_ ?_ ?_ ?_
  ·exact C7
  ·exact a8c
  ·exact a1k
  intro i hi
  have hbp:=λh=>b2i hI.qu (i:=i) h
  have hpo:=@E2 (poN m k) (A6 (m.cp.getD k default).qu) i
  have hp8:=@F7 m k
  refine vm4 ?_
  refine zcd (λh2=>?_) (λh2=>?_)
  ·have hbq:=hbp J
   refine zgn ?_
   refine p6 (r4 (j7 8 [0,1,2,3,5,6,7,8] mixed a8 Z Z (λr0=>?_) (λ_ h=>h)))
   refine a0C ?_
   first | refine d4 4 Z a8 a8 Z Z Z Z (b9 G Z Z Z Z Z J a3w) ?_ | refine d4 4 Z a8 a8 Z Z Z Z (b9 G Z Z Z Z Z J (by rw [List.length_map,E2,F7];omega)) ?_ | refine d4 4 Z a8 a8 Z Z Z Z (b9 G Z Z Z Z Z J B1) ?_ | refine d4 4 Z a8 a8 Z Z Z Z (b9 G Z Z Z Z Z J J) ?_
   first | refine d4 5 Z a8 a8 Z Z Z Z (i7 G Z Z Z Z Z (a1r J) Z) ?_ | refine d4 5 Z a8 a8 Z Z Z Z (i7 G Z Z Z Z Z (x7 J (by rw [E2,F7];omega)) Z) ?_ | refine d4 5 Z a8 a8 Z Z Z Z (i7 G Z Z Z Z Z (x7 J J) Z) ?_
   refine b7 (rs:=[6]) a8 Z (AllB.cons ?_ AllB.nil)
   first | refine g8 [0,1,2,3,5,6,7,8] Z Z (b5 Z Z (b9 G Z Z Z Z Z J a3w) (b6 ⟨Z,?_⟩)) | refine g8 [0,1,2,3,5,6,7,8] Z Z (b5 Z Z (b9 G Z Z Z Z Z J (by rw [List.length_map,E2,F7];omega)) (b6 ⟨Z,?_⟩)) | refine g8 [0,1,2,3,5,6,7,8] Z Z (b5 Z Z (b9 G Z Z Z Z Z J B1) (b6 ⟨Z,?_⟩)) | refine g8 [0,1,2,3,5,6,7,8] Z Z (b5 Z Z (b9 G Z Z Z Z Z J J) (b6 ⟨Z,?_⟩))
   refine b7 (rs:=[7]) a8 Z (AllB.cons ?_ AllB.nil)
   first | refine g8 [0,1,2,3,5,6,7,8] Z Z (l2 G Z Z Z Z Z (a1r J) Z Z Z Z Z (Nat.le_of_ble_eq_true Z) Z (b6 ⟨Z,?_⟩)) | refine g8 [0,1,2,3,5,6,7,8] Z Z (l2 G Z Z Z Z Z (x7 J (by rw [E2,F7];omega)) Z Z Z Z Z (Nat.le_of_ble_eq_true Z) Z (b6 ⟨Z,?_⟩)) | refine g8 [0,1,2,3,5,6,7,8] Z Z (l2 G Z Z Z Z Z (x7 J J) Z Z Z Z Z (Nat.le_of_ble_eq_true Z) Z (b6 ⟨Z,?_⟩))
   refine H4 ?_
   refine zgo ?_
   refine ⟨(i+1),?_,?_,⟨⟨_,Z,by rfl⟩,Z,trivial⟩,⟨⟨_,Z,by (first | rfl | (exact congrArg (λz=>Row.row _ _ z) (a0Z J)) | (exact congrArg (λz=>Row.nest _ _ z []) (a00 J Z)) | (exact congrArg (λz=>Row.row _ _ z) b5Z) | (obtain rfl:i=(A6 (m.cp.getD k default).qu).length:=J;rfl))⟩,Z,Z,trivial⟩,Z,Z,Z⟩
   ·omega
   omega
  refine zgo ?_
  apply x8 [1,2,3,4] [0,1,2,3,4,6,7,10] 11 12 [0,1,2,3,4,6,8] mixed a8 Z Z (λ_ h=>znk h)
  ·intro r0
   refine zsa 0 ?_
   refine zsa 2 ?_
   refine zsa 3 ?_
   refine zsa 4 ?_
   refine zsa 5 ?_
   refine d4 6 Z a8 a8 Z Z Z Z (Z6 G Z Z Z Z) (d4 7 Z a8 a8 Z Z Z Z (N5 G Z Z Z Z) (b7 (rs:=[1,8]) a8 Z (AllB.cons ?_ (AllB.cons ?_ AllB.nil))))
   ·refine f8 [0,1,2,3,4,6,8] Z Z ?_
    refine J5 ?_
    refine b7 (rs:=[8]) a8 Z (AllB.cons ?_ AllB.nil)
    refine f8 [0,1,2,3,4,6,8] Z Z (s4 G 10 Z Z Z Z Z Z Z Z (b6 ⟨Z,?_⟩))
    exact c3C
   refine f8 [0,1,2,3,4,6,8] Z Z (s4 G 10 Z Z Z Z Z Z Z Z (b6 ⟨Z,?_⟩))
   refine b7 (rs:=[1]) a8 Z (AllB.cons ?_ AllB.nil)
   refine f8 [0,1,2,3,4,6,8] Z Z ?_
   refine J5 ?_
   exact c3C
  apply x8 [1,2,3,4] [0,1,2,3,4,7,10,13] 14 13 [0,1,2,3,4,10] mixed a8 Z Z (λ_ h=>znk h)
  ·intro r0
   refine zsa 0 ?_
   refine zsa 2 ?_
   refine zsa 3 ?_
   refine zsa 4 ?_
   refine zsa 5 ?_
   refine d4 6 Z a8 a8 Z Z Z Z (Z6 G Z Z Z Z) (d4 7 Z a8 a8 Z Z Z Z (N5 G Z Z Z Z) (b7 (rs:=[1,8]) a8 Z (AllB.cons ?_ (AllB.cons ?_ AllB.nil))))
   ·refine f8 [0,1,2,3,4,10] Z Z ?_
    refine J5 ?_
    refine b7 (rs:=[8]) a8 Z (AllB.cons ?_ AllB.nil)
    refine f8 [0,1,2,3,4,10] Z Z (c8 12 Z Z Z (ArgsOK.of Z) (E1 _ J) Z Z (b6 ⟨Z,?_⟩))
    exact c32
   refine f8 [0,1,2,3,4,10] Z Z (c8 12 Z Z Z (ArgsOK.of Z) (E1 _ J) Z Z (b6 ⟨Z,?_⟩))
   refine b7 (rs:=[1,9]) a8 Z (AllB.cons ?_ (AllB.cons ?_ AllB.nil))
   ·refine f8 [0,1,2,3,4,10] Z Z ?_
    refine J5 ?_
    exact c32
   refine f8 [0,1,2,3,4,10] Z Z (A8 G 13 Z Z Z Z Z Z Z Z (.own Z .nil) Z Z Z Z (b6 ⟨Z,?_⟩))
   refine b7 (rs:=[1]) a8 Z (AllB.cons ?_ AllB.nil)
   refine f8 [0,1,2,3,4,10] Z Z ?_
   refine J5 ?_
   exact c3x
  refine a2v ?_
  refine G7 (Gh.sub 10 5 np Z Z Z) (G7 (Gh.sub 13 6 np Z Z Z) (b6 ⟨(k+1),?_,?_,⟨⟨_,Z,by rfl⟩,Z,trivial⟩,⟨⟨_,Z,by (first | rfl | (exact congrArg (λz=>Row.row _ _ z) (a0Z J)) | (exact congrArg (λz=>Row.nest _ _ z []) (a00 J Z)) | (exact congrArg (λz=>Row.row _ _ z) b5Z) | (obtain rfl:i=(A6 (m.cp.getD k default).qu).length:=J;rfl))⟩,Z,Z,⟨⟨_,Z,by (first | rfl | (exact congrArg (λz=>Row.row _ _ z) (a0Z J)) | (exact congrArg (λz=>Row.nest _ _ z []) (a00 J Z)) | (exact congrArg (λz=>Row.row _ _ z) b5Z) | (obtain rfl:i=(A6 (m.cp.getD k default).qu).length:=J;rfl))⟩,Z,Z,⟨⟨_,Z,by (first | rfl | (exact congrArg (λz=>Row.row _ _ z) (a0Z J)) | (exact congrArg (λz=>Row.nest _ _ z []) (a00 J Z)) | (exact congrArg (λz=>Row.row _ _ z) b5Z) | (obtain rfl:i=(A6 (m.cp.getD k default).qu).length:=J;rfl))⟩,Z,Z,trivial⟩⟩⟩,Z,Z,Z⟩))
  ·omega
  omega
 refine zgo ?_
 refine e6 (m8 Z Z Z Z (b4 (d6 Z ?_) (b4 (d6 Z ?_) (b4 (d6 Z ?_) (b4 (d6 Z ?_) (b4 (C6 Z ?_) f6))))))
 all_goals (first | rfl | (obtain rfl:k=m.cp.length:=J;first | rfl | (rw [b3K (Nat.le_refl _)];rfl)) | simp)
theorem a4f (m:Mach) (hM:MaG m) (hs:SmallM m):Ctr Tryz.prog 118 [.agg [.lst 2 (m.rs.map l7),.lst 1 (m.en.map j6),.lst 1 (m.ra.map j6),.nst none 4 (m.cp.map (l6 169 182))]] (.shp true [some 5] [.fr 4 1 ((S3 m).en.map j6),.fr 4 1 ((S3 m).ra.map j6),.fr 4 1 ((S3 m).po.map j6),.fr 3 1 ((S3 m).ma.map Rf.n8),.ne 93 1 ((S3 m).st.map a5T)]):=by
 have f1:=hM.n
 have f2:=hM.en
 have f3:=hM.ra
 have f4:=hM.rn
 refine Ctr.of (n:=57) G Tryz.func118 Z Y Z Z Z (λw0=>?_)
 refine j5 0 Z (λ_=>Z) (λu0=>?_)
 refine d3 (λK1 hK1=>?_)
 refine b8 (a7 Z (y9 1 Z Z Z Z Z Z Z (a7 Z (d8 G 2 Z Z Z Z Z (b6 (hK1 _ ?_))))))
 clear hK1 K1
 refine d3 (λK2 hK2=>?_)
 refine j7 14 [0,1] mixed Y Z Z (λr0=>?_) (λ_ h=>h)
 refine d4 1 Z Y Y Z Z Z Z (m9 G Z Z Z Z) (d4 2 Z Y Y Z Z Z Z (a5M (o7 G Z Z Z Z Z Z Z)) (d4 5 Z Y Y Z Z Z Z (m9 G Z Z Z Z) (d4 6 Z Y Y Z Z Z Z (a5M (o7 G Z Z Z Z Z Z Z)) ?_)))
 refine x5 (N:=8) Z (r7 (fuel:=4) [⟨0,8,2,false,.row 4 1 []⟩,⟨4,12,3,false,.row 4 1 []⟩,⟨8,16,4,false,.row 4 1 (List.replicate 8 [.bool false])⟩,⟨9,17,5,false,.row 3 1 []⟩,⟨10,18,6,false,.row 93 1 []⟩,⟨12,3,7,true,.box (avR [.slice none 0 0,.slice none 0 0,.slice none 0 0,.slice none 0 0,.slice none 0 0] [])⟩] (AllVOK.cons (VOK.lit G Z Z Z Z Z) (AllVOK.cons (VOK.lit G Z Z Z Z Z) (AllVOK.cons (VOK.make (n:=8) G Z Z Z Z Z (by decide) (by decide)) (AllVOK.cons (VOK.lit G Z Z Z Z Z) (AllVOK.cons (VOK.lit G Z Z Z Z Z) (AllVOK.cons (VOK.boxS G Z Z Z Z Z) (AllVOK.nil))))))) (λhok=>?_))
 refine m5 [(3,[0])] Y Y (λe he=>hok e he) Y (AllVS.cons ?_ AllVS.nil)
 refine VStep.mk1 [0,1] 8 (.own 2) 2 (.row 4 1 []) [⟨4,12,3,false,.row 4 1 []⟩,⟨8,16,4,false,.row 4 1 (List.replicate 8 [.bool false])⟩,⟨9,17,5,false,.row 3 1 []⟩,⟨10,18,6,false,.row 93 1 []⟩,⟨12,3,7,true,.box (avR [.slice none 0 0,.slice none 0 0,.slice none 0 0,.slice none 0 0,.slice none 0 0] [])⟩] Z Z Z Z Z (λb1 _ hbn=>j3 G (by rw [hbn];exact Nat.le_of_ble_eq_true Z) Z Z Z Z Z Z Z Z Z (by first | (simp only [List.length_map,List.length_cons,List.length_nil];omega) | (simp;omega)) Z Z (b6 Z)) Y Y Y Y ?_
 refine m5 [(7,[4])] Y Y (λe he=>hok e (vin (is:=[0]) Z he)) Y (AllVS.cons ?_ AllVS.nil)
 refine VStep.mk1 [0,1] 12 (.own 3) 3 (.row 4 1 []) [⟨8,16,4,false,.row 4 1 (List.replicate 8 [.bool false])⟩,⟨9,17,5,false,.row 3 1 []⟩,⟨10,18,6,false,.row 93 1 []⟩,⟨12,3,7,true,.box (avR [.slice none 0 0,.slice none 0 0,.slice none 0 0,.slice none 0 0,.slice none 0 0] [])⟩] Z Z Z Z Z (λb1 _ hbn=>j3 G (by rw [hbn];exact Nat.le_of_ble_eq_true Z) Z Z Z Z Z Z Z Z Z (by first | (simp only [List.length_map,List.length_cons,List.length_nil];omega) | (simp;omega)) Z Z (b6 Z)) Y Y Y Y ?_
 refine m5 [(11,[8,9,10])] Y Y (λe he=>hok e (vin (is:=[0,4]) Z he)) Y (AllVS.cons ?_ AllVS.nil)
 refine VStep.mk3 [0,1] 16 (.own 4) 4 (.row 4 1 (List.replicate 8 [.bool false])) 17 (.own 5) 5 (.row 3 1 []) 18 (.own 6) 6 (.row 93 1 []) [⟨12,3,7,true,.box (avR [.slice none 0 0,.slice none 0 0,.slice none 0 0,.slice none 0 0,.slice none 0 0] [])⟩] Z Z Z Z Z (λb1 _ hbn=>b5 Z Z (w5 G Z Z Z Z) (b6 Z)) Y Y Y Y ?_
 refine m5 [(13,[12])] Y Y (λe he=>hok e (vin (is:=[0,4,8,9,10]) Z he)) Y (AllVS.cons ?_ AllVS.nil)
 refine VStep.mk1 [0,1] 3 (.ptr 7 0) 7 (.box (avR [.slice none 0 0,.slice none 0 0,.slice none 0 0,.slice none 0 0,.slice none 0 0] [])) [] Z Z Z Z Z (λb1 _ hbn=>m4 G Z Z Z Z Z Z Z Z Z Z Z (b6 Z)) Y Y Y Y (D0 ?_)
 clear hok
 refine a3a (Gh.nest (id:=6) (yss:=[]) Z Z (by intro _ _ _ h;simp at h)) (C4 Y (hK2 _ ?_))
 clear hK2 K2
 refine d3 (λK3 hK3=>?_)
 refine d3 (λK4 hK4=>?_)
 refine b8 (a7 Z (b5 Z Z (m9 G Z Z Z Z) (a7 Z (b5 Z Z (b7L (o7 G Z Z Z Z Z Z Z)) (a7 Z ?_)))))
 first | refine b5 Z Z (T7 G Z Z Z Z (List.length_map _)) ?_ | refine b5 Z Z (a1o G Z Z Z Z) ?_
 refine a7 Z (b5 Z Z (c7 Z Z) (b6 (hK4 _ ?_)))
 clear hK4 K4
 refine r4 ?_
 refine d9 [2,3,21,22] [1,2,3,7] (λ(k:Nat)=>[(23,.v (.int .i64 (k:Int)))]) (λ(k:Nat)=>[(4,some (.row 4 1 ((poN m k).map j6))),(5,some (.row 3 1 (((m.cp.map (λx=>x.ma)).take k).map Rf.n8))),(6,some (.nest 93 1 (((m.cp.map (λx=>x.st)).take k).map a5T) []))]) (λ(k:Nat)=>k<=m.cp.length) (λ(k:Nat)=>m.cp.length - k) 0 Z Z ?_ ?_ ?_ ?_
 ·exact C7
 ·exact a8c
 ·exact c3l
 ·intro k hk
  have hp8:=@F7 m k
  have hm1:(m.cp.map (λx=>x.ma)).length=m.cp.length:=List.length_map _
  have hm2:(m.cp.map (λx=>x.st)).length=m.cp.length:=List.length_map _
  simp only [List.cons_append,List.nil_append]
  refine d3 (λK5 hK5=>?_)
  refine b8 (a7 Z (b5 Z Z (B3 Z Z Z Z) (b6 (hK5 _ ?_))))
  clear hK5 K5
  refine d3 (λK6 hK6=>?_)
  refine m6 Z (λh1=>?_) (λh1=>?_)
  ·try rw [h1]
   try simp only [rfb] at h1
   have hI:=(hM.ok k J).f
   have hsn:=hI.sn
   have hpl:=a1N hI.qu
   refine s3 (hK6 _ ?_)
   clear hK6 K6
   refine d3 (λK7 hK7=>?_)
   refine r4 ?_
   refine d3 (λK8 hK8=>?_)
   refine b8 (a7 Z ?_)
   first | refine b5 Z Z (B9 G Z Z Z Z J (a1r J) Z) ?_ | refine b5 Z Z (B9 G Z Z Z Z J (V9 J J) Z) ?_ | refine b5 Z Z (B9 G Z Z Z Z J (x7 J J) Z) ?_
   refine a7 Z (b5 Z Z (K0 G Z Z Z Z) (a7 Z (d8 G 9 Z Z Z Z Z (a7 Z (a6h 26 Z (λ_=>Z) λv26=>m4 G Z Z Z Z Z Z Z Z Z Z Z (b6 (hK8 _ ?_)))))))
   clear hK8 K8
   refine d3 (λK9 hK9=>?_)
   refine b8 (a7 Z (b5 Z Z (m9 G Z Z Z Z) (a7 Z (b5 Z Z (o7 G Z Z Z Z Z Z Z) (a7 Z (b5 Z Z (m9 G Z Z Z Z) (a7 Z (b5 Z Z (o7 G Z Z Z Z Z Z Z) (a7 Z (s4 G 10 Z Z Z Z Z Z Z Z (a7 Z ?_)))))))))))
   refine Z3 (Gh.forget (id:=7) (k:=3) Z Z)<|Z3 (Gh.keep [1,2,3,4,5,6,7,8,9] Z)<|j3 G np rfl rfl rfl rfl rfl rfl rfl rfl rfl (by first | (simp only [List.length_map,List.length_cons,List.length_nil];omega) | (simp;omega)) rfl rfl ?_
   refine a7 Z (b5 Z Z (m9 G Z Z Z Z) (a7 Z (m4 G Z Z Z Z Z Z Z Z Z Z Z (b6 (hK9 _ ?_)))))
   clear hK9 K9
   refine d3 (λK10 hK10=>?_)
   apply x8 [2,3,5,21,22,23] [1,2,3,4,5,7,8,12] 13 9 [1,2,3,4,5,8,9] mixed Y Z Z hK10
   ·intro r0
    refine d4 0 Z Y Y Z Z Z Z (m9 G Z Z Z Z) (d4 2 Z Y Y Z Z Z Z (m9 G Z Z Z Z) (d4 3 Z Y Y Z Z Z Z (a5M (o7 G Z Z Z Z Z Z Z)) ?_))
    refine b7 (rs:=[1,4]) Y Z (AllB.cons ?_ (AllB.cons ?_ AllB.nil))
    ·refine g8 [1,2,3,4,5,8,9] Z Z (b5 Z Z (o7 G Z Z Z Z Z Z Z) (b6 ⟨Z,?_⟩))
     refine b7 (rs:=[4]) Y Z (AllB.cons ?_ AllB.nil)
     refine g8 [1,2,3,4,5,8,9] Z Z (c8 11 Z Z Z (ArgsOK.of Z) (z8 _ J) Z Z (b6 ⟨Z,?_⟩))
     exact c31
    ·refine g8 [1,2,3,4,5,8,9] Z Z (c8 11 Z Z Z (ArgsOK.of Z) (z8 _ J) Z Z (b6 ⟨Z,?_⟩))
     refine b7 (rs:=[1,5]) Y Z (AllB.cons ?_ (AllB.cons ?_ AllB.nil))
     ·refine g8 [1,2,3,4,5,8,9] Z Z (b5 Z Z (o7 G Z Z Z Z Z Z Z) (b6 ⟨Z,?_⟩))
      exact c31
     ·refine g8 [1,2,3,4,5,8,9] Z Z (A8 G 12 Z Z Z Z Z Z Z Z (.own Z .nil) Z Z Z Z (b6 ⟨Z,?_⟩))
      refine b7 (rs:=[1]) Y Z (AllB.cons ?_ AllB.nil)
      refine g8 [1,2,3,4,5,8,9] Z Z (b5 Z Z (o7 G Z Z Z Z Z Z Z) (b6 ⟨Z,?_⟩))
      exact c3u
   ·clear hK10 K10
    refine d3 (λK11 hK11=>?_)
    refine b8 (a7 Z (b5 Z Z (m9 G Z Z Z Z) (a7 Z (b5 Z Z (i6 G Z Z Z Z Z Z) (a7 Z (c8 14 Z Z Z (ArgsOK.of Z) (N2 (m.cp.getD k default).qu hI.qu) Z Z (a7 Z ?_)))))))
    first | refine b5 Z Z (T7 G Z Z Z Z (List.length_map _)) ?_ | refine b5 Z Z (a1o G Z Z Z Z) ?_
    refine a7 Z (b5 Z Z (c7 Z Z) (b6 (hK11 _ ?_)))
    clear hK11 K11
    refine r4 ?_
    refine d9 [2,3,21,22,23,44,45] [1,2,3,5,7,12,13] (λ(i:Nat)=>[(46,.v (.int .i64 (i:Int)))]) (λ(i:Nat)=>[(4,some (.row 4 1 ((b3J (poN m k) (A6 (m.cp.getD k default).qu) i).map j6)))]) (λ(i:Nat)=>i<=(A6 (m.cp.getD k default).qu).length) (λ(i:Nat)=>(A6 (m.cp.getD k default).qu).length - i) 0 Z Z ?_ ?_ ?_ ?_
    ·exact C7
    ·exact a8c
    ·exact a1k
    ·intro i hi
     have hbp:=λh=>b2i hI.qu (i:=i) h
     have hpo:=@E2 (poN m k) (A6 (m.cp.getD k default).qu) i
     have hp8:=@F7 m k
     simp only [List.cons_append,List.nil_append]
     refine d3 (λK12 hK12=>?_)
     refine b8 (a7 Z (b5 Z Z (B3 Z Z Z Z) (b6 (hK12 _ ?_))))
     clear hK12 K12
     refine d3 (λK13 hK13=>?_)
     refine m6 Z (λh2=>?_) (λh2=>?_)
     ·try rw [h2]
      try simp only [rfb] at h2
      have hbq:=hbp J
      refine s3 (hK13 _ ?_)
      clear hK13 K13
      refine d3 (λK14 hK14=>?_)
      refine r4 ?_
      refine d3 (λK15 hK15=>?_)
      refine b8 (a7 Z ?_)
      first | refine b5 Z Z (b9 G Z Z Z Z Z J (by rw [List.length_map];omega)) ?_ | refine b5 Z Z (b9 G Z Z Z Z Z J (by rw [List.length_map,E2,F7];omega)) ?_ | refine b5 Z Z (b9 G Z Z Z Z Z J (by simp;omega)) ?_ | refine b5 Z Z (b9 G Z Z Z Z Z J J) ?_
      refine a7 Z ?_
      first | refine b5 Z Z (i7 G Z Z Z Z Z (a1r J) Z) ?_ | refine b5 Z Z (i7 G Z Z Z Z Z (x7 J (by rw [E2,F7];omega)) Z) ?_ | refine b5 Z Z (i7 G Z Z Z Z Z (x7 J J) Z) ?_
      refine a7 Z (b5 Z Z (c6 Z Z) (b6 (hK15 _ ?_)))
      clear hK15 K15
      refine b8 (a7 Z (b5 Z Z (m9 G Z Z Z Z) (a7 Z (b5 Z Z (o7 G Z Z Z Z Z Z Z) (a7 Z (b5 Z Z (c7 Z Z) (a7 Z ?_)))))))
      first | refine b5 Z Z (b9 G Z Z Z Z Z J (by rw [List.length_map];omega)) ?_ | refine b5 Z Z (b9 G Z Z Z Z Z J (by rw [List.length_map,E2,F7];omega)) ?_ | refine b5 Z Z (b9 G Z Z Z Z Z J (by simp;omega)) ?_ | refine b5 Z Z (b9 G Z Z Z Z Z J J) ?_
      refine a7 Z ?_
      first | refine l2 G Z Z Z Z Z (a1r J) Z Z Z Z Z (Nat.le_of_ble_eq_true Z) Z ?_ | refine l2 G Z Z Z Z Z (x7 J (by rw [E2,F7];omega)) Z Z Z Z Z (Nat.le_of_ble_eq_true Z) Z ?_ | refine l2 G Z Z Z Z Z (x7 J J) Z Z Z Z Z (Nat.le_of_ble_eq_true Z) Z ?_
      refine b6 (hK14 _ ?_)
      clear hK14 K14
      refine b8 (a7 Z ?_)
      first | refine b5 Z Z (v6 Z Z Z Z J J) ?_ | refine b5 Z Z (A4 Z Z Z Z) ?_
      refine a7 Z (b5 Z Z (c7 Z Z) ?_)
      refine b6 ⟨(i+1),?_,?_,⟨⟨_,Z,by rfl⟩,Z,trivial⟩,⟨⟨_,Z,by (first | rfl | (exact congrArg (λz=>Row.row _ _ z) (a0Z J)) | (exact congrArg (λz=>Row.nest _ _ z []) (a00 J Z)) | (exact congrArg (λz=>Row.row _ _ z) (by rw [a0m,List.map_set];rfl)) | (obtain rfl:i=(A6 (m.cp.getD k default).qu).length:=J;rfl))⟩,Z,Z,trivial⟩,Z,Z,Z⟩
      ·omega
      ·omega
     ·try rw [h2]
      try simp only [rfb] at h2
      refine Y1 (hK7 _ ?_)
      clear hK13 K13 hK7 K7
      refine b8 (a7 Z ?_)
      first | refine b5 Z Z (v6 Z Z Z Z J J) ?_ | refine b5 Z Z (A4 Z Z Z Z) ?_
      refine a7 Z (b5 Z Z (c7 Z Z) (G7 (Gh.sub 12 6 np Z Z Z) ?_))
      refine b6 ⟨(k+1),?_,?_,⟨⟨_,Z,by rfl⟩,Z,trivial⟩,⟨⟨_,Z,by (first | rfl | (exact congrArg (λz=>Row.row _ _ z) (a0Z J)) | (exact congrArg (λz=>Row.nest _ _ z []) (a00 J Z)) | (exact congrArg (λz=>Row.row _ _ z) (by rw [a0m,List.map_set];rfl)) | (obtain rfl:i=(A6 (m.cp.getD k default).qu).length:=J;rfl))⟩,Z,Z,⟨⟨_,Z,by (first | rfl | (exact congrArg (λz=>Row.row _ _ z) (a0Z J)) | (exact congrArg (λz=>Row.nest _ _ z []) (a00 J Z)) | (exact congrArg (λz=>Row.row _ _ z) (by rw [a0m,List.map_set];rfl)) | (obtain rfl:i=(A6 (m.cp.getD k default).qu).length:=J;rfl))⟩,Z,Z,⟨⟨_,Z,by (first | rfl | (exact congrArg (λz=>Row.row _ _ z) (a0Z J)) | (exact congrArg (λz=>Row.nest _ _ z []) (a00 J Z)) | (exact congrArg (λz=>Row.row _ _ z) (by rw [a0m,List.map_set];rfl)) | (obtain rfl:i=(A6 (m.cp.getD k default).qu).length:=J;rfl))⟩,Z,Z,trivial⟩⟩⟩,Z,Z,Z⟩
      ·omega
      ·omega
  ·try rw [h1]
   try simp only [rfb] at h1
   refine Y1 (hK3 _ ?_)
   clear hK6 K6 hK3 K3
   refine d3 (λK16 hK16=>?_)
   refine b8 (a7 Z (b5 Z Z (i6 G Z Z Z Z Z Z) (a7 Z (m4 G Z Z Z Z Z Z Z Z Z Z Z (b6 (hK16 _ ?_))))))
   clear hK16 K16
   refine e6 (m8 Z Z Z Z (b4 (d6 Z ?_) (b4 (d6 Z ?_) (b4 (d6 Z ?_) (b4 (d6 Z ?_) (b4 (C6 Z ?_) f6))))))
   all_goals (first | rfl | (obtain rfl:k=m.cp.length:=J;first | rfl | (rw [b3K (Nat.le_refl _)];rfl)) | simp)
theorem b2O (m:Mach) (w:ByteArray) (l:List Int) (hs:SmallM m) (hM:a0y m=true) (hl:a1g (l9 w)=l.length) (hk:(X6 (l9 w) l).2=false):Ctr Tryz.prog 73 [.agg [.lst 2 (m.rs.map l7),.lst 1 (m.en.map j6),.lst 1 (m.ra.map j6),.nst none 4 (m.cp.map (l6 169 182))],.v (.string w),.lst 1 (l.map Rf.n8)] (.many [.v (.string (a4X m (l9 w) l).1),.v (.bool (a4X m (l9 w) l).2)]):=by
 have hG:=(maF hM).g
 have hra:=hG.ra
 have hcp:=hs.cp
 have hrl:=@a6l (λi=>m.ra.getD i default) 8
 have hkn:=c5k hk
 refine Ctr.of (n:=69) G Tryz.func73 Z a8 Z Z Z (λw0=>?_)
 refine j5 0 Z (λ_=>Z) (λu0=>?_)
 refine vm3 ?_
 refine J4 ?_
 refine zcd (λh1=>?_) (λh1=>?_)
 ·have k1:=b1o.mp h1
  have hO:=b88 (m:=m) (l:=l) k1
  refine n9 ?_
  refine b5 Z Z (a89 Z Z) ?_
  refine vm5 ?_
  refine c8 2 Z Z Z (ArgsOK.of Z) (a7l 112 m (λi=>m.ra.getD i default) (λi hi=>a96 (i:Int) m J)) Z Z ?_
  refine zcl (Y8 (raN m) (by unfold raN;omega) (b85 J)) ?_
  exact b2I
 have k1:=mt b1o.mpr h1
 refine J4 ?_
 refine zcd (λh2=>?_) (λh2=>?_)
 ·have k2:=b1p.mp h2
  refine zcl (b0E m hs hM) ?_
  refine zcd (λh3=>?_) (λh3=>?_)
  ·have hO:=b5O (l:=l) k2 h3
   exact b2I
  have hO:=b5P (l:=l) k2 h3
  exact b2I
 have k2:=mt b1p.mpr h2
 have hA:=b89 (m:=m) (l:=l) k1 k2
 have hl1:l.length=1:=c1d hl k1 k2 hkn
 refine zgd ?_
 refine zcl (D5 m (l.getD ((0:Int)).toNat default) hcp) ?_
 refine zcd (λh4=>?_) (λh4=>?_)
 ·have hO:=hA.trans (b5Q h4)
  exact b2I
 have hin:=s7.mp h4
 have hcl:(l.getD ((0:Int)).toNat default).toNat < m.cp.length:=J
 have hI:=(hG.ok _ hcl).f
 have hsn:=hI.sn
 have hpl:=a1N hI.qu
 have hnx:=@a9y m.rs (S3 m) (l.getD ((0:Int)).toNat default).toNat
 have cN:=a7n m.rs (S3 m) (l.getD ((0:Int)).toNat default).toNat (b8Z hG) (by rw [b5T];exact hcl)
 rw [Int.toNat_of_nonneg J] at cN
 refine zgn ?_
 refine p6 (j7 9 [0] mixed a8 Z Z (λr0=>?_) (λ_ h=>h))
 refine a0C ?_
 refine b0u ?_
 refine b7 (rs:=[7]) a8 Z (AllB.cons ?_ AllB.nil)
 refine f8 [0] Z Z (d8 G 2 Z Z Z Z Z (b6 ⟨Z,?_⟩))
 refine b7 (rs:=[8]) a8 Z (AllB.cons ?_ AllB.nil)
 refine f8 [0] Z Z (a6h 38 Z (λ_=>Z) λv38=>m4 G Z Z Z Z Z Z Z Z Z Z Z (b6 ⟨Z,?_⟩))
 refine H4 ?_
 refine J4 ?_
 refine zcd (λh5=>?_) (λh5=>?_)
 ·have hO:=hA.trans (b5R h4 (b1v.mp h5))
  refine n9 ?_
  refine c8 3 Z Z Z (ArgsOK.of Z) (N2 (m.cp.getD (l.getD ((0:Int)).toNat default).toNat default).qu hI.qu) Z Z ?_
  refine zcl (Y8 (A6 (m.cp.getD (l.getD ((0:Int)).toNat default).toNat default).qu) J (b9a hI.qu)) ?_
  exact b2I
 have k5:=mt b1v.mpr h5
 refine J4 ?_
 refine zcd (λh6=>?_) (λh6=>?_)
 ·have hO:=hA.trans (b5S h4 (b1w.mp h6))
  refine zcl (Y8 (m.cp.getD (l.getD ((0:Int)).toNat default).toNat default).st J (b9b hI)) ?_
  exact b2I
 have k6:=mt b1w.mpr h6
 refine J4 ?_
 refine zcd (λh7=>?_) (λh7=>?_)
 ·have hO:=hA.trans (b3S h4 (a68.mp h7))
  refine zcl (a7m (m.cp.getD (l.getD ((0:Int)).toNat default).toNat default).qu.sl hI.qu.sl) ?_
  exact b2I
 have k7:=mt a68.mpr h7
 have k8:l9 w=10:=c1e hl k1 k2 hkn k5 k6 k7
 refine zgn ?_
 refine p6 (p6 (j7 9 [0,1] mixed a8 Z Z (λr0=>?_) (λ_ h=>h)))
 refine zsa 0 ?_
 refine zsa 1 ?_
 refine zsa 2 ?_
 refine b0u ?_
 refine b7 (rs:=[3]) a8 Z (AllB.cons ?_ AllB.nil)
 refine f8 [0,1] Z Z (c8 7 Z Z Z (ArgsOK.of Z) (a4f m hG hs) Z Z (b6 ⟨Z,?_⟩))
 refine b7 (rs:=[7]) a8 Z (AllB.cons ?_ AllB.nil)
 refine f8 [0,1] Z Z (b5 Z Z (f9 Z (ArgsOK.of Z) cN Z) (b6 ⟨Z,?_⟩))
 refine zsa 8 ?_
 refine H4 ?_
 refine zcd (λh8=>?_) (λh8=>?_)
 ·have hO:=hA.trans (b1A h4 k8 h8)
  refine zcl (x9 (A9 m.rs (S3 m) (l.getD ((0:Int)).toNat default).toNat) J J) ?_
  exact b2I
 have hO:=hA.trans (b1z h4 k8 h8)
 exact b2I
theorem a4v (x:Ifc) (hn:x.st.length<=1048576) (hl:x.qu.sl.length<=1048576) (hw:x.qu.wa.length<=1048576):Ctr Tryz.prog 91 [.agg [.v (.int .i64 x.ma),.lst 1 (x.st.map Rf.n8),.lst 3 (x.qu.sl.map e9),.lst 2 (x.qu.wa.map f7)]] (.shp true [some 4] [.v (.int .i64 x.ma),.fr 3 1 (x.st.map Rf.n8),.fr 169 3 (x.qu.sl.map e9),.fr 182 2 (x.qu.wa.map f7)]):=by
 refine Ctr.of (n:=12) G Tryz.func91 Z a8 Z Z Z (λw0=>?_)
 refine j5 0 Z (λ_=>Z) (λu0=>?_)
 refine N0 ?_
 refine zgn ?_
 refine p6 (j7 10 [0] mixed a8 Z Z (λr0=>?_) (λ_ h=>h))
 refine a0C ?_
 refine zsa 5 ?_
 refine zsa 6 ?_
 refine b7 (rs:=[4]) a8 Z (AllB.cons ?_ AllB.nil)
 refine f8 [0] Z Z (c8 3 Z Z Z (ArgsOK.of Z) (E1 x.st hn) Z Z (b6 ⟨Z,?_⟩))
 refine b7 (rs:=[7]) a8 Z (AllB.cons ?_ AllB.nil)
 refine f8 [0] Z Z (c8 5 Z Z Z (ArgsOK.of Z) (a6u x.qu hl hw) Z Z (b6 ⟨Z,?_⟩))
 exact c3E
theorem a1m (m:Mach) (hM:MaG m):Ctr Tryz.prog 53 [.agg [.lst 2 (m.rs.map l7),.lst 1 (m.en.map j6),.lst 1 (m.ra.map j6),.nst none 4 (m.cp.map (l6 169 182))]] (.shp true [some 4] [.fr 83 2 (m.rs.map l7),.fr 4 1 (m.en.map j6),.fr 4 1 (m.ra.map j6),.ne 135 4 (m.cp.map (l6 169 182))]):=by
 have f1:=hM.n
 have f2:=hM.en
 have f3:=hM.ra
 have f4:=hM.rn
 refine Ctr.of (n:=38) G Tryz.func53 Z a8 Z Z Z (λw0=>?_)
 refine j5 0 Z (λ_=>Z) (λu0=>?_)
 refine N0 ?_
 refine zgn ?_
 refine p6 (j7 16 [0,1] mixed a8 Z Z (λr0=>?_) (λ_ h=>h))
 refine zsa 1 ?_
 refine zsa 2 ?_
 refine zsa 5 ?_
 refine zsa 6 ?_
 refine zsa 9 ?_
 refine zsa 10 ?_
 refine x5 (N:=7) Z (r7 (fuel:=5) [⟨0,5,2,false,.row 83 2 []⟩,⟨4,9,3,false,.row 4 1 []⟩,⟨8,13,4,false,.row 4 1 []⟩,⟨12,17,5,false,.row 135 4 []⟩,⟨14,3,6,true,.box (avR [.slice none 0 0,.slice none 0 0,.slice none 0 0,.slice none 0 0] [])⟩] (AllVOK.cons (VOK.lit G Z Z Z Z Z) (AllVOK.cons (VOK.lit G Z Z Z Z Z) (AllVOK.cons (VOK.lit G Z Z Z Z Z) (AllVOK.cons (VOK.lit G Z Z Z Z Z) (AllVOK.cons (VOK.boxS G Z Z Z Z Z) (AllVOK.nil)))))) (λhok=>?_))
 refine m5 [(3,[0])] a8 a8 (λe he=>hok e he) a8 (AllVS.cons ?_ AllVS.nil)
 refine VStep.mk1 [0,1] 5 (.own 2) 2 (.row 83 2 []) [⟨4,9,3,false,.row 4 1 []⟩,⟨8,13,4,false,.row 4 1 []⟩,⟨12,17,5,false,.row 135 4 []⟩,⟨14,3,6,true,.box (avR [.slice none 0 0,.slice none 0 0,.slice none 0 0,.slice none 0 0] [])⟩] Z Z Z Z Z (λb1 _ hbn=>j3 G O8 Z Z Z Z Z Z Z Z Z R2 Z Z (b6 Z)) a8 a8 a8 a8 (m5 [(7,[4])] a8 a8 (λe he=>hok e (vin (is:=[0]) Z he)) a8 (AllVS.cons ?_ AllVS.nil))
 refine VStep.mk1 [0,1] 9 (.own 3) 3 (.row 4 1 []) [⟨8,13,4,false,.row 4 1 []⟩,⟨12,17,5,false,.row 135 4 []⟩,⟨14,3,6,true,.box (avR [.slice none 0 0,.slice none 0 0,.slice none 0 0,.slice none 0 0] [])⟩] Z Z Z Z Z (λb1 _ hbn=>j3 G O8 Z Z Z Z Z Z Z Z Z R2 Z Z (b6 Z)) a8 a8 a8 a8 (m5 [(11,[8])] a8 a8 (λe he=>hok e (vin (is:=[0,4]) Z he)) a8 (AllVS.cons ?_ AllVS.nil))
 refine VStep.mk1 [0,1] 13 (.own 4) 4 (.row 4 1 []) [⟨12,17,5,false,.row 135 4 []⟩,⟨14,3,6,true,.box (avR [.slice none 0 0,.slice none 0 0,.slice none 0 0,.slice none 0 0] [])⟩] Z Z Z Z Z (λb1 _ hbn=>j3 G O8 Z Z Z Z Z Z Z Z Z R2 Z Z (b6 Z)) a8 a8 a8 a8 (m5 [(13,[12])] a8 a8 (λe he=>hok e (vin (is:=[0,4,8]) Z he)) a8 (AllVS.cons ?_ AllVS.nil))
 refine VStep.mk1 [0,1] 17 (.own 5) 5 (.row 135 4 []) [⟨14,3,6,true,.box (avR [.slice none 0 0,.slice none 0 0,.slice none 0 0,.slice none 0 0] [])⟩] Z Z Z Z Z (λb1 _ hbn=>b5 Z Z (w5 G Z Z Z Z) (b6 Z)) a8 a8 a8 a8 (m5 [(15,[14])] a8 a8 (λe he=>hok e (vin (is:=[0,4,8,12]) Z he)) a8 (AllVS.cons ?_ AllVS.nil))
 refine c5J ?_
 clear hok
 refine c5U ?_
 refine d9 [1,2,3] [0,1,2,3,4,6] (λ(k:Nat)=>[(4,.v (.int .i64 (k:Int)))]) (λ(k:Nat)=>[(5,some (.nest 135 4 ((m.cp.take k).map (l6 169 182)) []))]) (λ(k:Nat)=>k<=m.cp.length) (λ(k:Nat)=>m.cp.length - k) 0 Z Z ?_ ?_ ?_ ?_
 ·exact C7
 ·exact a8c
 ·exact a1k
 intro k hk
 have hkl:((m.cp.take k).map (l6 169 182)).length=k:=b9u
 refine vm4 ?_
 refine zcd (λh1=>?_) (λh1=>?_)
 ·obtain ⟨g1,g2,g3⟩:=hM.lens (k:=k) J
  exact c7P
 obtain rfl:k=m.cp.length:=J
 refine zgo ?_
 refine e6 (m8 Z Z Z Z (b4 (d6 Z ?_) (b4 (d6 Z ?_) (b4 (d6 Z ?_) (b4 (C6 Z ?_) f6)))))
 all_goals exact c5I
theorem a6x (m:Mach) (hM:MaG m):Ctr Tryz.prog 66 [.agg [.lst 2 (m.rs.map l7),.lst 1 (m.en.map j6),.lst 1 (m.ra.map j6),.nst none 4 (m.cp.map (l6 169 182))]] (.shp true [some 4] [.fr 83 2 (m.rs.map l7),.fr 4 1 (m.en.map j6),.fr 4 1 (m.ra.map j6),.ne 135 4 (m.cp.map (l6 169 182))]):=by
 have f1:=hM.n
 have f2:=hM.en
 have f3:=hM.ra
 have f4:=hM.rn
 refine Ctr.of (n:=36) G Tryz.func66 Z Y Z Z Z (λw0=>?_)
 refine j5 0 Z (λ_=>Z) (λu0=>?_)
 refine d3 (λK1 hK1=>?_)
 refine b8 (a7 Z (y9 1 Z Z Z Z Z Z Z (a7 Z (d8 G 2 Z Z Z Z Z (b6 (hK1 _ ?_))))))
 clear hK1 K1
 refine d3 (λK2 hK2=>?_)
 refine j7 16 [0,1] mixed Y Z Z (λr0=>?_) (λ_ h=>h)
 refine d4 1 Z Y Y Z Z Z Z (m9 G Z Z Z Z) (d4 2 Z Y Y Z Z Z Z (a5M (o7 G Z Z Z Z Z Z Z)) (d4 5 Z Y Y Z Z Z Z (m9 G Z Z Z Z) (d4 6 Z Y Y Z Z Z Z (a5M (o7 G Z Z Z Z Z Z Z)) (d4 9 Z Y Y Z Z Z Z (m9 G Z Z Z Z) (d4 10 Z Y Y Z Z Z Z (a5M (o7 G Z Z Z Z Z Z Z)) ?_)))))
 refine x5 (N:=7) Z (r7 (fuel:=5) [⟨0,6,2,false,.row 83 2 []⟩,⟨4,10,3,false,.row 4 1 []⟩,⟨8,14,4,false,.row 4 1 []⟩,⟨12,18,5,false,.row 135 4 []⟩,⟨14,3,6,true,.box (avR [.slice none 0 0,.slice none 0 0,.slice none 0 0,.slice none 0 0] [])⟩] (AllVOK.cons (VOK.lit G Z Z Z Z Z) (AllVOK.cons (VOK.lit G Z Z Z Z Z) (AllVOK.cons (VOK.lit G Z Z Z Z Z) (AllVOK.cons (VOK.lit G Z Z Z Z Z) (AllVOK.cons (VOK.boxS G Z Z Z Z Z) (AllVOK.nil)))))) (λhok=>?_))
 refine m5 [(3,[0])] Y Y (λe he=>hok e he) Y (AllVS.cons ?_ AllVS.nil)
 refine VStep.mk1 [0,1] 6 (.own 2) 2 (.row 83 2 []) [⟨4,10,3,false,.row 4 1 []⟩,⟨8,14,4,false,.row 4 1 []⟩,⟨12,18,5,false,.row 135 4 []⟩,⟨14,3,6,true,.box (avR [.slice none 0 0,.slice none 0 0,.slice none 0 0,.slice none 0 0] [])⟩] Z Z Z Z Z (λb1 _ hbn=>j3 G (by rw [hbn];exact Nat.le_of_ble_eq_true Z) Z Z Z Z Z Z Z Z Z (by first | (simp only [List.length_map,List.length_cons,List.length_nil];omega) | (simp;omega)) Z Z (b6 Z)) Y Y Y Y ?_
 refine m5 [(7,[4])] Y Y (λe he=>hok e (vin (is:=[0]) Z he)) Y (AllVS.cons ?_ AllVS.nil)
 refine VStep.mk1 [0,1] 10 (.own 3) 3 (.row 4 1 []) [⟨8,14,4,false,.row 4 1 []⟩,⟨12,18,5,false,.row 135 4 []⟩,⟨14,3,6,true,.box (avR [.slice none 0 0,.slice none 0 0,.slice none 0 0,.slice none 0 0] [])⟩] Z Z Z Z Z (λb1 _ hbn=>j3 G (by rw [hbn];exact Nat.le_of_ble_eq_true Z) Z Z Z Z Z Z Z Z Z (by first | (simp only [List.length_map,List.length_cons,List.length_nil];omega) | (simp;omega)) Z Z (b6 Z)) Y Y Y Y ?_
 refine m5 [(11,[8])] Y Y (λe he=>hok e (vin (is:=[0,4]) Z he)) Y (AllVS.cons ?_ AllVS.nil)
 refine VStep.mk1 [0,1] 14 (.own 4) 4 (.row 4 1 []) [⟨12,18,5,false,.row 135 4 []⟩,⟨14,3,6,true,.box (avR [.slice none 0 0,.slice none 0 0,.slice none 0 0,.slice none 0 0] [])⟩] Z Z Z Z Z (λb1 _ hbn=>j3 G (by rw [hbn];exact Nat.le_of_ble_eq_true Z) Z Z Z Z Z Z Z Z Z (by first | (simp only [List.length_map,List.length_cons,List.length_nil];omega) | (simp;omega)) Z Z (b6 Z)) Y Y Y Y ?_
 refine m5 [(13,[12])] Y Y (λe he=>hok e (vin (is:=[0,4,8]) Z he)) Y (AllVS.cons ?_ AllVS.nil)
 refine VStep.mk1 [0,1] 18 (.own 5) 5 (.row 135 4 []) [⟨14,3,6,true,.box (avR [.slice none 0 0,.slice none 0 0,.slice none 0 0,.slice none 0 0] [])⟩] Z Z Z Z Z (λb1 _ hbn=>b5 Z Z (w5 G Z Z Z Z) (b6 Z)) Y Y Y Y ?_
 refine m5 [(15,[14])] Y Y (λe he=>hok e (vin (is:=[0,4,8,12]) Z he)) Y (AllVS.cons ?_ AllVS.nil)
 refine VStep.mk1 [0,1] 3 (.ptr 6 0) 6 (.box (avR [.slice none 0 0,.slice none 0 0,.slice none 0 0,.slice none 0 0] [])) [] Z Z Z Z Z (λb1 _ hbn=>m4 G Z Z Z Z Z Z Z Z Z Z Z (b6 Z)) Y Y Y Y (D0 ?_)
 clear hok
 refine a3a (Gh.nest (id:=5) (yss:=[]) Z Z (by intro _ _ _ h;simp at h)) (C4 Y (hK2 _ ?_))
 clear hK2 K2
 refine d3 (λK3 hK3=>?_)
 refine d3 (λK4 hK4=>?_)
 refine b8 (a7 Z (b5 Z Z (m9 G Z Z Z Z) (a7 Z (b5 Z Z (b7L (o7 G Z Z Z Z Z Z Z)) (a7 Z ?_)))))
 first | refine b5 Z Z (T7 G Z Z Z Z (List.length_map _)) ?_ | refine b5 Z Z (a1o G Z Z Z Z) ?_
 refine a7 Z (b5 Z Z (c7 Z Z) (b6 (hK4 _ ?_)))
 clear hK4 K4
 refine r4 ?_
 refine d9 [2,3,21,22] [1,2,3,4,6] (λ(k:Nat)=>[(23,.v (.int .i64 (k:Int)))]) (λ(k:Nat)=>[(5,some (.nest 135 4 ((m.cp.take k).map (l6 169 182)) []))]) (λ(k:Nat)=>k<=m.cp.length) (λ(k:Nat)=>m.cp.length - k) 0 Z Z ?_ ?_ ?_ ?_
 ·exact C7
 ·exact a8c
 ·exact a1k
 ·intro k hk
  have hkl:((m.cp.take k).map (l6 169 182)).length=k:=(by rw [List.length_map,List.length_take];omega)
  simp only [List.cons_append,List.nil_append]
  refine d3 (λK5 hK5=>?_)
  refine b8 (a7 Z (b5 Z Z (B3 Z Z Z Z) (b6 (hK5 _ ?_))))
  clear hK5 K5
  refine d3 (λK6 hK6=>?_)
  refine m6 Z (λh1=>?_) (λh1=>?_)
  ·try rw [h1]
   try simp only [rfb] at h1
   obtain ⟨g1,g2,g3⟩:=hM.lens (k:=k) J
   refine s3 (hK6 _ ?_)
   clear hK6 K6
   refine d3 (λK7 hK7=>?_)
   refine r4 ?_
   refine d3 (λK8 hK8=>?_)
   refine b8 (a7 Z ?_)
   first | refine b5 Z Z (B9 G Z Z Z Z J (a1r J) Z) ?_ | refine b5 Z Z (B9 G Z Z Z Z J (V9 J J) Z) ?_ | refine b5 Z Z (B9 G Z Z Z Z J (x7 J J) Z) ?_
   refine a7 Z (b5 Z Z (K0 G Z Z Z Z) (a7 Z (d8 G 8 Z Z Z Z Z (a7 Z (a6h 26 Z (λ_=>Z) λv26=>m4 G Z Z Z Z Z Z Z Z Z Z Z (b6 (hK8 _ ?_)))))))
   clear hK8 K8
   apply x8 [2,3,21,22,23] [1,2,3,4,6,12] 13 8 [1,2,3,4,7] mixed Y Z Z hK7
   ·intro r0
    refine d4 0 Z Y Y Z Z Z Z (m9 G Z Z Z Z) (d4 2 Z Y Y Z Z Z Z (i6 G Z Z Z Z Z Z) ?_)
    refine b7 (rs:=[1,3]) Y Z (AllB.cons ?_ (AllB.cons ?_ AllB.nil))
    ·refine g8 [1,2,3,4,7] Z Z (b5 Z Z (o7 G Z Z Z Z Z Z Z) (b6 ⟨Z,?_⟩))
     refine b7 (rs:=[3]) Y Z (AllB.cons ?_ AllB.nil)
     refine g8 [1,2,3,4,7] Z Z (c8 11 Z Z Z (ArgsOK.of Z) (A2 (m.cp.getD k default) J J J) Z Z (b6 ⟨Z,?_⟩))
     exact c3Y
    ·refine g8 [1,2,3,4,7] Z Z (c8 11 Z Z Z (ArgsOK.of Z) (A2 (m.cp.getD k default) J J J) Z Z (b6 ⟨Z,?_⟩))
     refine b7 (rs:=[1,4]) Y Z (AllB.cons ?_ (AllB.cons ?_ AllB.nil))
     ·refine g8 [1,2,3,4,7] Z Z (b5 Z Z (o7 G Z Z Z Z Z Z Z) (b6 ⟨Z,?_⟩))
      exact c3Y
     ·refine g8 [1,2,3,4,7] Z Z (A8 G 12 Z Z Z Z Z Z Z Z (.v Z (.own Z (.own Z (.own Z .nil)))) Z Z Z Z (b6 ⟨Z,?_⟩))
      refine b7 (rs:=[1]) Y Z (AllB.cons ?_ AllB.nil)
      refine g8 [1,2,3,4,7] Z Z (b5 Z Z (o7 G Z Z Z Z Z Z Z) (b6 ⟨Z,?_⟩))
      exact c3w
   ·clear hK7 K7
    refine b8 (a7 Z ?_)
    first | refine b5 Z Z (v6 Z Z Z Z J J) ?_ | refine b5 Z Z (A4 Z Z Z Z) ?_
    refine a7 Z (b5 Z Z (c7 Z Z) (G7 (Gh.sub 12 5 np Z Z Z) ?_))
    refine b6 ⟨(k+1),?_,?_,⟨⟨_,Z,by rfl⟩,Z,trivial⟩,⟨⟨_,Z,by (exact congrArg (λz=>Row.nest _ _ z []) (b1i J Z))⟩,Z,Z,trivial⟩,Z,Z,Z⟩
    ·omega
    ·omega
  ·try rw [h1]
   try simp only [rfb] at h1
   obtain rfl:k=m.cp.length:=J
   refine Y1 (hK3 _ ?_)
   clear hK6 K6 hK3 K3
   refine d3 (λK9 hK9=>?_)
   refine b8 (a7 Z (b5 Z Z (i6 G Z Z Z Z Z Z) (a7 Z (m4 G Z Z Z Z Z Z Z Z Z Z Z (b6 (hK9 _ ?_))))))
   clear hK9 K9
   refine e6 (m8 Z Z Z Z (b4 (d6 Z ?_) (b4 (d6 Z ?_) (b4 (d6 Z ?_) (b4 (C6 Z ?_) f6)))))
   all_goals (first | rfl | (rw [List.take_length];done) | (rw [List.take_length];rfl) | simp)
theorem a6y (s:ByteArray) (k:Int) (hs:s.size<=1048576) (hk:0<=k) (hk2:k<=1000000):Ctr Tryz.prog 133 [.v (.string s),.v (.int .i64 k)] (.many [.v (b29 (rrE s k)),.v (.int .i64 (rrN s k)),.v (.bool (okL s k))]):=by
 have a1:=a0j (s:=s) (c:=10)
 have a2:=a0j (s:=l1 s 10) (c:=35)
 have a3:=a27 (s:=l1 (l1 s 10) 35) (c:=32)
 have a4:=a0j (s:=r6 (l1 (l1 s 10) 35) 32) (c:=64)
 have a5:=a27 (s:=r6 (l1 (l1 s 10) 35) 32) (c:=64)
 have hxs:(riE (l1 s 10)).c.size<=9223372036854775807/\(riE (l1 s 10)).r.size<=9223372036854775807:=(by have a6:=b7A (s:=l1 s 10);exact ⟨Nat.le_trans a6.1 J,Nat.le_trans a6.2 J⟩)
 refine Ctr.of (n:=71) G Tryz.func133 Z Y Z Z Z (λw0=>?_)
 refine d3 (λK1 hK1=>?_)
 refine b8 (a7 Z (d8 G 1 Z Z Z Z Z (a7 Z (b5 Z Z (c6 Z Z) (a7 Z (b5 Z Z (c6 Z Z) (b6 (hK1 _ ?_))))))))
 clear hK1 K1
 refine d3 (λK2 hK2=>?_)
 refine b8 (a7 Z (b5 Z Z (c7 Z Z) (a7 Z (b5 Z Z (f9 Z (ArgsOK.of Z) (V4 s 10 10 Z J) Z) (a7 Z (b5 Z Z (c7 Z Z) (a7 Z (b5 Z Z (j8 Z Z Z) (a7 Z (b5 Z Z (j8 Z Z Z) (a7 Z (b5 Z Z (j8 Z Z Z) (a7 Z (b5 Z Z (c6 Z Z) (a7 Z (b5 Z Z (c6 Z Z) (a7 Z (b5 Z Z (c6 Z Z) (b6 (hK2 _ ?_))))))))))))))))))))
 clear hK2 K2
 refine d3 (λK3 hK3=>?_)
 refine b8 (a7 Z (b5 Z Z (c7 Z Z) (a7 Z (b5 Z Z (f9 Z (ArgsOK.of Z) (V4 (l1 s 10) 35 35 Z J) Z) (a7 Z (b5 Z Z (c7 Z Z) (a7 Z (b5 Z Z (j8 Z Z Z) (a7 Z (b5 Z Z (j8 Z Z Z) (a7 Z (b5 Z Z (j8 Z Z Z) (a7 Z (b5 Z Z (c6 Z Z) (a7 Z (b5 Z Z (c6 Z Z) (a7 Z (b5 Z Z (c6 Z Z) (b6 (hK3 _ ?_))))))))))))))))))))
 clear hK3 K3
 refine d3 (λK4 hK4=>?_)
 refine b8 (a7 Z (b5 Z Z (c7 Z Z) (a7 Z (b5 Z Z (f9 Z (ArgsOK.of Z) (V4 (l1 (l1 s 10) 35) 32 32 Z J) Z) (a7 Z (b5 Z Z (c7 Z Z) (a7 Z (b5 Z Z (j8 Z Z Z) (a7 Z (b5 Z Z (j8 Z Z Z) (a7 Z (b5 Z Z (j8 Z Z Z) (a7 Z (b5 Z Z (c6 Z Z) (a7 Z (b5 Z Z (c6 Z Z) (a7 Z (b5 Z Z (c6 Z Z) (b6 (hK4 _ ?_))))))))))))))))))))
 clear hK4 K4
 refine d3 (λK5 hK5=>?_)
 refine b8 (a7 Z (b5 Z Z (c7 Z Z) (a7 Z (b5 Z Z (f9 Z (ArgsOK.of Z) (V4 (r6 (l1 (l1 s 10) 35) 32) 64 64 Z J) Z) (a7 Z (b5 Z Z (c7 Z Z) (a7 Z (b5 Z Z (j8 Z Z Z) (a7 Z (b5 Z Z (j8 Z Z Z) (a7 Z (b5 Z Z (j8 Z Z Z) (a7 Z (b5 Z Z (c6 Z Z) (a7 Z (b5 Z Z (c6 Z Z) (a7 Z (b5 Z Z (c6 Z Z) (b6 (hK5 _ ?_))))))))))))))))))))
 clear hK5 K5
 rw [← c6q,← c6r]
 refine d3 (λK6 hK6=>?_)
 refine b8 (a7 Z (b5 Z Z (c7 Z Z) (a7 Z (b5 Z Z (c7 Z Z) (a7 Z (b5 Z Z (w5 G Z Z Z Z) (a7 Z (d8 G 2 Z Z Z Z Z (a7 Z (m4 G Z Z Z Z Z Z Z Z Z Z Z (b6 (hK6 _ ?_))))))))))))
 clear hK6 K6
 refine d3 (λK7 hK7=>?_)
 refine d3 (λK8 hK8=>?_)
 refine b8 (a7 Z (b5 Z Z (c7 Z Z) (a7 Z (b5 Z Z (a2T Z Z) (a7 Z (b5 Z Z (c7 Z Z) (A3 Z Z Z (λh1=>?_) (λh1=>?_))))))))
 ·try rw [h1]
  try simp only [rfb] at h1
  have hO:=b48 (s:=s) (k:=k) (by rw [b3d hk,riK];simp [h1])
  refine l5 Z Z Z Z Z Z (l5 Z Z Z Z Z Z (a7 Z (b5 Z Z (A0 Z Z Z) (a7 Z (b5 Z Z (c7 Z Z) (l5 Z Z Z Z Z Z (l5 Z Z Z Z Z Z (l5 Z Z Z Z Z Z (a7 Z (b5 Z Z (A0 Z Z Z) (a7 Z (b5 Z Z (c7 Z Z) (l5 Z Z Z Z Z Z (l5 Z Z Z Z Z Z (l5 Z Z Z Z Z Z (l5 Z Z Z Z Z Z (l5 Z Z Z Z Z Z (l5 Z Z Z Z Z Z (a7 Z (b5 Z Z (A0 Z Z Z) (b6 (hK8 _ ?_))))))))))))))))))))))
  clear hK8 K8
  refine J9 Z ?_
  refine d3 (λK9 hK9=>?_)
  refine b8 (a7 Z (b5 Z Z (w5 G Z Z Z Z) (a7 Z (m4 G Z Z Z Z Z Z Z Z Z Z Z (a7 Z (b5 Z Z (c6 Z Z) (a7 Z (b5 Z Z (c6 Z Z) (b6 (hK9 _ ?_))))))))))
  clear hK9 K9
  exact c1D
 ·try rw [h1]
  try simp only [rfb] at h1
  refine o8 Z Z Z (b5 Z Z (c7 Z Z) (o8 Z Z Z (b5 Z Z (B3 Z Z Z Z) (a7 Z (b5 Z Z (x6 Z Z Z) (a7 Z (b5 Z Z (c7 Z Z) (A3 Z Z Z (λh2=>?_) (λh2=>?_)))))))))
  ·try rw [h2]
   try simp only [rfb] at h2
   have d2:decide (k < 60)=false:=decide_eq_false J
   have hO:=b48 (s:=s) (k:=k) (by rw [b3d hk,riK];simp [h1,d2])
   refine l5 Z Z Z Z Z Z (l5 Z Z Z Z Z Z (l5 Z Z Z Z Z Z (a7 Z (b5 Z Z (A0 Z Z Z) (a7 Z (b5 Z Z (c7 Z Z) (l5 Z Z Z Z Z Z (l5 Z Z Z Z Z Z (l5 Z Z Z Z Z Z (l5 Z Z Z Z Z Z (l5 Z Z Z Z Z Z (l5 Z Z Z Z Z Z (a7 Z (b5 Z Z (A0 Z Z Z) (b6 (hK8 _ ?_))))))))))))))))
   clear hK8 K8
   refine J9 Z ?_
   refine d3 (λK10 hK10=>?_)
   refine b8 (a7 Z (b5 Z Z (w5 G Z Z Z Z) (a7 Z (m4 G Z Z Z Z Z Z Z Z Z Z Z (a7 Z (b5 Z Z (c6 Z Z) (a7 Z (b5 Z Z (c6 Z Z) (b6 (hK10 _ ?_))))))))))
   clear hK10 K10
   exact c1D
  ·try rw [h2]
   try simp only [rfb] at h2
   have d2:decide (k < 60)=true:=decide_eq_true J
   refine o8 Z Z Z (b5 Z Z (i6 G Z Z Z Z Z Z) (o8 Z Z Z (b5 Z Z (f9 Z (ArgsOK.of Z) (H7 (riE (l1 s 10)) hxs) Z) ?_)))
   refine o8 Z Z Z (b5 Z Z (a2T Z Z) (a7 Z (b5 Z Z (x6 Z Z Z) (a7 Z (b5 Z Z (c7 Z Z) (A3 Z Z Z (λh3=>?_) (λh3=>?_)))))))
   ·try rw [h3]
    try simp only [rfb] at h3
    have hO:=b48 (s:=s) (k:=k) (by rw [b3d hk,riK];simp [h1,d2,h3])
    refine l5 Z Z Z Z Z Z (l5 Z Z Z Z Z Z (l5 Z Z Z Z Z Z (l5 Z Z Z Z Z Z (l5 Z Z Z Z Z Z (l5 Z Z Z Z Z Z (a7 Z (b5 Z Z (A0 Z Z Z) (b6 (hK8 _ ?_)))))))))
    clear hK8 K8
    refine J9 Z ?_
    refine d3 (λK11 hK11=>?_)
    refine b8 (a7 Z (b5 Z Z (w5 G Z Z Z Z) (a7 Z (m4 G Z Z Z Z Z Z Z Z Z Z Z (a7 Z (b5 Z Z (c6 Z Z) (a7 Z (b5 Z Z (c6 Z Z) (b6 (hK11 _ ?_))))))))))
    clear hK11 K11
    exact c1D
   ·try rw [h3]
    try simp only [rfb] at h3
    refine o8 Z Z Z (b5 Z Z (c7 Z Z) (o8 Z Z Z (b5 Z Z (i6 G Z Z Z Z Z Z) (o8 Z Z Z (b5 Z Z (f9 Z (ArgsOK.of Z) (Z5 k (riE (l1 s 10)) J J (by assumption)) Z) (o8 Z Z Z (b5 Z Z (c7 Z Z) (o8 Z Z Z (b5 Z Z (F5 Z Z Z (by (try simp only [ByteArray.size_append,r8,List.size_toArray,List.length_cons,List.length_nil]);omega)) (o8 Z Z Z (b5 Z Z (u4 Z Z Z Z) (a7 Z (b5 Z Z (x6 Z Z Z) (b6 (hK8 _ ?_)))))))))))))))
    clear hK8 K8
    refine m6 Z (λh4=>?_) (λh4=>?_)
    ·try rw [h4]
     try simp only [rfb] at h4
     have hO:=b48 (s:=s) (k:=k) (by rw [b3d hk,riK];simp [h1,d2,h3,h4])
     refine d3 (λK12 hK12=>?_)
     refine b8 (a7 Z (b5 Z Z (w5 G Z Z Z Z) (a7 Z (m4 G Z Z Z Z Z Z Z Z Z Z Z (a7 Z (b5 Z Z (c6 Z Z) (a7 Z (b5 Z Z (c6 Z Z) (b6 (hK12 _ ?_))))))))))
     clear hK12 K12
     exact c1D
    ·try rw [h4]
     try simp only [rfb] at h4
     have hO:=c6s (s:=s) (k:=k) hk (by rw [b3d hk,riK];simp [h1,d2,h3,h4])
     refine s3 (hK7 _ ?_)
     clear hK7 K7
     refine d3 (λK13 hK13=>?_)
     refine b8 (a7 Z (b5 Z Z (i6 G Z Z Z Z Z Z) (a7 Z (b5 Z Z (c7 Z Z) (a7 Z (b5 Z Z (o9 G Z Z Z) (a7 Z ?_)))))))
     first | refine b5 Z Z (v6 Z Z Z Z J J) ?_ | refine b5 Z Z (A4 Z Z Z Z) ?_
     refine a7 Z (m4 G Z Z Z Z Z Z Z Z Z Z Z (a7 Z (b5 Z Z (c6 Z Z) (a7 Z (b5 Z Z (c6 Z Z) (b6 (hK13 _ ?_)))))))
     clear hK13 K13
     refine e6 (p8 Z Z Z Z (b4 (a08 Z ?_) (b4 (l3 ?_) (b4 (l3 ?_) f6))))
     all_goals (first | (rw [hO.1];rfl) | (rw [hO.2.1];rfl) | (rw [hO.2.1];done) | (rw [hO.2.2];rfl) | (rw [hO.2.2];done))
theorem a3H (s:ByteArray) (hs:s.size<=1048576):Ctr Tryz.prog 87 [.v (.string s)] (.many [.fr 63 2 ((pre (a7Z s) (v8 s)).map a7L),.v (.int .i64 (O9 s (v8 s)))]):=by
 refine Ctr.of (n:=52) G Tryz.func87 Z Y Z Z Z (λw0=>?_)
 refine d3 (λK1 hK1=>?_)
 refine b8 (a7 Z (b5 Z Z (c6 Z Z) (a7 Z (b5 Z Z (c6 Z Z) (b6 (hK1 _ ?_))))))
 clear hK1 K1
 refine d3 (λK2 hK2=>?_)
 refine b8 (a7 Z (s4 G 1 Z Z Z Z Z Z Z Z (a7 Z (b5 Z Z (c6 Z Z) (b6 (hK2 _ ?_))))))
 clear hK2 K2
 refine d3 (λK3 hK3=>?_)
 refine b8 (a7 Z (b5 Z Z (c6 Z Z) (b6 (hK3 _ ?_))))
 clear hK3 K3
 refine d3 (λK4 hK4=>?_)
 refine r4 ?_
 refine d9 [0] [] (λ(n:Nat)=>[(4,.own 0),(5,.v (.int .i64 (O9 s n)))]) (λ(n:Nat)=>[(0,some (.row 63 2 ((pre (a7Z s) n).map a7L)))]) (λ(n:Nat)=>∀j,j < n→okN s j=true) (λ(n:Nat)=>60 - n) 0 Z Z ?_ ?_ ?_ ?_
 ·exact λj hj=>by omega
 ·exact a0e
 ·exact a1k
 ·intro n hinv
  have hp:=b1R hinv
  have hpi:O9 s n=(A5 s n:Int):=rfl
  obtain ⟨hs1,hs2⟩:=Q0 (s:=C0 s n) (b:=10)
  have hl1:=G6 (s:=C0 s n) (b:=10)
  have hre:(C0 s n).size<=s.size:=b1S
  have hll:(I4 s n).size<=(C0 s n).size:=a0j
  have hln:(e7 (C0 s n) 10).getD ((0:Int)).toNat default=I4 s n:=hs1
  have hlz:((e7 (C0 s n) 10).getD ((0:Int)).toNat default).size<=(C0 s n).size:=(by rw [hln];omega)
  have hpl:((pre (a7Z s) n).length:Int)=n:=(by simp [P8])
  simp only [List.cons_append,List.nil_append]
  refine d3 (λK5 hK5=>?_)
  refine d3 (λK6 hK6=>?_)
  refine b8 (a7 Z (b5 Z Z (c7 Z Z) (a7 Z (b5 Z Z (c7 Z Z) (a7 Z (b5 Z Z (o9 G Z Z Z) (a7 Z (b5 Z Z (B3 Z Z Z Z) (a7 Z (b5 Z Z (c7 Z Z) (A3 Z Z Z (λh1=>?_) (λh1=>?_))))))))))))
  ·try rw [h1]
   try simp only [rfb] at h1
   refine o8 Z Z Z (b5 Z Z (c7 Z Z) (o8 Z Z Z ?_))
   first | refine b5 Z Z (T7 G Z Z Z Z (List.length_map _)) ?_ | refine b5 Z Z (a1o G Z Z Z Z) ?_
   refine o8 Z Z Z (b5 Z Z (B3 Z Z Z Z) (a7 Z (b5 Z Z (A0 Z Z Z) (b6 (hK6 _ ?_)))))
   clear hK6 K6
   refine m6 Z (λh2=>?_) (λh2=>?_)
   ·try rw [h2]
    try simp only [rfb] at h2
    refine s3 (hK5 _ ?_)
    clear hK5 K5
    refine r4 ?_
    refine d3 (λK7 hK7=>?_)
    refine b8 (a7 Z (b5 Z Z (c7 Z Z) (a7 Z (b5 Z Z (c7 Z Z) (a7 Z (b5 Z Z (H9 G Z Z Z Z Z J J J) (a7 Z (c8 2 Z Z Z (ArgsOK.of Z) (H8 _ 10 (Nat.le_trans b1S hs)) Z Z (a7 Z (b5 Z Z (c6 Z Z) (b6 (hK7 _ ?_))))))))))))
    clear hK7 K7
    rw [b3e]
    refine d3 (λK8 hK8=>?_)
    refine b8 (a7 Z (b5 Z Z (c7 Z Z) (a7 Z ?_)))
    first | refine b5 Z Z (b9 G Z Z Z Z Z J (by simp;omega)) ?_ | refine b5 Z Z (b9 G Z Z Z Z Z J J) ?_
    refine a7 Z (b5 Z Z (i7 G Z Z Z Z Z (x7 J (by simp;omega)) Z) (a7 Z (b5 Z Z (c7 Z Z) (a7 Z ?_))))
    first | refine b5 Z Z (T7 G Z Z Z Z (List.length_map _)) ?_ | refine b5 Z Z (a1o G Z Z Z Z) ?_
    refine a7 Z (b5 Z Z (f9 Z (ArgsOK.of Z) (a98 _ _ (by rw [hln];omega) J J) Z) (a7 Z (b5 Z Z (c7 Z Z) (a7 Z (b5 Z Z (j8 Z Z Z) (a7 Z (b5 Z Z (j8 Z Z Z) (a7 Z (d8 G 3 Z Z Z Z Z (a7 Z (m4 G Z Z Z Z Z Z Z Z Z Z Z (a7 Z (b5 Z Z (c6 Z Z) (b6 (hK8 _ ?_)))))))))))))))
    clear hK8 K8
    rw [hln,hpl]
    refine d3 (λK9 hK9=>?_)
    refine d3 (λK10 hK10=>?_)
    refine b8 (a7 Z (b5 Z Z (c7 Z Z) (a7 Z ?_)))
    first | refine b5 Z Z (T7 G Z Z Z Z (List.length_map _)) ?_ | refine b5 Z Z (a1o G Z Z Z Z) ?_
    refine a7 Z (b5 Z Z (B3 Z Z Z Z) (a7 Z (b5 Z Z (c7 Z Z) (A3 Z Z Z (λh3=>?_) (λh3=>?_)))))
    ·try rw [h3]
     try simp only [rfb] at h3
     have hN:=a2i hinv (c4e J)
     refine l5 Z Z Z Z Z Z (l5 Z Z Z Z Z Z (a7 Z (b5 Z Z (A0 Z Z Z) (b6 (hK10 _ ?_)))))
     clear hK10 K10
     refine J9 Z (Y1 (hK4 _ ?_))
     clear hK9 K9 hK4 K4
     refine d3 (λK11 hK11=>?_)
     refine b8 (a7 Z (b5 Z Z (c7 Z Z) (a7 Z (b5 Z Z (c7 Z Z) (a7 Z (b5 Z Z (c6 Z Z) (a7 Z (b5 Z Z (c6 Z Z) (b6 (hK11 _ ?_))))))))))
     clear hK11 K11
     exact b51
    ·try rw [h3]
     try simp only [rfb] at h3
     refine o8 Z Z Z (b5 Z Z (c7 Z Z) (o8 Z Z Z (b5 Z Z (a2T Z Z) (a7 Z (b5 Z Z (x6 Z Z Z) (b6 (hK10 _ ?_)))))))
     clear hK10 K10
     refine m6 Z (λh4=>?_) (λh4=>?_)
     ·try rw [h4]
      try simp only [rfb] at h4
      have hN:=a2i hinv (c4f h4)
      refine Y1 (hK4 _ ?_)
      clear hK9 K9 hK4 K4
      refine d3 (λK12 hK12=>?_)
      refine b8 (a7 Z (b5 Z Z (c7 Z Z) (a7 Z (b5 Z Z (c7 Z Z) (a7 Z (b5 Z Z (c6 Z Z) (a7 Z (b5 Z Z (c6 Z Z) (b6 (hK12 _ ?_))))))))))
      clear hK12 K12
      exact b51
     ·try rw [h4]
      try simp only [rfb] at h4
      have hok:=c6t (s:=s) (n:=n) J J h4
      refine s3 (hK9 _ ?_)
      clear hK9 K9
      refine d3 (λK13 hK13=>?_)
      refine b8 (a7 Z (b5 Z Z (c7 Z Z) (a7 Z (b5 Z Z (i6 G Z Z Z Z Z Z) (a7 Z (s4 G 4 Z Z Z Z Z Z Z Z (a7 Z (j3 G np Z Z Z Z Z Z Z Z Z (by simp [P8];omega) Z Z (a7 Z (b5 Z Z (c6 Z Z) (b6 (hK13 _ ?_))))))))))))
      clear hK13 K13
      refine b8 (a7 Z (b5 Z Z (c7 Z Z) (a7 Z (b5 Z Z (c7 Z Z) (a7 Z ?_)))))
      first | refine b5 Z Z (b9 G Z Z Z Z Z J (by simp;omega)) ?_ | refine b5 Z Z (b9 G Z Z Z Z Z J J) ?_
      refine a7 Z (b5 Z Z (i7 G Z Z Z Z Z (x7 J (by simp;omega)) Z) (a7 Z (b5 Z Z (o9 G Z Z Z) (a7 Z ?_))))
      first | refine b5 Z Z (v6 Z Z Z Z J J) ?_ | refine b5 Z Z (A4 Z Z Z Z) ?_
      refine a7 Z ?_
      first | refine b5 Z Z (v6 Z Z Z Z J J) ?_ | refine b5 Z Z (A4 Z Z Z Z) ?_
      refine a7 Z (b5 Z Z (c6 Z Z) ?_)
      refine b6 ⟨(n+1),?_,?_,⟨⟨_,Z,by (first | exact (rfl:AV.own 0=AV.own 0) | (rw [hln,b00 (s:=s) (n:=n)];done))⟩,Z,⟨⟨_,Z,by (first | exact (rfl:AV.own 0=AV.own 0) | (rw [hln,b00 (s:=s) (n:=n)];done))⟩,Z,trivial⟩⟩,⟨⟨_,Z,by (exact congrArg (Row.row _ _) (a23 (g:=a7Z s) (f:=a7L) (i:=n)))⟩,Z,Z,trivial⟩,Z,Z,Z⟩
      ·exact n7 hinv hok
      ·omega
   ·try rw [h2]
    try simp only [rfb] at h2
    have hN:=a2i hinv (c4d J)
    refine Y1 (hK4 _ ?_)
    clear hK5 K5 hK4 K4
    refine d3 (λK14 hK14=>?_)
    refine b8 (a7 Z (b5 Z Z (c7 Z Z) (a7 Z (b5 Z Z (c7 Z Z) (a7 Z (b5 Z Z (c6 Z Z) (a7 Z (b5 Z Z (c6 Z Z) (b6 (hK14 _ ?_))))))))))
    clear hK14 K14
    exact b51
  ·try rw [h1]
   try simp only [rfb] at h1
   have hN:=a2i hinv (b7B J)
   refine l5 Z Z Z Z Z Z (l5 Z Z Z Z Z Z (l5 Z Z Z Z Z Z (a7 Z (b5 Z Z (x6 Z Z Z) (b6 (hK6 _ ?_))))))
   clear hK6 K6
   refine J8 Z (Y1 (hK4 _ ?_))
   clear hK5 K5 hK4 K4
   refine d3 (λK15 hK15=>?_)
   refine b8 (a7 Z (b5 Z Z (c7 Z Z) (a7 Z (b5 Z Z (c7 Z Z) (a7 Z (b5 Z Z (c6 Z Z) (a7 Z (b5 Z Z (c6 Z Z) (b6 (hK15 _ ?_))))))))))
   clear hK15 K15
   exact b51
theorem a49 (s:ByteArray) (hs:s.size<=1048576):Ctr Tryz.prog 89 [.v (.string s)] (.many [.fr 63 2 ((pre (a7Z s) (v8 s)).map a7L),.fr 3 1 ((pre (O9 s) (v8 s+1)).map Rf.n8)]):=by
 refine Ctr.of (n:=37) G Tryz.func89 Z Y Z Z Z (λw0=>?_)
 refine d3 (λK1 hK1=>?_)
 refine b8 (a7 Z (b5 Z Z (c6 Z Z) (a7 Z (b5 Z Z (c6 Z Z) (b6 (hK1 _ ?_))))))
 clear hK1 K1
 refine d3 (λK2 hK2=>?_)
 refine b8 (a7 Z (s4 G 1 Z Z Z Z Z Z Z Z (a7 Z (s4 G 2 Z Z Z Z Z Z Z Z (a7 Z (b5 Z Z (c6 Z Z) (a7 Z (b5 Z Z (c6 Z Z) (a7 Z (b5 Z Z (c6 Z Z) (b6 (hK2 _ ?_))))))))))))
 clear hK2 K2
 refine r4 ?_
 refine d9 [0] [] (λ(n:Nat)=>[(4,.own 0),(5,.own 1),(6,.v (.int .i64 (O9 s n)))]) (λ(n:Nat)=>[(0,some (.row 63 2 ((pre (a7Z s) n).map a7L))),(1,some (.row 3 1 ((pre (O9 s) (n+1)).map Rf.n8)))]) (λ(n:Nat)=>∀j,j < n→okN s j=true) (λ(n:Nat)=>61 - n) 0 Z Z ?_ ?_ ?_ ?_
 ·exact λj hj=>by omega
 ·exact c3n
 ·exact b7e
 ·intro n hinv
  have hp:=b1R hinv
  have hpi:O9 s n=(A5 s n:Int):=rfl
  have hre:(C0 s n).size<=s.size:=b1S
  have hll:(I4 s n).size<=(C0 s n).size:=a0j
  have hpl:((pre (a7Z s) n).length:Int)=n:=(by simp [P8])
  simp only [List.cons_append,List.nil_append]
  refine r4 ?_
  refine d3 (λK3 hK3=>?_)
  refine b8 (a7 Z (b5 Z Z (c7 Z Z) (a7 Z (b5 Z Z (c7 Z Z) (a7 Z (b5 Z Z (H9 G Z Z Z Z Z J J J) (a7 Z (b5 Z Z (c7 Z Z) (a7 Z ?_)))))))))
  first | refine b5 Z Z (T7 G Z Z Z Z (List.length_map _)) ?_ | refine b5 Z Z (a1o G Z Z Z Z) ?_
  refine a7 Z (b5 Z Z (f9 Z (ArgsOK.of Z) (a6y _ _ (Nat.le_trans b1S hs) J J) Z) (a7 Z (b5 Z Z (c7 Z Z) (a7 Z (b5 Z Z (j8 Z Z Z) (a7 Z (b5 Z Z (j8 Z Z Z) (a7 Z (b5 Z Z (j8 Z Z Z) (a7 Z (d8 G 3 Z Z Z Z Z (a7 Z (m4 G Z Z Z Z Z Z Z Z Z Z Z (a7 Z (b5 Z Z (c6 Z Z) (a7 Z (b5 Z Z (c6 Z Z) (b6 (hK3 _ ?_)))))))))))))))))))
  clear hK3 K3
  refine d3 (λK4 hK4=>?_)
  refine d3 (λK5 hK5=>?_)
  refine b8 (a7 Z (b5 Z Z (c7 Z Z) (a7 Z (b5 Z Z (a2T Z Z) (b6 (hK5 _ ?_))))))
  clear hK5 K5
  rw [b3e,hpl]
  refine m6 Z (λh1=>?_) (λh1=>?_)
  ·try rw [h1]
   try simp only [rfb] at h1
   have hN:=a2i hinv h1
   refine d3 (λK6 hK6=>?_)
   refine b8 (a7 Z (b5 Z Z (c7 Z Z) (a7 Z (b5 Z Z (c7 Z Z) (a7 Z (b5 Z Z (c6 Z Z) (a7 Z (b5 Z Z (c6 Z Z) (b6 (hK6 _ ?_))))))))))
   clear hK6 K6
   refine e6 (p8 Z Z Z Z (b4 (d6 Z ?_) (b4 (d6 Z ?_) f6)))
   all_goals clear hK4 K4
   all_goals ((rw [hN]))
  ·try rw [h1]
   try simp only [rfb] at h1
   have hok:okN s n=true:=h1
   obtain ⟨he1,he2⟩:=c4g hok
   rw [he1,he2]
   have hb1:=a8I hok
   refine s3 (hK4 _ ?_)
   clear hK4 K4
   refine d3 (λK7 hK7=>?_)
   refine b8 (a7 Z (b5 Z Z (c7 Z Z) (a7 Z (b5 Z Z (c7 Z Z) (a7 Z ?_)))))
   first | refine b5 Z Z (v6 Z Z Z Z J J) ?_ | refine b5 Z Z (A4 Z Z Z Z) ?_
   refine a7 Z (b5 Z Z (c6 Z Z) (b6 (hK7 _ ?_)))
   clear hK7 K7
   refine d3 (λK8 hK8=>?_)
   refine b8 (a7 Z (b5 Z Z (c7 Z Z) (a7 Z (b5 Z Z (i6 G Z Z Z Z Z Z) (a7 Z (s4 G 4 Z Z Z Z Z Z Z Z (a7 Z (j3 G np Z Z Z Z Z Z Z Z Z (by simp [P8];omega) Z Z (a7 Z (b5 Z Z (c6 Z Z) (b6 (hK8 _ ?_))))))))))))
   clear hK8 K8
   refine b8 (a7 Z (b5 Z Z (c7 Z Z) (a7 Z (b5 Z Z (c7 Z Z) (a7 Z (s4 G 5 Z Z Z Z Z Z Z Z (a7 Z (j3 G np Z Z Z Z Z Z Z Z Z (by simp [P8];omega) Z Z (a7 Z (b5 Z Z (c6 Z Z) ?_))))))))))
   refine b6 ⟨(n+1),?_,?_,⟨⟨_,Z,by (first | exact (rfl:AV.own 0=AV.own 0) | exact (rfl:AV.own 1=AV.own 1) | (rw [a0u (s:=s) (n:=n)];done))⟩,Z,⟨⟨_,Z,by (first | exact (rfl:AV.own 0=AV.own 0) | exact (rfl:AV.own 1=AV.own 1) | (rw [a0u (s:=s) (n:=n)];done))⟩,Z,⟨⟨_,Z,by (first | exact (rfl:AV.own 0=AV.own 0) | exact (rfl:AV.own 1=AV.own 1) | (rw [a0u (s:=s) (n:=n)];done))⟩,Z,trivial⟩⟩⟩,⟨⟨_,Z,by (first | exact congrArg (Row.row _ _) (a23 (g:=a7Z s) (f:=a7L) (i:=n)) | (rw [a0u];exact congrArg (Row.row _ _) (a23 (g:=O9 s) (f:=Rf.n8) (i:=n+1))))⟩,Z,Z,⟨⟨_,Z,by (first | exact congrArg (Row.row _ _) (a23 (g:=a7Z s) (f:=a7L) (i:=n)) | (rw [a0u];exact congrArg (Row.row _ _) (a23 (g:=O9 s) (f:=Rf.n8) (i:=n+1))))⟩,Z,Z,trivial⟩⟩,Z,Z,Z⟩
   ·exact n7 hinv hok
   ·omega
theorem b2P (x y:Lg):Ctr Tryz.prog 38 [.v (a9i x),.v (a9i y)] (.one (.v (.bool (eqL x y)))):=by
 refine Ctr.of (n:=20) G Tryz.func38 Z a8 Z Z Z (λw0=>?_)
 refine a2u ?_
 refine J4 ?_
 refine zcd (λh1=>?_) (λh1=>?_)
 ·exact b56
 refine J4 ?_
 refine zcd (λh2=>?_) (λh2=>?_)
 ·exact b56
 refine zcd (λh3=>?_) (λh3=>?_)
 ·exact b56
 exact b56
theorem b2Q (x:Lg):Ctr Tryz.prog 22 [.v (a9i x)] (.one (.v (a9i x))):=by
 refine Ctr.of (n:=14) G Tryz.func22 Z a8 Z Z Z (λw0=>?_)
 exact c1B
theorem b2R (x:Lg) (l:Int) (h0:x.d.size<=9223372036854775807/\x.p.size<=9223372036854775807) (hl:0<=l/\l<=1048576):Ctr Tryz.prog 19 [.v (a9i x),.v (.int .i64 l)] (.one (.v (.int .i64 (b4O x l)))):=by
 refine Ctr.of (n:=20) G Tryz.func19 Z a8 Z Z Z (λw0=>?_)
 refine vm3 ?_
 refine a41 ?_
 refine zcd (λh1=>?_) (λh1=>?_)
 ·exact c55
 refine a41 ?_
 refine zcd (λh2=>?_) (λh2=>?_)
 ·exact c55
 exact c55
theorem a4A (x:Lg) (hx:x.d.size+x.p.size<=1048576):Ctr Tryz.prog 45 [.v (a9i x)] (.one (.v (.bool (U1 x)))):=by
 have hl1:=a35 (s:=x.d++x.p)
 have hl2:=a35 (s:=x.d)
 have hp1:O9 (x.d++x.p) (v8 (x.d++x.p))=(A5 (x.d++x.p) (v8 (x.d++x.p)):Int):=rfl
 have hp2:O9 x.d (v8 x.d)=(A5 x.d (v8 x.d):Int):=rfl
 have hrl:=b3Q (s:=x.d++x.p)
 have hap:(x.d++x.p).size=x.d.size+x.p.size:=ByteArray.size_append
 have hge:=b5H (s:=x.d++x.p)
 have hel:(pre (O9 (x.d++x.p)) (v8 (x.d++x.p)+1)).length=v8 (x.d++x.p)+1:=P8
 have hem:((pre (O9 (x.d++x.p)) (v8 (x.d++x.p)+1)).map Rf.n8).length=v8 (x.d++x.p)+1:=(by rw [List.length_map,P8])
 refine Ctr.of (n:=53) G Tryz.func45 Z a8 Z Z Z (λw0=>?_)
 refine vm3 ?_
 refine a41 ?_
 refine a41 ?_
 refine zcd (λh1=>?_) (λh1=>?_)
 ·have hO:=c01 (x:=x) J
  exact b54
 refine zgo ?_
 refine b64 ?_
 refine vm5 ?_
 refine c8 2 Z Z Z (ArgsOK.of Z) (a3H _ a1Q) Z Z ?_
 refine n9 ?_
 refine c8 3 Z Z Z (ArgsOK.of Z) (a3H _ a1Q) Z Z ?_
 refine a41 ?_
 refine a41 ?_
 refine zcd (λh2=>?_) (λh2=>?_)
 ·refine c1s ?_
  refine zcd (λh3=>?_) (λh3=>?_)
  ·have hO:=c42 (x:=x) J J J
   exact b54
  have hO:=c02 (x:=x) J
  exact b54
 have hO:=b5I (x:=x) J
 exact b54
theorem a07 (x:Lg) (hx:x.d.size+x.p.size<=1048576):Ctr Tryz.prog 65 [.v (a9i x)] (.one (.v (.bool (U1 x)))):=by
 have hl1:=a35 (s:=x.d++x.p)
 have hl2:=a35 (s:=x.d)
 have hp1:O9 (x.d++x.p) (v8 (x.d++x.p))=(A5 (x.d++x.p) (v8 (x.d++x.p)):Int):=rfl
 have hp2:O9 x.d (v8 x.d)=(A5 x.d (v8 x.d):Int):=rfl
 have hrl:=b3Q (s:=x.d++x.p)
 have hap:(x.d++x.p).size=x.d.size+x.p.size:=ByteArray.size_append
 have hge:=b5H (s:=x.d++x.p)
 have hel:(pre (O9 (x.d++x.p)) (v8 (x.d++x.p)+1)).length=v8 (x.d++x.p)+1:=P8
 have hem:((pre (O9 (x.d++x.p)) (v8 (x.d++x.p)+1)).map Rf.n8).length=v8 (x.d++x.p)+1:=(by rw [List.length_map,P8])
 refine Ctr.of (n:=45) G Tryz.func65 Z a8 Z Z Z (λw0=>?_)
 refine vm3 ?_
 refine zgo ?_
 refine b64 ?_
 refine n9 ?_
 refine c8 3 Z Z Z (ArgsOK.of Z) (a49 _ a1Q) Z Z ?_
 refine vm7 ?_
 refine c5T ?_
 refine a41 ?_
 refine zcd (λh1=>?_) (λh1=>?_)
 ·have hO:=b5I (x:=x) J
  refine zwt ?_
  refine zf1 ?_
  all_goals ((rw [hO]))
 refine zcd (λh2=>?_) (λh2=>?_)
 ·have hO:=c03 (x:=x) J
  refine zf1 ?_
  all_goals ((rw [hO]))
 refine zgo ?_
 refine d9 [1,33,34] [0,2] (λ(i:Nat)=>[(35,.v (.int .i64 (i:Int)))]) (λ(i:Nat)=>[]) (λ(i:Nat)=>i<=v8 (x.d++x.p)+1/\∀j,j < i→¬ A5 (x.d++x.p) j=x.d.size) (λ(i:Nat)=>v8 (x.d++x.p)+1 - i) 0 Z Z ?_ ?_ ?_ ?_
 ·exact D9
 ·exact a8c
 ·exact trivial
 intro i hinv
 have hi:=hinv.1
 have hpi:O9 (x.d++x.p) i=(A5 (x.d++x.p) i:Int):=rfl
 have hgi:i < v8 (x.d++x.p)+1→(pre (O9 (x.d++x.p)) (v8 (x.d++x.p)+1)).getD ((i:Int)).toNat default=O9 (x.d++x.p) i:=λh=>b3q h
 refine vm4 ?_
 refine zcd (λh3=>?_) (λh3=>?_)
 ·refine vm7 ?_
  refine c5T ?_
  refine a41 ?_
  refine zcd (λh4=>?_) (λh4=>?_)
  ·have hO:=b6R (x:=x) (j:=i) J J J J
   refine zf1 ?_
   all_goals ((rw [hO]))
  refine zgo ?_
  refine ⟨(i+1),?_,?_,⟨⟨_,Z,by rfl⟩,Z,trivial⟩,trivial,Z,Z,Z⟩
  ·exact ⟨by omega,n7 hinv.2 J⟩
  omega
 have hO:=b6S (x:=x) (λj hj=>hinv.2 j J)
 refine zf1 ?_
 all_goals ((rw [hO]))
end Go.Proofs.YtpfhomblkgmkkaaGreatDoor
