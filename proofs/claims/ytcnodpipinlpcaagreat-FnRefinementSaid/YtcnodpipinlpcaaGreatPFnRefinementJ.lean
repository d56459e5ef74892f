/- Texts merged into one: M27, M25, M28. -/
import Derived.Test.YtcnodpipinlpcaaGreatPFnRefinementI
set_option maxHeartbeats 4000000
set_option linter.unusedSimpArgs false
set_option linter.unusedVariables false
set_option maxRecDepth 20000
namespace Go.Proofs.YtcnodpipinlpcaaGreat
open Go Go.Rf
theorem a2G:M7 Tryz.prog 40 [.int .i64,.int .i64,.int .i64,.int .i64]=true:=by kernel_rfl
theorem Y6 (m:Mach) (hM:MaG m) (hs:SmallM m):Ctr Tryz.prog 99 [.agg [.lst 2 (m.rs.map n6),.lst 1 (m.en.map e7),.lst 1 (m.ra.map e7),.nst none 4 (m.cp.map (r3 154 183))]] (.shp true [some 5] [.fr 4 1 ((abOf m).en.map e7),.fr 4 1 ((abOf m).ra.map e7),.fr 4 1 ((abOf m).po.map e7),.fr 3 1 ((abOf m).ma.map Rf.l8),.ne 26 1 ((abOf m).st.map p8)]):=by
 have f1:=hM.n
 have f2:=hM.en
 have f3:=hM.ra
 have f4:=hM.rn
 refine Ctr.of (n:=57) G Tryz.func99 Z a6 Z Z Z (λw0=>?_)
 refine j8 0 Z (λ_=>Z) (λu0=>?_)
 refine L6 ?_
 refine zgn ?_
 refine p7 (d7 14 [0,1] mixed a6 Z Z (λr0=>?_) (λ_ h=>h))
 refine b0b ?_
 refine r8 (N:=8) Z (m8 (fuel:=4) [⟨0,8,2,false,.row 4 1 []⟩,⟨4,12,3,false,.row 4 1 []⟩,⟨8,16,4,false,.row 4 1 (List.replicate 8 [.bool false])⟩,⟨9,17,5,false,.row 3 1 []⟩,⟨10,18,6,false,.row 26 1 []⟩,⟨12,3,7,true,.box (avR [.slice none 0 0,.slice none 0 0,.slice none 0 0,.slice none 0 0,.slice none 0 0] [])⟩] (AllVOK.cons (VOK.lit G Z Z Z Z Z) (AllVOK.cons (VOK.lit G Z Z Z Z Z) (AllVOK.cons (VOK.make (n:=8) G Z Z Z Z Z (by decide) (by decide)) (AllVOK.cons (VOK.lit G Z Z Z Z Z) (AllVOK.cons (VOK.lit G Z Z Z Z Z) (AllVOK.cons (VOK.boxS G Z Z Z Z Z) (AllVOK.nil))))))) (λhok=>?_))
 refine i7 [(3,[0])] a6 a6 (λe he=>hok e he) a6 (AllVS.cons ?_ AllVS.nil)
 refine VStep.mk1 [0,1] 8 (.own 2) 2 (.row 4 1 []) [⟨4,12,3,false,.row 4 1 []⟩,⟨8,16,4,false,.row 4 1 (List.replicate 8 [.bool false])⟩,⟨9,17,5,false,.row 3 1 []⟩,⟨10,18,6,false,.row 26 1 []⟩,⟨12,3,7,true,.box (avR [.slice none 0 0,.slice none 0 0,.slice none 0 0,.slice none 0 0,.slice none 0 0] [])⟩] Z Z Z Z Z (λb1 _ hbn=>i6 G C1 Z Z Z Z Z Z Z Z Z C0 Z Z (a8 Z)) a6 a6 a6 a6 (i7 [(7,[4])] a6 a6 (λe he=>hok e (vin (is:=[0]) Z he)) a6 (AllVS.cons ?_ AllVS.nil))
 refine VStep.mk1 [0,1] 12 (.own 3) 3 (.row 4 1 []) [⟨8,16,4,false,.row 4 1 (List.replicate 8 [.bool false])⟩,⟨9,17,5,false,.row 3 1 []⟩,⟨10,18,6,false,.row 26 1 []⟩,⟨12,3,7,true,.box (avR [.slice none 0 0,.slice none 0 0,.slice none 0 0,.slice none 0 0,.slice none 0 0] [])⟩] Z Z Z Z Z (λb1 _ hbn=>i6 G C1 Z Z Z Z Z Z Z Z Z C0 Z Z (a8 Z)) a6 a6 a6 a6 (i7 [(11,[8,9,10])] a6 a6 (λe he=>hok e (vin (is:=[0,4]) Z he)) a6 (AllVS.cons ?_ AllVS.nil))
 refine VStep.mk3 [0,1] 16 (.own 4) 4 (.row 4 1 (List.replicate 8 [.bool false])) 17 (.own 5) 5 (.row 3 1 []) 18 (.own 6) 6 (.row 26 1 []) [⟨12,3,7,true,.box (avR [.slice none 0 0,.slice none 0 0,.slice none 0 0,.slice none 0 0,.slice none 0 0] [])⟩] Z Z Z Z Z (λb1 _ hbn=>b7 Z Z (y9 G Z Z Z Z) (a8 Z)) a6 a6 a6 a6 (i7 [(13,[12])] a6 a6 (λe he=>hok e (vin (is:=[0,4,8,9,10]) Z he)) a6 (AllVS.cons ?_ AllVS.nil))
 refine c10 ?_
 clear hok
 refine c2a ?_
 refine f6 [2,3,21,22] [1,2,3,7] (λ(k:Nat)=>[(23,.v (.int .i64 (k:Int)))]) (λ(k:Nat)=>[(4,some (.row 4 1 ((poN m k).map e7))),(5,some (.row 3 1 (((m.cp.map (λx=>x.ma)).take k).map Rf.l8))),(6,some (.nest 26 1 (((m.cp.map (λx=>x.st)).take k).map p8) []))]) (λ(k:Nat)=>k<=m.cp.length) (λ(k:Nat)=>m.cp.length - k) 0 Z Z ?_ ?_ ?_ ?_
 ·exact H0
 ·exact R7
 ·exact b74
 intro k hk
 have hp8:=@u9 m k
 have hm1:(m.cp.map (λx=>x.ma)).length=m.cp.length:=List.length_map _
 have hm2:(m.cp.map (λx=>x.st)).length=m.cp.length:=List.length_map _
 refine vm2 ?_
 refine zcd (λh1=>?_) (λh1=>?_)
 ·have hI:=(hM.ok k J).f
  exact ws4
 refine zgo ?_
 refine g8 (m5 Z Z Z Z (a7 (b8 Z ?_) (a7 (b8 Z ?_) (a7 (b8 Z ?_) (a7 (b8 Z ?_) (a7 (t8 Z ?_) d5))))))
 all_goals exact b6i
theorem a3m (m:Mach) (hM:MaG m) (hs:SmallM m):Ctr Tryz.prog 97 [.agg [.lst 2 (m.rs.map n6),.lst 1 (m.en.map e7),.lst 1 (m.ra.map e7),.nst none 4 (m.cp.map (r3 154 183))]] (.shp true [some 5] [.fr 4 1 ((abOf m).en.map e7),.fr 4 1 ((abOf m).ra.map e7),.fr 4 1 ((abOf m).po.map e7),.fr 3 1 ((abOf m).ma.map Rf.l8),.ne 26 1 ((abOf m).st.map p8)]):=by
 have f1:=hM.n
 have f2:=hM.en
 have f3:=hM.ra
 have f4:=hM.rn
 refine Ctr.of (n:=70) G Tryz.func97 Z a6 Z Z Z (λw0=>?_)
 refine j8 0 Z (λ_=>Z) (λu0=>?_)
 refine L6 ?_
 refine zgn ?_
 refine p7 (d7 14 [0,1] mixed a6 Z Z (λr0=>?_) (λ_ h=>h))
 refine b0b ?_
 refine r8 (N:=8) Z (m8 (fuel:=4) [⟨0,7,2,false,.row 4 1 []⟩,⟨4,11,3,false,.row 4 1 []⟩,⟨8,15,4,false,.row 4 1 (List.replicate 8 [.bool false])⟩,⟨9,16,5,false,.row 3 1 []⟩,⟨10,17,6,false,.row 26 1 []⟩,⟨12,3,7,true,.box (avR [.slice none 0 0,.slice none 0 0,.slice none 0 0,.slice none 0 0,.slice none 0 0] [])⟩] (AllVOK.cons (VOK.lit G Z Z Z Z Z) (AllVOK.cons (VOK.lit G Z Z Z Z Z) (AllVOK.cons (VOK.make (n:=8) G Z Z Z Z Z (by decide) (by decide)) (AllVOK.cons (VOK.lit G Z Z Z Z Z) (AllVOK.cons (VOK.lit G Z Z Z Z Z) (AllVOK.cons (VOK.boxS G Z Z Z Z Z) (AllVOK.nil))))))) (λhok=>?_))
 refine i7 [(3,[0])] a6 a6 (λe he=>hok e he) a6 (AllVS.cons ?_ AllVS.nil)
 refine VStep.mk1 [0,1] 7 (.own 2) 2 (.row 4 1 []) [⟨4,11,3,false,.row 4 1 []⟩,⟨8,15,4,false,.row 4 1 (List.replicate 8 [.bool false])⟩,⟨9,16,5,false,.row 3 1 []⟩,⟨10,17,6,false,.row 26 1 []⟩,⟨12,3,7,true,.box (avR [.slice none 0 0,.slice none 0 0,.slice none 0 0,.slice none 0 0,.slice none 0 0] [])⟩] Z Z Z Z Z (λb1 _ hbn=>i6 G C1 Z Z Z Z Z Z Z Z Z C0 Z Z (a8 Z)) a6 a6 a6 a6 (i7 [(7,[4])] a6 a6 (λe he=>hok e (vin (is:=[0]) Z he)) a6 (AllVS.cons ?_ AllVS.nil))
 refine VStep.mk1 [0,1] 11 (.own 3) 3 (.row 4 1 []) [⟨8,15,4,false,.row 4 1 (List.replicate 8 [.bool false])⟩,⟨9,16,5,false,.row 3 1 []⟩,⟨10,17,6,false,.row 26 1 []⟩,⟨12,3,7,true,.box (avR [.slice none 0 0,.slice none 0 0,.slice none 0 0,.slice none 0 0,.slice none 0 0] [])⟩] Z Z Z Z Z (λb1 _ hbn=>i6 G C1 Z Z Z Z Z Z Z Z Z C0 Z Z (a8 Z)) a6 a6 a6 a6 (i7 [(11,[8,9,10])] a6 a6 (λe he=>hok e (vin (is:=[0,4]) Z he)) a6 (AllVS.cons ?_ AllVS.nil))
 refine VStep.mk3 [0,1] 15 (.own 4) 4 (.row 4 1 (List.replicate 8 [.bool false])) 16 (.own 5) 5 (.row 3 1 []) 17 (.own 6) 6 (.row 26 1 []) [⟨12,3,7,true,.box (avR [.slice none 0 0,.slice none 0 0,.slice none 0 0,.slice none 0 0,.slice none 0 0] [])⟩] Z Z Z Z Z (λb1 _ hbn=>b7 Z Z (y9 G Z Z Z Z) (a8 Z)) a6 a6 a6 a6 (i7 [(13,[12])] a6 a6 (λe he=>hok e (vin (is:=[0,4,8,9,10]) Z he)) a6 (AllVS.cons ?_ AllVS.nil))
 refine c10 ?_
 clear hok
 refine c2a ?_
 refine f6 [1,2,3] [0,1,2,3,7] (λ(k:Nat)=>[(4,.v (.int .i64 (k:Int)))]) (λ(k:Nat)=>[(4,some (.row 4 1 ((poN m k).map e7))),(5,some (.row 3 1 (((m.cp.map (λx=>x.ma)).take k).map Rf.l8))),(6,some (.nest 26 1 (((m.cp.map (λx=>x.st)).take k).map p8) []))]) (λ(k:Nat)=>k<=m.cp.length) (λ(k:Nat)=>m.cp.length - k) 0 Z Z ?_ ?_ ?_ ?_
 ·exact H0
 ·exact R7
 ·exact b74
 intro k hk
 have hp8:=@u9 m k
 have hm1:(m.cp.map (λx=>x.ma)).length=m.cp.length:=List.length_map _
 have hm2:(m.cp.map (λx=>x.st)).length=m.cp.length:=List.length_map _
 refine vm2 ?_
 refine zcd (λh1=>?_) (λh1=>?_)
 ·have hI:=(hM.ok k J).f
  exact ws3
 refine zgo ?_
 refine g8 (m5 Z Z Z Z (a7 (b8 Z ?_) (a7 (b8 Z ?_) (a7 (b8 Z ?_) (a7 (b8 Z ?_) (a7 (t8 Z ?_) d5))))))
 all_goals exact b6i
theorem F5 (l r:List Bool) (hl:l.length<=1048576) (hr:r.length<=1048576):Ctr Tryz.prog 161 [.lst 1 (l.map e7),.lst 1 (r.map e7)] (.one (.v (.bool (decide (l=r))))):=by
 refine Ctr.of (n:=26) G Tryz.func161 Z a6 Z Z Z (λw0=>?_)
 refine zcd (λh1=>?_) (λh1=>?_)
 ·exact b4n
 refine zgo ?_
 refine f6 [0,1,12] [] (λ(i:Nat)=>[(13,.v (.int .i64 (i:Int)))]) (λ(i:Nat)=>[]) (λ(i:Nat)=>i<=l.length/\∀j,j < i→l.getD j default=r.getD j default) (λ(i:Nat)=>l.length - i) 0 Z Z ?_ ?_ ?_ ?_
 ·exact P3
 ·exact u3
 ·exact trivial
 intro i hinv
 refine vm2 ?_
 refine zcd (λh2=>?_) (λh2=>?_)
 ·refine zgd ?_
  refine zgo ?_
  refine j7 Z ?_
  refine b3q ?_
  refine zcd (λh3=>?_) (λh3=>?_)
  ·exact b4n
  exact c2n
 refine zf1 ?_
 all_goals exact b3h
theorem a8v (l r:List Int) (hl:l.length<=1048576) (hr:r.length<=1048576):Ctr Tryz.prog 157 [.lst 1 (l.map Rf.l8),.lst 1 (r.map Rf.l8)] (.one (.v (.bool (decide (l=r))))):=by
 refine Ctr.of (n:=26) G Tryz.func157 Z a6 Z Z Z (λw0=>?_)
 refine zcd (λh1=>?_) (λh1=>?_)
 ·exact b4n
 refine zgo ?_
 refine f6 [0,1] [] (λ(i:Nat)=>[(5,.v (.int .i64 (i:Int)))]) (λ(i:Nat)=>[]) (λ(i:Nat)=>i<=l.length/\∀j,j < i→l.getD j default=r.getD j default) (λ(i:Nat)=>l.length - i) 0 Z Z ?_ ?_ ?_ ?_
 ·exact P3
 ·exact u3
 ·exact trivial
 intro i hinv
 refine vm2 ?_
 refine zcd (λh2=>?_) (λh2=>?_)
 ·refine zgd ?_
  refine zcd (λh3=>?_) (λh3=>?_)
  ·exact b4n
  exact c2n
 refine zf1 ?_
 all_goals exact b3h
theorem P6 (xs ys:List (List Int)) (f:Nat) (hl:xs.length<=1048576) (hr:ys.length<=1048576) (hf:∀i,i < xs.length→Ctr Tryz.prog f [.lst 1 ((xs.getD i default).map Rf.l8),.lst 1 ((ys.getD i default).map Rf.l8)] (.one (.v (.bool (decide (xs.getD i default=ys.getD i default)))))):Ctr Tryz.prog 163 [.nst none 1 (xs.map p8),.nst none 1 (ys.map p8),.fnc f []] (.one (.v (.bool (decide (xs=ys))))):=by
 refine Ctr.of (n:=32) G Tryz.func163 Z a6 Z Z Z (λw0=>?_)
 refine zcd (λh1=>?_) (λh1=>?_)
 ·exact b9I
 refine zgo ?_
 refine f6 [1,2,15,16] [] (λ(i:Nat)=>[(17,.v (.int .i64 (i:Int)))]) (λ(i:Nat)=>[]) (λ(i:Nat)=>i<=xs.length/\∀j,j < i→xs.getD j default=ys.getD j default) (λ(i:Nat)=>xs.length - i) 0 Z Z ?_ ?_ ?_ ?_
 ·exact P3
 ·exact u3
 ·exact trivial
 intro i hinv
 refine vm2 ?_
 refine zcd (λh2=>?_) (λh2=>?_)
 ·refine m3 ?_
  refine a4t ?_
  refine m3 ?_
  refine a4t ?_
  refine m3 ?_
  refine b7 Z Z (a9k Z Z (ArgsOK.of Z) Z (hf _ J) Z) ?_
  refine zcd (λh3=>?_) (λh3=>?_)
  ·exact b9I
  exact c2n
 refine zf1 ?_
 all_goals exact b8T
theorem X6 (rs:List Route) (a b:Abs) (hA:AbsF rs a) (hB:AbsF rs b):Ctr Tryz.prog 108 [.agg [.lst 1 (a.en.map e7),.lst 1 (a.ra.map e7),.lst 1 (a.po.map e7),.lst 1 (a.ma.map Rf.l8),.nst none 1 (a.st.map p8)],.agg [.lst 1 (b.en.map e7),.lst 1 (b.ra.map e7),.lst 1 (b.po.map e7),.lst 1 (b.ma.map Rf.l8),.nst none 1 (b.st.map p8)]] (.one (.v (.bool (b0G a b)))):=by
 have a0:=hA.n
 have b0:=hB.n
 have a1:=hA.st
 have b1:=hB.st
 have a2:=hA.en
 have b2:=hB.en
 have a3:=hA.ra
 have b3:=hB.ra
 have a4:=hA.po
 have b4:=hB.po
 refine Ctr.of (n:=38) G Tryz.func108 Z a6 Z Z Z (λw0=>?_)
 refine j8 0 Z (λ_=>Z) (λu0=>?_)
 refine j8 1 Z (λ_=>Z) (λu1=>?_)
 refine w8 ?_
 refine a3c ?_
 refine zcl (F5 a.en b.en J J) ?_
 refine zcd (λh1=>?_) (λh1=>?_)
 ·refine zcl (F5 a.ra b.ra J J) ?_
  refine zcd (λh2=>?_) (λh2=>?_)
  ·refine zcl (F5 a.po b.po J J) ?_
   refine zcd (λh3=>?_) (λh3=>?_)
   ·refine zcl (H7 a.ma b.ma J J) ?_
    refine zcd (λh4=>?_) (λh4=>?_)
    ·refine zcl (Ctr.argsTo (P6 a.st b.st 162 J J (λi hi=>H7 _ _ (hA.slen i) (hB.slen i))) (λw vs h=>c1z vs h)) ?_
     exact b6F
    exact b6F
   exact b6F
  exact b6F
 exact b6F
theorem a3n (rs:List Route) (a b:Abs) (hA:AbsF rs a) (hB:AbsF rs b):Ctr Tryz.prog 103 [.agg [.lst 1 (a.en.map e7),.lst 1 (a.ra.map e7),.lst 1 (a.po.map e7),.lst 1 (a.ma.map Rf.l8),.nst none 1 (a.st.map p8)],.agg [.lst 1 (b.en.map e7),.lst 1 (b.ra.map e7),.lst 1 (b.po.map e7),.lst 1 (b.ma.map Rf.l8),.nst none 1 (b.st.map p8)]] (.one (.v (.bool (b0G a b)))):=by
 have a0:=hA.n
 have b0:=hB.n
 have a1:=hA.st
 have b1:=hB.st
 have a2:=hA.en
 have b2:=hB.en
 have a3:=hA.ra
 have b3:=hB.ra
 have a4:=hA.po
 have b4:=hB.po
 refine Ctr.of (n:=87) G Tryz.func103 Z a6 Z Z Z (λw0=>?_)
 refine j8 0 Z (λ_=>Z) (λu0=>?_)
 refine j8 1 Z (λ_=>Z) (λu1=>?_)
 refine w8 ?_
 refine a3c ?_
 refine zcd (λh1=>?_) (λh1=>?_)
 ·exact b4m
 refine zgo ?_
 refine f6 [2,3] [0,1] (λ(i:Nat)=>[(5,.v (.int .i64 (i:Int)))]) (λ(i:Nat)=>[]) (λ(i:Nat)=>i<=8/\∀j,j < i→(a.en.getD j default=b.en.getD j default/\a.ra.getD j default=b.ra.getD j default/\a.po.getD j default=b.po.getD j default)) (λ(i:Nat)=>8 - i) 0 Z Z ?_ ?_ ?_ ?_
 ·exact P3
 ·exact u3
 ·exact trivial
 intro i hi
 refine vm2 ?_
 refine zcd (λh2=>?_) (λh2=>?_)
 ·refine zgd ?_
  refine zgo ?_
  refine j7 Z ?_
  refine b3q ?_
  refine zcd (λh3=>?_) (λh3=>?_)
  ·refine zwt ?_
   exact b4m
  refine zgo ?_
  refine a2j ?_
  refine b3q ?_
  refine zcd (λh4=>?_) (λh4=>?_)
  ·refine zwt ?_
   exact b4m
  refine zgo ?_
  refine a2j ?_
  refine b3q ?_
  refine zcd (λh5=>?_) (λh5=>?_)
  ·exact b4m
  refine zgo ?_
  refine ⟨(i+1),?_,?_,⟨⟨_,Z,by rfl⟩,Z,trivial⟩,trivial,Z,Z,Z⟩
  ·exact ⟨by omega,r5 (p:=λj=>a.en.getD j default=b.en.getD j default/\a.ra.getD j default=b.ra.getD j default/\a.po.getD j default=b.po.getD j default) hi.2 ⟨by first | assumption | (simp_all;done),by first | assumption | (simp_all;done),by first | assumption | (simp_all;done)⟩⟩
  omega
 refine zgo ?_
 refine f6 [2,3] [0,1] (λ(k:Nat)=>[(6,.v (.int .i64 (k:Int)))]) (λ(k:Nat)=>[]) (λ(k:Nat)=>k<=a.ma.length/\∀j,j < k→(a.ma.getD j default=b.ma.getD j default/\a.st.getD j default=b.st.getD j default)) (λ(k:Nat)=>a.ma.length - k) 0 Z Z ?_ ?_ ?_ ?_
 ·exact P3
 ·exact u3
 ·exact trivial
 intro k hk
 refine vm2 ?_
 refine zcd (λh6=>?_) (λh6=>?_)
 ·refine zgd ?_
  refine zcd (λh7=>?_) (λh7=>?_)
  ·refine zwt ?_
   exact b4m
  refine zgo ?_
  refine a2j ?_
  refine a8n ?_
  refine zgo ?_
  refine a2j ?_
  refine a8n ?_
  refine zcl (a8v (a.st.getD k default) (b.st.getD k default) (by have:=hA.len k J;omega) (by have:=hB.len k J;omega)) ?_
  refine zcd (λh8=>?_) (λh8=>?_)
  ·exact b4m
  refine zgo ?_
  refine ⟨(k+1),?_,?_,⟨⟨_,Z,by rfl⟩,Z,trivial⟩,trivial,Z,Z,Z⟩
  ·exact ⟨by omega,r5 (p:=λj=>a.ma.getD j default=b.ma.getD j default/\a.st.getD j default=b.st.getD j default) hk.2 ⟨by first | assumption | (simp_all;done),by first | assumption | (simp_all;done)⟩⟩
  omega
 refine zf1 ?_
 all_goals exact b8L
theorem Q5 (m:Mach) (c:Int) (hn:m.cp.length<=1048576):Ctr Tryz.prog 158 [.agg [.lst 2 (m.rs.map n6),.lst 1 (m.en.map e7),.lst 1 (m.ra.map e7),.nst none 4 (m.cp.map (r3 154 183))],.v (.int .i64 c)] (.one (.v (.bool (s1 c 0 ((m.cp.length:Int) - 1))))):=by
 exact c0l
theorem a3K (m:Mach) (s:MStep) (hn:m.cp.length<=1048576):Ctr Tryz.prog 106 [.agg [.lst 2 (m.rs.map n6),.lst 1 (m.en.map e7),.lst 1 (m.ra.map e7),.nst none 4 (m.cp.map (r3 154 183))],.v (a0R s)] (.one (.v (.bool (s4 m.cp.length s)))):=by
 refine Ctr.of (n:=75) G Tryz.func106 Z a6 Z Z Z (λw0=>?_)
 refine j8 0 Z (λ_=>Z) (λu0=>?_)
 refine w8 ?_
 refine a3c ?_
 refine zcd (λh1=>?_) (λh1=>?_)
 ·refine zcl (N5 _) ?_
  exact b97
 refine zcd (λh4=>?_) (λh4=>?_)
 ·refine m3 ?_
  refine b7 Z Z (b8b [.int .i64,.int .i64,.int .i64,.int .i64] Z Z Z Z Z Z Z (.inl Z) (.inl Z) a2G ⟨_,_,Z,⟨_,Z⟩,_,_,Z,⟨_,Z⟩,_,_,Z,⟨_,Z⟩,_,_,Z,⟨_,Z⟩,Z⟩ ⟨_,_,Z,⟨_,Z⟩,_,_,Z,⟨_,Z⟩,_,_,Z,⟨_,Z⟩,_,_,Z,⟨_,Z⟩,Z⟩) ?_
  exact ws6
 refine zcd (λh5=>?_) (λh5=>?_)
 ·refine zwt ?_
  exact c0M
 refine zcd (λh8=>?_) (λh8=>?_)
 ·exact c0M
 refine zcd (λh11=>?_) (λh11=>?_)
 ·refine zcd (λh12=>?_) (λh12=>?_)
  ·refine zcl (Q5 m s.c hn) ?_
   exact c0A
  exact ws6
 exact c0m
theorem a6e (x:MStep) (m:Mach) (hn:m.cp.length<=1048576):Ctr Tryz.prog 105 [.v (a0R x),.eptN [.lst 2 (m.rs.map n6),.lst 1 (m.en.map e7),.lst 1 (m.ra.map e7),.nst none 4 (m.cp.map (r3 154 183))]] (.one (.v (.bool (!s4 m.cp.length x)))):=by
 refine Ctr.of (n:=8) G Tryz.func105 Z a6 Z Z Z (λw0=>?_)
 exact b9Q
theorem D0 (xs:List MStep) (f:Nat) (m:Mach) (p:MStep→Bool) (hl:xs.length<=1048576) (hf:∀i,i < xs.length→Ctr Tryz.prog f [.v (a0R (xs.getD i default)),.eptN [.lst 2 (m.rs.map n6),.lst 1 (m.en.map e7),.lst 1 (m.ra.map e7),.nst none 4 (m.cp.map (r3 154 183))]] (.one (.v (.bool (p (xs.getD i default)))))):Ctr Tryz.prog 127 [.lst 4 (xs.map a0Q),.fnc f [.eptN [.lst 2 (m.rs.map n6),.lst 1 (m.en.map e7),.lst 1 (m.ra.map e7),.nst none 4 (m.cp.map (r3 154 183))]]] (.one (.v (.int .i64 (I0 (λi=>p (xs.getD i default)) xs.length)))):=by
 exact c0y
theorem u5 (xs:List MStep) (f:Nat) (m:Mach) (p:MStep→Bool) (hl:xs.length<=1048576) (hf:∀i,i < xs.length→Ctr Tryz.prog f [.v (a0R (xs.getD i default)),.eptN [.lst 2 (m.rs.map n6),.lst 1 (m.en.map e7),.lst 1 (m.ra.map e7),.nst none 4 (m.cp.map (r3 154 183))]] (.one (.v (.bool (p (xs.getD i default)))))):Ctr Tryz.prog 53 [.lst 4 (xs.map a0Q),.fnc f [.eptN [.lst 2 (m.rs.map n6),.lst 1 (m.en.map e7),.lst 1 (m.ra.map e7),.nst none 4 (m.cp.map (r3 154 183))]]] (.one (.v (.bool (a0D xs.length (λi=>p (xs.getD i default)))))):=by
 refine Ctr.of (n:=9) G Tryz.func53 Z a6 Z Z Z (λw0=>?_)
 refine zcl (D0 xs f m p hl hf) ?_
 exact b3y
theorem a4H (x:Ifc) (hn:x.st.length=0):Ctr Tryz.prog 160 [.agg [.v (.int .i64 x.ma),.lst 1 (x.st.map Rf.l8),.lst 3 (x.qu.sl.map f9),.lst 2 (x.qu.wa.map i5)]] (.shp false [some 4,none,none] [.v (.int .i64 0),.fr 3 1 (([]:List Int).map Rf.l8),.fr 154 3 ((⟨[],[]⟩:Que).sl.map f9),.fr 183 2 ((⟨[],[]⟩:Que).wa.map i5) true,.v (.int .i64 0),.v (.bool false)]):=by
 refine Ctr.of (n:=40) G Tryz.func160 Z a6 Z Z Z (λw0=>?_)
 refine j8 0 Z (λ_=>Z) (λu0=>?_)
 refine L6 ?_
 refine zcd (λh1=>?_) (λh1=>?_)
 ·refine zgo ?_
  refine g8 (m5 Z Z Z Z (a7 (p5 ?_) (a7 (t7 ?_) (a7 (t7 ?_) (a7 (t7 ?_) (a7 (p5 ?_) (a7 (p5 ?_) d5)))))))
  all_goals (rfl)
 exfalso;omega
theorem a3O (x:Ifc) (hG:IfG x):Ctr Tryz.prog 160 [.agg [.v (.int .i64 x.ma),.lst 1 (x.st.map Rf.l8),.lst 3 (x.qu.sl.map f9),.lst 2 (x.qu.wa.map i5)]] (.shp false [some 4,none,none] [.v (.int .i64 (X1 x).1.ma),.fr 3 1 ((X1 x).1.st.map Rf.l8),.fr 154 3 ((X1 x).1.qu.sl.map f9),.fr 183 2 ((X1 x).1.qu.wa.map i5) true,.v (.int .i64 (X1 x).2.1),.v (.bool (X1 x).2.2)]):=by
 by_cases h:x.st.length=0
 ·rw [b23 h];exact a4H x h
 rw [b24 h];exact a6X x hG h
theorem P7 (m:Mach) (sk sq sc sv:Int) (hM:MaG m) (hv:s4 m.cp.length ⟨sk,sq,sc,sv⟩=true):Ctr Tryz.prog 107 [.agg [.lst 2 (m.rs.map n6),.lst 1 (m.en.map e7),.lst 1 (m.ra.map e7),.nst none 4 (m.cp.map (r3 154 183))],.v (.agg ⟨[.int .i64 sk,.int .i64 sq,.int .i64 sc,.int .i64 sv]⟩)] (.shp false [some 4,none,none] [.fr 118 2 ((stM m ⟨sk,sq,sc,sv⟩).1.rs.map n6),.fr 4 1 ((stM m ⟨sk,sq,sc,sv⟩).1.en.map e7),.fr 4 1 ((stM m ⟨sk,sq,sc,sv⟩).1.ra.map e7),.ne 113 4 ((stM m ⟨sk,sq,sc,sv⟩).1.cp.map (a1i 154 183)),.v (.int .i64 (stM m ⟨sk,sq,sc,sv⟩).2.1),.v (.bool (stM m ⟨sk,sq,sc,sv⟩).2.2)]):=by
 have f1:=hM.n
 have f2:=hM.en
 have f3:=hM.ra
 have f4:=hM.rn
 refine Ctr.of (n:=90) G Tryz.func107 Z a6 Z Z Z (λw0=>?_)
 refine j8 0 Z (λ_=>Z) (λu0=>?_)
 refine b6r ?_
 refine c4 7 Z Z Z (ArgsOK.of Z) (a04 m hM) Z Z ?_
 refine vm4 ?_
 refine b1g ?_
 refine E9 ?_
 refine p7 (A7 (Gh.nestF (id:=6) _ Z flM) ?_)
 refine zcd (λh1=>?_) (λh1=>?_)
 ·have hq:=a9E hv J
  obtain ⟨q,rfl⟩:∃q:Nat,sq=q:=⟨sq.toNat,by omega⟩
  have hS:=sm1 (m:=m) (sc:=sc) (sv:=sv) (q:=q) h1
  refine b7N ?_
  refine E9 ?_
  first | refine A7 (Gh.nestF (id:=6) _ Z (T4 (x:=(R6 (m.cp.getD c default)).1) (.cons .s (.cons .s (.cons .s (.cons .t .nil)))))) ?_ | refine A7 (Gh.nestF (id:=6) _ Z (T4 (x:=(X1 (m.cp.getD c default)).1) (.cons .s (.cons .s (.cons .s (.cons .t .nil)))))) ?_ | refine A7 (Gh.nestF (id:=6) _ Z (T4 (x:=⟨sv,(m.cp.getD c default).st,(m.cp.getD c default).qu⟩) (.cons .s (.cons .s (.cons .s (.cons .s .nil)))))) ?_ | skip
  refine zgo ?_
  refine g8 (m5 Z Z Z Z (a7 (b8 Z ?_) (a7 (b8 Z ?_) (a7 (b8 Z ?_) (a7 (t8 Z ?_) (a7 (p5 ?_) (a7 (p5 ?_) d5)))))))
  all_goals exact a9a
 refine zcd (λh2=>?_) (λh2=>?_)
 ·have hS:=sm2 (m:=m) (sq:=sq) (sc:=sc) (sv:=sv) h2
  refine m3 ?_
  refine b7C (n:=63) Z Z Z Tryz.func159 Z a6 Z Z Z Z ?_
  apply Exists.intro
  apply Exists.intro
  apply And.intro
  ·intro b hen hpin
   refine m3 ?_
   refine b7 Z Z (s3 Z Z) ?_
   refine zgo ?_
   refine f6 [0,8,9] [0,1,2,3,4,7] (λ(i:Nat)=>[(10,.v (.int .i64 (i:Int)))]) (λ(i:Nat)=>[(5,some (.row 4 1 ((a4q m i).map e7))),(6,some (.nest 113 4 ((L5 m i).map (a1i 154 183)) []))]) (λ(i:Nat)=>i<=8) (λ(i:Nat)=>8 - i) 0 Z Z ?_ ?_ ?_ ?_
   ·exact Nat.zero_le _
   ·exact ⟨⟨_,Z,by rfl⟩,Z,trivial⟩
   ·exact ⟨⟨_,Z,by rfl⟩,Z,Z,⟨⟨_,Z,by rfl⟩,Z,Z,trivial⟩⟩
   intro i hi
   have hrl:=@a26 m i
   have hcl:=@E8 m i
   have htg:=λh=>hM.tg (i:=i) h
   refine vm2 ?_
   refine zcd (λh101=>?_) (λh101=>?_)
   ·obtain ⟨hta,htb,htc⟩:=htg J
    obtain ⟨hst,hIG⟩:=a5p hM (i:=i) (k:=tgM m i) J htb
    have htd:tgM m i < m.cp.length:=htb
    refine zgo ?_
    refine vm3 ?_
    first | refine b7 Z Z (d9 G Z Z Z Z (a2S J) Z) ?_ | refine b7 Z Z (d9 G Z Z Z Z (w9 J J) Z) ?_
    refine vm4 ?_
    refine b0a ?_
    refine zgd ?_
    refine zgo ?_
    refine j7 Z (r9 Z Z (s3 Z Z) ?_)
    refine zgo ?_
    refine j7 Z ?_
    first | refine r9 Z Z (d8 G Z Z Z Z Z J O4) ?_ | refine r9 Z Z (d8 G Z Z Z Z Z J I1) ?_
    refine E9 ?_
    refine A7 (Gh.open (id:=6) (i:=(tgM m i)) (k:=1) 10 Z Z (c1w J) Z Z) ?_
    refine m3 ?_
    refine b7 Z Z (s3 Z Z) ?_
    refine zgo ?_
    refine vm3 ?_
    refine c3E ?_
    refine zcd (λh102=>?_) (λh102=>?_)
    ·refine zgo ?_
     refine S9 ?_
     refine b7 Z Z (s3 Z Z) ?_
     refine zgo ?_
     refine S9 ?_
     first | refine b7 Z Z (c6 G Z Z Z Z Z J g0) ?_ | refine b7 Z Z (c6 G Z Z Z Z Z J J) ?_
     refine S9 ?_
     refine c3E ?_
     refine zcd (λh103=>?_) (λh103=>?_)
     ·rw [a7h (Nat.le_refl _)] at h103
      refine zgo ?_
      refine S9 ?_
      refine b7 Z Z (a5O Z Z) ?_
      refine S9 ?_
      refine b3s ?_
      refine S9 ?_
      refine b7 Z Z (z7 G Z Z Z Z Z (s2.2 ⟨_,(C9 I1 Z),Z⟩) (.own a30 .nil)) ?_
      refine zcl (N7 ((L5 m i).getD (tgM m i) default).st _ (by have:=hIG.f.sn;omega)) ?_
      refine zcd (λh104=>?_) (λh104=>?_)
      ·rw [hst] at h104
       have hcn:=b5L (m:=m) (i:=i) h102 h103 h104
       refine m3 ?_
       refine b7 Z Z (s3 Z Z) ?_
       refine c3z ?_
       refine A7 (Gh.open (id:=6) (i:=(tgM m i)) (k:=2) 11 Z Z (C9 I1 Z) Z Z) (A7 (Gh.open (id:=6) (i:=(tgM m i)) (k:=3) 12 Z Z (C9 I1 Z) Z Z) (d7 10 [0,1,2,3,4,5,7,8,9,10,11] mixed a6 Z Z (λr0=>?_) (λ_ h=>h)))
       refine zsa 0 ?_
       refine zsa 1 ?_
       refine a0v ?_
       refine b6 (rs:=[2]) a6 Z (AllB.cons ?_ AllB.nil)
       refine c8 [0,1,2,3,4,5,7,8,9,10,11] Z Z (b7 Z Z (a5O Z Z) (a8 ⟨Z,?_⟩))
       refine b6 (rs:=[3]) a6 Z (AllB.cons ?_ AllB.nil)
       refine c8 [0,1,2,3,4,5,7,8,9,10,11] Z Z (b7 Z Z (H4 G Z Z Z Z (C9 I1 Z) Z (.v (.own a2s (.own a2s (.own a2s .nil))))) (a8 ⟨Z,?_⟩))
       refine b6 (rs:=[7]) a6 Z (AllB.cons ?_ AllB.nil)
       refine c8 [0,1,2,3,4,5,7,8,9,10,11] Z Z (c4 15 Z Z Z (ArgsOK.of Z) (Y2 ((L5 m i).getD (tgM m i) default) _ _ hIG.f J htc) Z Z (a8 ⟨Z,?_⟩))
       refine a2q (Gh.detach (id:=6) Z) (a2q (Gh.detach (id:=6) Z) (a2q (Gh.detach (id:=6) Z) (b6 (rs:=[8]) a6 Z (AllB.cons ?_ AllB.nil))))
       refine c8 [0,1,2,3,4,5,7,8,9,10,11] Z Z (b7 Z Z (a5O Z Z) (a8 ⟨Z,?_⟩))
       refine b6 (rs:=[9]) a6 Z (AllB.cons ?_ AllB.nil)
       refine c8 [0,1,2,3,4,5,7,8,9,10,11] Z Z (j6 G Z Z Z Z Z (C9 I1 Z) Z Z (.v Z (.own Z (.own Z (.own Z .nil)))) Z Z Z (Nat.le_of_ble_eq_true Z) (λq h=>by cases h) Z (a8 ⟨Z,?_⟩))
       refine vm6 ?_
       refine zgo ?_
       refine ⟨(i+1),?_,?_,⟨⟨_,Z,by rfl⟩,Z,trivial⟩,⟨⟨_,Z,by (first | (rw [a0r hcn];done) | (rw [a0t hcn];exact congrArg (λz=>Row.nest _ _ z []) (X0 J Z)) | (rw [a0q hcn,List.map_set];rfl) | (rw [a0s hcn];exact congrArg (λz=>Row.nest _ _ z []) a3Y))⟩,Z,Z,⟨⟨_,Z,by (first | (rw [a0r hcn];done) | (rw [a0t hcn];exact congrArg (λz=>Row.nest _ _ z []) (X0 J Z)) | (rw [a0q hcn,List.map_set];rfl) | (rw [a0s hcn];exact congrArg (λz=>Row.nest _ _ z []) a3Y))⟩,Z,Z,trivial⟩⟩,Z,Z,Z⟩
       ·omega
       omega
      rw [hst] at h104
      have hcn:=b5O (m:=m) (i:=i) h104
      refine c16 ?_
      refine ⟨(i+1),?_,?_,⟨⟨_,Z,by rfl⟩,Z,trivial⟩,⟨⟨_,Z,by (first | (rw [a0r hcn];done) | (rw [a0t hcn];exact congrArg (λz=>Row.nest _ _ z []) (X0 J Z)) | (rw [a0q hcn,List.map_set];rfl) | (rw [a0s hcn];exact congrArg (λz=>Row.nest _ _ z []) a3Y))⟩,Z,Z,⟨⟨_,Z,by (first | (rw [a0r hcn];done) | (rw [a0t hcn];exact congrArg (λz=>Row.nest _ _ z []) (X0 J Z)) | (rw [a0q hcn,List.map_set];rfl) | (rw [a0s hcn];exact congrArg (λz=>Row.nest _ _ z []) a3Y))⟩,Z,Z,trivial⟩⟩,Z,Z,Z⟩
      ·omega
      omega
     rw [a7h (Nat.le_refl _)] at h103
     have hcn:=b5N (m:=m) (i:=i) h103
     refine zwf ?_
     refine c16 ?_
     refine ⟨(i+1),?_,?_,⟨⟨_,Z,by rfl⟩,Z,trivial⟩,⟨⟨_,Z,by (first | (rw [a0r hcn];done) | (rw [a0t hcn];exact congrArg (λz=>Row.nest _ _ z []) (X0 J Z)) | (rw [a0q hcn,List.map_set];rfl) | (rw [a0s hcn];exact congrArg (λz=>Row.nest _ _ z []) a3Y))⟩,Z,Z,⟨⟨_,Z,by (first | (rw [a0r hcn];done) | (rw [a0t hcn];exact congrArg (λz=>Row.nest _ _ z []) (X0 J Z)) | (rw [a0q hcn,List.map_set];rfl) | (rw [a0s hcn];exact congrArg (λz=>Row.nest _ _ z []) a3Y))⟩,Z,Z,trivial⟩⟩,Z,Z,Z⟩
     ·omega
     omega
    have hcn:=b5M (m:=m) (i:=i) h102
    refine zwf ?_
    refine c16 ?_
    refine ⟨(i+1),?_,?_,⟨⟨_,Z,by rfl⟩,Z,trivial⟩,⟨⟨_,Z,by (first | (rw [a0r hcn];done) | (rw [a0t hcn];exact congrArg (λz=>Row.nest _ _ z []) (X0 J Z)) | (rw [a0q hcn,List.map_set];rfl) | (rw [a0s hcn];exact congrArg (λz=>Row.nest _ _ z []) a3Y))⟩,Z,Z,⟨⟨_,Z,by (first | (rw [a0r hcn];done) | (rw [a0t hcn];exact congrArg (λz=>Row.nest _ _ z []) (X0 J Z)) | (rw [a0q hcn,List.map_set];rfl) | (rw [a0s hcn];exact congrArg (λz=>Row.nest _ _ z []) a3Y))⟩,Z,Z,trivial⟩⟩,Z,Z,Z⟩
    ·omega
    omega
   obtain rfl:i=8:=J
   exact a9f ⟨.inl Z,Z,Z⟩
  refine ⟨Z,?_⟩
  refine E9 ?_
  first | refine A7 (Gh.nestF (id:=6) _ Z (T4 (x:=(R6 (m.cp.getD c default)).1) (.cons .s (.cons .s (.cons .s (.cons .t .nil)))))) ?_ | refine A7 (Gh.nestF (id:=6) _ Z (T4 (x:=(X1 (m.cp.getD c default)).1) (.cons .s (.cons .s (.cons .s (.cons .t .nil)))))) ?_ | refine A7 (Gh.nestF (id:=6) _ Z (T4 (x:=⟨sv,(m.cp.getD c default).st,(m.cp.getD c default).qu⟩) (.cons .s (.cons .s (.cons .s (.cons .s .nil)))))) ?_ | skip
  refine zgo ?_
  refine g8 (m5 Z Z Z Z (a7 (b8 Z ?_) (a7 (b8 Z ?_) (a7 (b8 Z ?_) (a7 (t8 Z ?_) (a7 (p5 ?_) (a7 (p5 ?_) d5)))))))
  all_goals exact a9a
 refine zcd (λh3=>?_) (λh3=>?_)
 ·have hc:=a2A hv J
  obtain ⟨c,rfl⟩:∃c:Nat,sc=c:=⟨sc.toNat,by omega⟩
  obtain ⟨g1,g2,g3⟩:=hM.lens (k:=c) J
  have hIG:=hM.ok c J
  have hS:=c4o (m:=m) (sq:=sq) (sv:=sv) (c:=c) h3
  refine d7 19 [0,1,2,3,4,5,7] mixed a6 Z Z (λr0=>?_) (λ_ h=>h)
  refine C5 ?_
  refine a0v ?_
  refine zsa 7 ?_
  refine zsa 8 ?_
  refine zsa 9 ?_
  refine b6 (rs:=[10]) a6 Z (AllB.cons ?_ AllB.nil)
  refine c8 [0,1,2,3,4,5,7] Z Z (c4 11 Z Z Z (ArgsOK.of Z) (a3g (m.cp.getD c default) hIG.f) Z Z (a8 ⟨Z,?_⟩))
  refine zsa 11 ?_
  refine zsa 12 ?_
  refine zsa 13 ?_
  refine zsa 14 ?_
  refine b6 (rs:=[15]) a6 Z (AllB.cons ?_ AllB.nil)
  first | refine c7 [0,1,2,3,4,5,7] Z Z (b7 Z Z (d8 G Z Z Z Z Z J O4) (a8 ⟨Z,?_⟩)) | refine c7 [0,1,2,3,4,5,7] Z Z (b7 Z Z (d8 G Z Z Z Z Z J I1) (a8 ⟨Z,?_⟩)) | refine c7 [0,1,2,3,4,5,7] Z Z (b7 Z Z (d8 G Z Z Z Z Z J J) (a8 ⟨Z,?_⟩))
  refine b6 (rs:=[16]) a6 Z (AllB.cons ?_ AllB.nil)
  first | refine c7 [0,1,2,3,4,5,7] Z Z (j6 G Z Z Z Z Z (w9 J J) Z Z (.v Z (.own Z (.own Z (.own Z .nil)))) Z Z Z (Nat.le_of_ble_eq_true Z) (λq h=>by cases h) Z (a8 ⟨Z,?_⟩)) | refine c7 [0,1,2,3,4,5,7] Z Z (j6 G Z Z Z Z Z (C7 J J) Z Z (.v Z (.own Z (.own Z (.own Z .nil)))) Z Z Z (Nat.le_of_ble_eq_true Z) (λq h=>by cases h) Z (a8 ⟨Z,?_⟩)) | refine c7 [0,1,2,3,4,5,7] Z Z (j6 G Z Z Z Z Z (C9 I1 Z) Z Z (.v Z (.own Z (.own Z (.own Z .nil)))) Z Z Z (Nat.le_of_ble_eq_true Z) (λq h=>by cases h) Z (a8 ⟨Z,?_⟩))
  refine zsa 17 ?_
  refine zsa 18 ?_
  refine vm6 ?_
  refine p7 ?_
  first | refine A7 (Gh.nestF (id:=6) _ Z (T4 (x:=(R6 (m.cp.getD c default)).1) (.cons .s (.cons .s (.cons .s (.cons .t .nil)))))) ?_ | refine A7 (Gh.nestF (id:=6) _ Z (T4 (x:=(X1 (m.cp.getD c default)).1) (.cons .s (.cons .s (.cons .s (.cons .t .nil)))))) ?_ | refine A7 (Gh.nestF (id:=6) _ Z (T4 (x:=⟨sv,(m.cp.getD c default).st,(m.cp.getD c default).qu⟩) (.cons .s (.cons .s (.cons .s (.cons .s .nil)))))) ?_ | skip
  refine zgo ?_
  refine g8 (m5 Z Z Z Z (a7 (b8 Z ?_) (a7 (b8 Z ?_) (a7 (b8 Z ?_) (a7 (t8 Z ?_) (a7 (p5 ?_) (a7 (p5 ?_) d5)))))))
  all_goals exact a9a
 refine zcd (λh4=>?_) (λh4=>?_)
 ·have hc:=a2A hv J
  obtain ⟨c,rfl⟩:∃c:Nat,sc=c:=⟨sc.toNat,by omega⟩
  obtain ⟨g1,g2,g3⟩:=hM.lens (k:=c) J
  have hIG:=hM.ok c J
  have hS:=c4p (m:=m) (sq:=sq) (sv:=sv) (c:=c) h4
  refine d7 19 [0,1,2,3,4,5,7] mixed a6 Z Z (λr0=>?_) (λ_ h=>h)
  refine C5 ?_
  refine a0v ?_
  refine zsa 7 ?_
  refine zsa 8 ?_
  refine zsa 9 ?_
  refine b6 (rs:=[10]) a6 Z (AllB.cons ?_ AllB.nil)
  refine c8 [0,1,2,3,4,5,7] Z Z (c4 11 Z Z Z (ArgsOK.of Z) (a3O (m.cp.getD c default) hIG) Z Z (a8 ⟨Z,?_⟩))
  refine zsa 11 ?_
  refine zsa 12 ?_
  refine zsa 13 ?_
  refine zsa 14 ?_
  refine b6 (rs:=[15]) a6 Z (AllB.cons ?_ AllB.nil)
  first | refine c7 [0,1,2,3,4,5,7] Z Z (b7 Z Z (d8 G Z Z Z Z Z J O4) (a8 ⟨Z,?_⟩)) | refine c7 [0,1,2,3,4,5,7] Z Z (b7 Z Z (d8 G Z Z Z Z Z J I1) (a8 ⟨Z,?_⟩)) | refine c7 [0,1,2,3,4,5,7] Z Z (b7 Z Z (d8 G Z Z Z Z Z J J) (a8 ⟨Z,?_⟩))
  refine b6 (rs:=[16]) a6 Z (AllB.cons ?_ AllB.nil)
  first | refine c7 [0,1,2,3,4,5,7] Z Z (j6 G Z Z Z Z Z (w9 J J) Z Z (.v Z (.own Z (.own Z (.own Z .nil)))) Z Z Z (Nat.le_of_ble_eq_true Z) (λq h=>by cases h) Z (a8 ⟨Z,?_⟩)) | refine c7 [0,1,2,3,4,5,7] Z Z (j6 G Z Z Z Z Z (C7 J J) Z Z (.v Z (.own Z (.own Z (.own Z .nil)))) Z Z Z (Nat.le_of_ble_eq_true Z) (λq h=>by cases h) Z (a8 ⟨Z,?_⟩)) | refine c7 [0,1,2,3,4,5,7] Z Z (j6 G Z Z Z Z Z (C9 I1 Z) Z Z (.v Z (.own Z (.own Z (.own Z .nil)))) Z Z Z (Nat.le_of_ble_eq_true Z) (λq h=>by cases h) Z (a8 ⟨Z,?_⟩))
  refine zsa 17 ?_
  refine zsa 18 ?_
  refine vm6 ?_
  refine p7 ?_
  first | refine A7 (Gh.nestF (id:=6) _ Z (T4 (x:=(R6 (m.cp.getD c default)).1) (.cons .s (.cons .s (.cons .s (.cons .t .nil)))))) ?_ | refine A7 (Gh.nestF (id:=6) _ Z (T4 (x:=(X1 (m.cp.getD c default)).1) (.cons .s (.cons .s (.cons .s (.cons .t .nil)))))) ?_ | refine A7 (Gh.nestF (id:=6) _ Z (T4 (x:=⟨sv,(m.cp.getD c default).st,(m.cp.getD c default).qu⟩) (.cons .s (.cons .s (.cons .s (.cons .s .nil)))))) ?_ | skip
  refine zgo ?_
  refine g8 (m5 Z Z Z Z (a7 (b8 Z ?_) (a7 (b8 Z ?_) (a7 (b8 Z ?_) (a7 (t8 Z ?_) (a7 (p5 ?_) (a7 (p5 ?_) d5)))))))
  all_goals exact a9a
 refine zcd (λh5=>?_) (λh5=>?_)
 ·have hc:=a2A hv J
  obtain ⟨c,rfl⟩:∃c:Nat,sc=c:=⟨sc.toNat,by omega⟩
  obtain ⟨g1,g2,g3⟩:=hM.lens (k:=c) J
  have hIG:=hM.ok c J
  have hS:=sm5 (m:=m) (sq:=sq) (sv:=sv) (c:=c) h5
  refine b7M ?_
  refine b3s ?_
  refine vm4 ?_
  first | refine j6 G Z Z Z Z Z (w9 J J) Z Z (.v Z .nil) Z Z Z (Nat.le_of_ble_eq_true Z) (λq h=>by cases h) Z ?_ | refine j6 G Z Z Z Z Z (C7 J J) Z Z (.v Z .nil) Z Z Z (Nat.le_of_ble_eq_true Z) (λq h=>by cases h) Z ?_ | refine j6 G Z Z Z Z Z (C9 I1 Z) Z Z (.v Z .nil) Z Z Z (Nat.le_of_ble_eq_true Z) (λq h=>by cases h) Z ?_
  refine E9 ?_
  first | refine A7 (Gh.nestF (id:=6) _ Z (T4 (x:=(R6 (m.cp.getD c default)).1) (.cons .s (.cons .s (.cons .s (.cons .t .nil)))))) ?_ | refine A7 (Gh.nestF (id:=6) _ Z (T4 (x:=(X1 (m.cp.getD c default)).1) (.cons .s (.cons .s (.cons .s (.cons .t .nil)))))) ?_ | refine A7 (Gh.nestF (id:=6) _ Z (T4 (x:=⟨sv,(m.cp.getD c default).st,(m.cp.getD c default).qu⟩) (.cons .s (.cons .s (.cons .s (.cons .s .nil)))))) ?_ | skip
  refine zgo ?_
  refine g8 (m5 Z Z Z Z (a7 (b8 Z ?_) (a7 (b8 Z ?_) (a7 (b8 Z ?_) (a7 (t8 Z ?_) (a7 (p5 ?_) (a7 (p5 ?_) d5)))))))
  all_goals exact a9a
 refine zcd (λh6=>?_) (λh6=>?_)
 ·have hq:=a9E hv J
  obtain ⟨q,rfl⟩:∃q:Nat,sq=q:=⟨sq.toNat,by omega⟩
  have hS:=sm6 (m:=m) (sk:=sk) (sc:=sc) (sv:=sv) (q:=q) h6
  refine b7N ?_
  refine E9 ?_
  first | refine A7 (Gh.nestF (id:=6) _ Z (T4 (x:=(R6 (m.cp.getD c default)).1) (.cons .s (.cons .s (.cons .s (.cons .t .nil)))))) ?_ | refine A7 (Gh.nestF (id:=6) _ Z (T4 (x:=(X1 (m.cp.getD c default)).1) (.cons .s (.cons .s (.cons .s (.cons .t .nil)))))) ?_ | refine A7 (Gh.nestF (id:=6) _ Z (T4 (x:=⟨sv,(m.cp.getD c default).st,(m.cp.getD c default).qu⟩) (.cons .s (.cons .s (.cons .s (.cons .s .nil)))))) ?_ | skip
  refine zgo ?_
  refine g8 (m5 Z Z Z Z (a7 (b8 Z ?_) (a7 (b8 Z ?_) (a7 (b8 Z ?_) (a7 (t8 Z ?_) (a7 (p5 ?_) (a7 (p5 ?_) d5)))))))
  all_goals exact a9a
 exact absurd (b4O hv) J
theorem a8f (m:Mach) (ss:List MStep) (hs:SmallM m) (hl:ss.length<=1048576):Ctr Tryz.prog 41 [.agg [.lst 2 (m.rs.map n6),.lst 1 (m.en.map e7),.lst 1 (m.ra.map e7),.nst none 4 (m.cp.map (r3 154 183))],.lst 4 (ss.map a0Q)] (.many [.v (.int .i64 (agT m ss).1),.v (.bool (agT m ss).2)]):=by
 refine Ctr.of (n:=78) G Tryz.func41 Z a6 Z Z Z (λw0=>?_)
 refine j8 0 Z (λ_=>Z) (λu0=>?_)
 refine w8 ?_
 refine zcl (G7 m hs) ?_
 refine zcd (λh1=>?_) (λh1=>?_)
 ·have hR:=b19 (ss:=ss) h1
  refine zwt ?_
  exact a70
 have hM:=maF h1
 refine zcd (λh2=>?_) (λh2=>?_)
 ·have hR:=a93 (m:=m) (ss:=ss) (a0o (.inl J))
  refine zwt ?_
  exact a70
 refine zgo ?_
 refine S9 ?_
 refine a7Z ?_
 refine zcl (u5 ss 105 m (λx=>!s4 m.cp.length x) hl (λk hk=>a6e _ m hs.cp)) ?_
 refine zcd (λh3=>?_) (λh3=>?_)
 ·obtain ⟨j,hj,hj2⟩:=a1D.mp h3
  have hR:=a93 (m:=m) (ss:=ss) (a0o (.inr ⟨j,hj,by simpa using hj2⟩))
  exact a70
 have hv:∀i,i < ss.length→s4 m.cp.length (ss.getD i default)=true:=λi hi=>by simpa using R4.mp h3 i hi
 have hsv:=P2.mpr ⟨show ss.length<=30 by omega,hv⟩
 have hRt:=b5J h1 hsv
 refine m3 ?_
 refine c4 6 Z Z Z (ArgsOK.of Z) (a07 m hM hs) Z Z ?_
 refine vm4 ?_
 refine b1h ?_
 refine zgn ?_
 refine zgn ?_
 refine r7 (A7 (Gh.bump 11 (by decide)) (f6 [1,2,6,30,31] [] (λ(x:Bool×Nat×Mach×Abs)=>match x.1 with | false=>[(32,.v (.int .i64 (x.2.1:Int)))] | true=>[(32,.v (.int .i64 (x.2.1:Int)))]) (λ(x:Bool×Nat×Mach×Abs)=>match x.1 with | false=>[(0,some (.box [.pin (u0 0) 2 (m.rs.map n6),.pin (u0 1) 1 (m.en.map e7),.pin (u0 2) 1 (m.ra.map e7),.nst (some (u0 3)) 4 (m.cp.map (r3 154 183))])),(1,some (.row 4 1 (x.2.2.2.en.map e7))),(2,some (.row 4 1 (x.2.2.2.ra.map e7))),(3,some (.row 4 1 (x.2.2.2.po.map e7))),(4,some (.row 3 1 (x.2.2.2.ma.map Rf.l8))),(5,some (.nest 26 1 (x.2.2.2.st.map p8) [])),(6,some (.box [.own 1,.own 2,.own 3,.own 4,.own 5]))] | true=>[(0,some (.box [.own 7,.own 8,.own 9,.own 10])),(1,some (.row 4 1 (x.2.2.2.en.map e7))),(2,some (.row 4 1 (x.2.2.2.ra.map e7))),(3,some (.row 4 1 (x.2.2.2.po.map e7))),(4,some (.row 3 1 (x.2.2.2.ma.map Rf.l8))),(5,some (.nest 26 1 (x.2.2.2.st.map p8) [])),(6,some (.box [.own 1,.own 2,.own 3,.own 4,.own 5])),(7,some (.row 118 2 (x.2.2.1.rs.map n6))),(8,some (.row 4 1 (x.2.2.1.en.map e7))),(9,some (.row 4 1 (x.2.2.1.ra.map e7))),(10,some (.nest 113 4 (x.2.2.1.cp.map (a1i 154 183)) []))]) (λ(x:Bool×Nat×Mach×Abs)=>x.2.1<=ss.length/\agN m ss x.2.1=some x.2.2/\AgF m x.2.2/\(x.1=false→x.2.2.1=m)) (λ(x:Bool×Nat×Mach×Abs)=>ss.length - x.2.1) (false,0,m,abOf m) Z Z ?_ ?_ ?_ ?_))
 ·exact ⟨Nat.zero_le _,Z,b8n hM.g,λ_=>Z⟩
 ·exact R7
 ·exact b9B
 intro x hinv
 obtain ⟨ph,i,m1,a1⟩:=x;obtain ⟨hi,hag,hF,hph⟩:=hinv;dsimp only at hi hag hF hph;cases ph
 ·have e:m=m1:=(hph Z).symm
  subst e
  have hvm:=hv i
  have hva:i < ss.length→s4 a1.ma.length (ss.getD i default)=true:=λh=>b3l
  have hsz:=hF.g.small
  dsimp only
  refine vm2 ?_
  refine zcd (λh4=>?_) (λh4=>?_)
  ·refine m3 ?_
   refine b1j ?_
   refine m3 ?_
   refine c4 16 Z Z Z (ArgsOK.of Z) (P7 m _ _ _ _ hF.g (hvm J)) Z Z ?_
   refine m3 ?_
   refine g9 G 17 Z Z Z Z Z ?_
   refine E9 ?_
   by_cases hno:noS m.rs a1 (ss.getD i default)
   ·have hmk:=a7G hno
    refine zgo ?_
    refine b5 Z (a1y 17 Z Z Z (ArgsOK.of Z) (H8 m.rs a1 _ _ _ _ hF.f (hva J) hno) (λ_=>Z) Z (λy1=>?_))
    refine m3 ?_
    refine g9 G 18 Z Z Z Z Z ?_
    refine zgn ?_
    refine p7 (p7 (d7 18 [0,1,2,3,4,5,6,11,12,13,14,15,16,17] mixed a6 Z Z (λr0=>?_) (λ_ h=>h)))
    refine b1f ?_
    refine C4 (gd:=56) Z (λh5=>?_) (λh5=>?_)
    ·try rw [h5]
     try simp only [rfb] at h5
     have hst:agS (m,a1) (ss.getD i default)=none:=a29 (by show (stM m (ss.getD i default)).2.2≠(n7 m.rs a1 (ss.getD i default)).2.2;rw [hmk];first | exact h5 | (intro e;rw [e] at h5;cases h5) | simpa using h5)
     exact a6G
    try rw [h5]
    try simp only [rfb] at h5
    have hok:(stM m (ss.getD i default)).2.2=false:=(by first | exact h5 | simpa using h5)
    have hst:agS (m,a1) (ss.getD i default)=some (m,a1):=a2i (by show (stM m (ss.getD i default)).2.2=(n7 m.rs a1 (ss.getD i default)).2.2;rw [hmk];exact hok) hok
    refine Q4 ?_
    refine C4 (gd:=58) Z (λh6=>?_) (λh6=>?_)
    ·try rw [h6]
     try simp only [rfb] at h6
     exfalso;rw [hok] at h6;cases h6
    try rw [h6]
    try simp only [rfb] at h6
    exact c3W
   refine m3 ?_
   refine c4 22 Z Z Z (ArgsOK.of Z) (N9 m.rs a1 _ _ _ _ hF.f (hva J) hno) Z Z ?_
   refine m3 ?_
   refine g9 G 23 Z Z Z Z Z ?_
   refine zgn ?_
   refine p7 (p7 (d7 18 [0,1,2,3,4,5,6,11,12,13,14,15,16,17,18,19,20,21,22] mixed a6 Z Z (λr0=>?_) (λ_ h=>h)))
   refine b1f ?_
   refine C4 (gd:=56) Z (λh7=>?_) (λh7=>?_)
   ·try rw [h7]
    try simp only [rfb] at h7
    have hst:agS (m,a1) (ss.getD i default)=none:=a29 (by show (stM m (ss.getD i default)).2.2≠(n7 m.rs a1 (ss.getD i default)).2.2;first | exact h7 | simpa using h7)
    exact a6G
   try rw [h7]
   try simp only [rfb] at h7
   have heq:(stM m (ss.getD i default)).2.2=(n7 m.rs a1 (ss.getD i default)).2.2:=(by first | exact h7 | simpa using h7)
   refine Q4 ?_
   refine C4 (gd:=58) Z (λh8=>?_) (λh8=>?_)
   ·try rw [h8]
    try simp only [rfb] at h8
    have hok:(stM m (ss.getD i default)).2.2=true:=h8
    have hFn:=b20 hF (hv i J) hok
    refine zsa 6 ?_
    refine zsa 7 ?_
    refine zsa 8 ?_
    refine zsa 9 ?_
    refine C4 (gd:=62) Z (λh9=>?_) (λh9=>?_)
    ·try rw [h9]
     try simp only [rfb] at h9
     have hst:agS (m,a1) (ss.getD i default)=none:=a6y heq hok (λe=>h9 e.1)
     exact b3B
    try rw [h9]
    try simp only [rfb] at h9
    have hir:(stM m (ss.getD i default)).2.1=(n7 m.rs a1 (ss.getD i default)).2.1:=h9
    refine zsa 10 ?_
    refine zsa 12 ?_
    refine b6 (rs:=[11]) a6 Z (AllB.cons ?_ AllB.nil)
    refine a0L [0,1,2,3,4,5,6,11,12,13,14,15,16,17,18,19,20,21,22] Z Z Z Z (c4 28 Z Z Z (ArgsOK.of Z) (Ctr.argsTo (Y6 _ hFn.g hFn.g.small) (λw vs h=>b5Q flM vs h)) Z Z (a8 ⟨Z,?_⟩))
    refine b6 (rs:=[13]) a6 Z (AllB.cons ?_ AllB.nil)
    refine a0L [0,1,2,3,4,5,6,11,12,13,14,15,16,17,18,19,20,21,22] Z Z Z Z (b7 Z Z (l9 Z (ArgsOK.of Z) (X6 _ _ _ (a52 hFn.g) hFn.f) Z) (a8 ⟨Z,?_⟩))
    refine zsa 14 ?_
    refine zsa 15 ?_
    refine zsa 16 ?_
    refine zsa 17 ?_
    refine vm6 ?_
    refine zcd (λh10=>?_) (λh10=>?_)
    ·have hst:agS (m,a1) (ss.getD i default)=none:=a6y heq hok (λe=>by have e2:=O2.mpr e.2;rw [h10] at e2;cases e2)
     exact b3C
    have hst:agS (m,a1) (ss.getD i default)=some ((stM m (ss.getD i default)).1,(n7 m.rs a1 (ss.getD i default)).1):=b05 heq hok hir (O2.mp h10)
    refine zwt ?_
    refine d7 4 [1,2,3,4,5,11,12,13,14,15,16,17,18,19,20,21,22,23,24,25,26,27] mixed a6 Z Z (λr0=>?_) (λ_ h=>h)
    refine zsa 0 ?_
    refine zsa 1 ?_
    refine b6 (rs:=[2]) a6 Z (AllB.cons ?_ AllB.nil)
    refine c8 [1,2,3,4,5,11,12,13,14,15,16,17,18,19,20,21,22,23,24,25,26,27] Z Z ?_
    refine F6 ?_
    refine b6 (rs:=[3]) a6 Z (AllB.cons ?_ AllB.nil)
    refine c8 [1,2,3,4,5,11,12,13,14,15,16,17,18,19,20,21,22,23,24,25,26,27] Z Z ?_
    refine F6 ?_
    refine vm6 ?_
    refine e9 ?_
    refine G9 ?_
    exact c3T
   try rw [h8]
   try simp only [rfb] at h8
   have hok:(stM m (ss.getD i default)).2.2=false:=h8
   have hst:agS (m,a1) (ss.getD i default)=some (m,a1):=a2i heq hok
   refine b39 ?_
   refine ⟨(false,i+1,m,a1),?_,?_,⟨⟨_,Z,by rfl⟩,Z,trivial⟩,⟨⟨_,Z,by rfl⟩,Z,Z,⟨⟨_,Z,by rfl⟩,Z,Z,⟨⟨_,Z,by rfl⟩,Z,Z,⟨⟨_,Z,by rfl⟩,Z,Z,⟨⟨_,Z,by rfl⟩,Z,Z,⟨⟨_,Z,by rfl⟩,Z,Z,⟨⟨_,Z,by rfl⟩,Z,Z,trivial⟩⟩⟩⟩⟩⟩⟩,Z,Z,Z⟩
   ·exact b6C
   dsimp only;omega
  have hR:agT m ss=((ss.length:Int),true):=by rw [hRt,a5q hag J]
  refine zgo ?_
  refine g8 (G1 Z Z Z Z (a7 (p5 ?_) (a7 (p5 ?_) d5)))
  all_goals exact b1b
 have hvm:i < ss.length→s4 m1.cp.length (ss.getD i default)=true:=λh=>(by rw [show m1.cp.length=m.cp.length from hF.n];exact hv i h)
 have hva:i < ss.length→s4 a1.ma.length (ss.getD i default)=true:=λh=>b3l
 have hsz:=hF.g.small
 dsimp only
 refine vm2 ?_
 refine zcd (λh11=>?_) (λh11=>?_)
 ·refine m3 ?_
  refine b1j ?_
  refine m3 ?_
  refine c4 16 Z Z Z (ArgsOK.of Z) (Ctr.argsTo (P7 m1 (ss.getD i default).k (ss.getD i default).q (ss.getD i default).c (ss.getD i default).v hF.g (hvm J)) (λw vs h=>b5Q flM vs h)) Z Z ?_
  refine m3 ?_
  refine g9 G 17 Z Z Z Z Z ?_
  refine E9 ?_
  by_cases hno:noS m1.rs a1 (ss.getD i default)
  ·have hmk:=a7G hno
   refine zgo ?_
   refine b5 Z (a1y 17 Z Z Z (ArgsOK.of Z) (H8 m1.rs a1 _ _ _ _ hF.f (hva J) hno) (λ_=>Z) Z (λy2=>?_))
   refine m3 ?_
   refine g9 G 18 Z Z Z Z Z ?_
   refine zgn ?_
   refine p7 (p7 (d7 18 [0,1,2,3,4,5,6,7,8,9,10,11,12,13,14,15,16,17] mixed a6 Z Z (λr0=>?_) (λ_ h=>h)))
   refine b1f ?_
   refine C4 (gd:=56) Z (λh12=>?_) (λh12=>?_)
   ·try rw [h12]
    try simp only [rfb] at h12
    have hst:agS (m1,a1) (ss.getD i default)=none:=a29 (by show (stM m1 (ss.getD i default)).2.2≠(n7 m1.rs a1 (ss.getD i default)).2.2;rw [hmk];first | exact h12 | (intro e;rw [e] at h12;cases h12) | simpa using h12)
    exact a6G
   try rw [h12]
   try simp only [rfb] at h12
   have hok:(stM m1 (ss.getD i default)).2.2=false:=(by first | exact h12 | simpa using h12)
   have hst:agS (m1,a1) (ss.getD i default)=some (m1,a1):=a2i (by show (stM m1 (ss.getD i default)).2.2=(n7 m1.rs a1 (ss.getD i default)).2.2;rw [hmk];exact hok) hok
   refine Q4 ?_
   refine C4 (gd:=58) Z (λh13=>?_) (λh13=>?_)
   ·try rw [h13]
    try simp only [rfb] at h13
    exfalso;rw [hok] at h13;cases h13
   try rw [h13]
   try simp only [rfb] at h13
   exact c3U
  refine m3 ?_
  refine c4 22 Z Z Z (ArgsOK.of Z) (N9 m1.rs a1 _ _ _ _ hF.f (hva J) hno) Z Z ?_
  refine m3 ?_
  refine g9 G 23 Z Z Z Z Z ?_
  refine zgn ?_
  refine p7 (p7 (d7 18 [0,1,2,3,4,5,6,7,8,9,10,11,12,13,14,15,16,17,18,19,20,21,22] mixed a6 Z Z (λr0=>?_) (λ_ h=>h)))
  refine b1f ?_
  refine C4 (gd:=56) Z (λh14=>?_) (λh14=>?_)
  ·try rw [h14]
   try simp only [rfb] at h14
   have hst:agS (m1,a1) (ss.getD i default)=none:=a29 (by show (stM m1 (ss.getD i default)).2.2≠(n7 m1.rs a1 (ss.getD i default)).2.2;first | exact h14 | simpa using h14)
   exact a6G
  try rw [h14]
  try simp only [rfb] at h14
  have heq:(stM m1 (ss.getD i default)).2.2=(n7 m1.rs a1 (ss.getD i default)).2.2:=(by first | exact h14 | simpa using h14)
  refine Q4 ?_
  refine C4 (gd:=58) Z (λh15=>?_) (λh15=>?_)
  ·try rw [h15]
   try simp only [rfb] at h15
   have hok:(stM m1 (ss.getD i default)).2.2=true:=h15
   have hFn:=b20 hF (hv i J) hok
   refine zsa 6 ?_
   refine zsa 7 ?_
   refine zsa 8 ?_
   refine zsa 9 ?_
   refine C4 (gd:=62) Z (λh16=>?_) (λh16=>?_)
   ·try rw [h16]
    try simp only [rfb] at h16
    have hst:agS (m1,a1) (ss.getD i default)=none:=a6y heq hok (λe=>h16 e.1)
    exact b3B
   try rw [h16]
   try simp only [rfb] at h16
   have hir:(stM m1 (ss.getD i default)).2.1=(n7 m1.rs a1 (ss.getD i default)).2.1:=h16
   refine zsa 10 ?_
   refine zsa 12 ?_
   refine b6 (rs:=[11]) a6 Z (AllB.cons ?_ AllB.nil)
   refine a0L [0,1,2,3,4,5,6,7,8,9,10,11,12,13,14,15,16,17,18,19,20,21,22] Z Z Z Z (c4 28 Z Z Z (ArgsOK.of Z) (Ctr.argsTo (Y6 _ hFn.g hFn.g.small) (λw vs h=>b5Q flM vs h)) Z Z (a8 ⟨Z,?_⟩))
   refine b6 (rs:=[13]) a6 Z (AllB.cons ?_ AllB.nil)
   refine a0L [0,1,2,3,4,5,6,7,8,9,10,11,12,13,14,15,16,17,18,19,20,21,22] Z Z Z Z (b7 Z Z (l9 Z (ArgsOK.of Z) (X6 _ _ _ (a52 hFn.g) hFn.f) Z) (a8 ⟨Z,?_⟩))
   refine zsa 14 ?_
   refine zsa 15 ?_
   refine zsa 16 ?_
   refine zsa 17 ?_
   refine vm6 ?_
   refine zcd (λh17=>?_) (λh17=>?_)
   ·have hst:agS (m1,a1) (ss.getD i default)=none:=a6y heq hok (λe=>by have e2:=O2.mpr e.2;rw [h17] at e2;cases e2)
    exact b3C
   have hst:agS (m1,a1) (ss.getD i default)=some ((stM m1 (ss.getD i default)).1,(n7 m1.rs a1 (ss.getD i default)).1):=b05 heq hok hir (O2.mp h17)
   refine zwt ?_
   refine d7 4 [1,2,3,4,5,7,8,9,10,11,12,13,14,15,16,17,18,19,20,21,22,23,24,25,26,27] mixed a6 Z Z (λr0=>?_) (λ_ h=>h)
   refine zsa 0 ?_
   refine zsa 1 ?_
   refine b6 (rs:=[2]) a6 Z (AllB.cons ?_ AllB.nil)
   refine b9i ?_
   refine b6 (rs:=[3]) a6 Z (AllB.cons ?_ AllB.nil)
   refine b9i ?_
   refine vm6 ?_
   refine e9 ?_
   refine G9 ?_
   exact c3S
  try rw [h15]
  try simp only [rfb] at h15
  have hok:(stM m1 (ss.getD i default)).2.2=false:=h15
  have hst:agS (m1,a1) (ss.getD i default)=some (m1,a1):=a2i heq hok
  refine b39 ?_
  refine ⟨(true,i+1,m1,a1),?_,?_,⟨⟨_,Z,by rfl⟩,Z,trivial⟩,⟨⟨_,Z,by rfl⟩,Z,Z,⟨⟨_,Z,by rfl⟩,Z,Z,⟨⟨_,Z,by rfl⟩,Z,Z,⟨⟨_,Z,by rfl⟩,Z,Z,⟨⟨_,Z,by rfl⟩,Z,Z,⟨⟨_,Z,by rfl⟩,Z,Z,⟨⟨_,Z,by rfl⟩,Z,Z,⟨⟨_,Z,by rfl⟩,Z,Z,⟨⟨_,Z,by rfl⟩,Z,Z,⟨⟨_,Z,by rfl⟩,Z,Z,⟨⟨_,Z,by rfl⟩,Z,Z,trivial⟩⟩⟩⟩⟩⟩⟩⟩⟩⟩⟩,Z,Z,Z⟩
  ·exact b6B
  dsimp only;omega
 have hR:agT m ss=((ss.length:Int),true):=by rw [hRt,a5q hag J]
 refine zgo ?_
 refine g8 (G1 Z Z Z Z (a7 (p5 ?_) (a7 (p5 ?_) d5)))
 all_goals exact b1b
end Go.Proofs.YtcnodpipinlpcaaGreat
