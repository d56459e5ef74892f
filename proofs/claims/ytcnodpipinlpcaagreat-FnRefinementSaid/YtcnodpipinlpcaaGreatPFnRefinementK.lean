/- Texts merged into one: E2, M10, M19, M29, A4. -/
import Derived.Test.YtcnodpipinlpcaaGreatPFnRefinementJ
set_option maxHeartbeats 4000000
set_option linter.unusedSimpArgs false
set_option linter.unusedVariables false
set_option maxRecDepth 20000
namespace Go.Proofs.YtcnodpipinlpcaaGreat
open Go Go.Rf
theorem a3P (x:MStep) (m:Mach) (hn:m.cp.length<=1048576):Ctr Tryz.prog 111 [.v (a0R x),.eptN [.lst 2 (m.rs.map n6),.lst 1 (m.en.map e7),.lst 1 (m.ra.map e7),.nst none 4 (m.cp.map (r3 154 183))]] (.one (.v (.bool (!s4 m.cp.length x)))):=by
 refine Ctr.of (n:=8) G Tryz.func111 Z a6 Z Z Z (λw0=>?_)
 exact b9Q
theorem a5K (m:Mach) (ss:List MStep) (hs:SmallM m) (hl:ss.length<=1048576):Ctr Tryz.prog 44 [.agg [.lst 2 (m.rs.map n6),.lst 1 (m.en.map e7),.lst 1 (m.ra.map e7),.nst none 4 (m.cp.map (r3 154 183))],.lst 4 (ss.map a0Q)] (.shp false [some 4,none,none] [.fr 118 2 ((rmT m ss).1.rs.map n6),.fr 4 1 ((rmT m ss).1.en.map e7),.fr 4 1 ((rmT m ss).1.ra.map e7),.ne 113 4 ((rmT m ss).1.cp.map (a1i 154 183)),.fr 3 1 ((rmT m ss).2.1.map Rf.l8),.v (.bool (rmT m ss).2.2)]):=by
 refine Ctr.of (n:=57) G Tryz.func44 Z a6 Z Z Z (λw0=>?_)
 refine j8 0 Z (λ_=>Z) (λu0=>?_)
 refine L6 ?_
 refine zcl (G7 m hs) ?_
 refine zcd (λh1=>?_) (λh1=>?_)
 ·have hR:=c1K (ss:=ss) h1
  refine zwt ?_
  exact c2o
 have hM:=maF h1
 have hmG:=mG.mp h1
 refine zcd (λh2=>?_) (λh2=>?_)
 ·have hR:=b58 (m:=m) (ss:=ss) (a0o (.inl J))
  refine zwt ?_
  exact c2o
 refine zgo ?_
 refine S9 ?_
 refine a7Z ?_
 refine zcl (u5 ss 111 m (λx=>!s4 m.cp.length x) hl (λk hk=>a3P _ m hs.cp)) ?_
 refine zcd (λh3=>?_) (λh3=>?_)
 ·obtain ⟨j,hj,hj2⟩:=a1D.mp h3
  have hR:=b58 (m:=m) (ss:=ss) (a0o (.inr ⟨j,hj,by simpa using hj2⟩))
  exact c2o
 have hv:∀i,i < ss.length→s4 m.cp.length (ss.getD i default)=true:=λi hi=>by simpa using R4.mp h3 i hi
 have hsv:=P2.mpr ⟨show ss.length<=30 by omega,hv⟩
 have hR:=b8y h1 hsv
 refine m3 ?_
 refine c4 6 Z Z Z (ArgsOK.of Z) (a04 m hM.g) Z Z ?_
 refine vm4 ?_
 refine p4 G 7 Z Z Z Z Z Z Z Z ?_
 refine vm4 ?_
 refine b1g ?_
 refine E9 ?_
 refine p7 (A7 (Gh.nestF (id:=5) _ Z flM) ?_)
 refine zgo ?_
 refine f6 [4,7,31,32] [1] (λ(i:Nat)=>[(8,.own 6),(33,.v (.int .i64 (i:Int)))]) (λ(i:Nat)=>[(2,some (.row 118 2 ((rmN m ss i).1.rs.map n6))),(3,some (.row 4 1 ((rmN m ss i).1.en.map e7))),(4,some (.row 4 1 ((rmN m ss i).1.ra.map e7))),(5,some (.nest 113 4 ((rmN m ss i).1.cp.map (a1i 154 183)) [])),(6,some (.row 3 1 ((rmN m ss i).2.map Rf.l8))),(7,some (.box [.own 2,.own 3,.own 4,.own 5]))]) (λ(i:Nat)=>i<=ss.length) (λ(i:Nat)=>ss.length - i) 0 Z Z ?_ ?_ ?_ ?_
 ·exact H0
 ·exact a71
 ·exact b71
 intro i hinv
 have hi:=hinv
 obtain ⟨hmg,hmr,hmc⟩:=b09 hmG hv i J
 have hvm:i < ss.length→s4 (rmN m ss i).1.cp.length (ss.getD i default)=true:=λh=>(by rw [hmc];exact hv i h)
 have hli:=@a97 m ss i
 refine vm2 ?_
 refine zcd (λh4=>?_) (λh4=>?_)
 ·refine m3 ?_
  refine b0a ?_
  refine m3 ?_
  refine c4 13 Z Z Z (ArgsOK.of Z) (Ctr.argsTo (P7 (rmN m ss i).1 (ss.getD i default).k (ss.getD i default).q (ss.getD i default).c (ss.getD i default).v hmg.G (hvm J)) (λw vs h=>b5Q flM vs h)) Z Z ?_
  refine m3 ?_
  refine g9 G 14 Z Z Z Z Z ?_
  refine zcd (λh5=>?_) (λh5=>?_)
  ·have hQ:=b54 h5
   refine zgo ?_
   refine ⟨(i+1),?_,?_,⟨⟨_,Z,by rfl⟩,Z,⟨⟨_,Z,by rfl⟩,Z,trivial⟩⟩,⟨⟨_,Z,by (first | rfl | (rw [hQ];done) | (rw [hQ1];done) | (rw [hQ2];done) | (rw [hQ2,List.map_append];rfl))⟩,Z,Z,⟨⟨_,Z,by (first | rfl | (rw [hQ];done) | (rw [hQ1];done) | (rw [hQ2];done) | (rw [hQ2,List.map_append];rfl))⟩,Z,Z,⟨⟨_,Z,by (first | rfl | (rw [hQ];done) | (rw [hQ1];done) | (rw [hQ2];done) | (rw [hQ2,List.map_append];rfl))⟩,Z,Z,⟨⟨_,Z,by (first | rfl | (rw [hQ];done) | (rw [hQ1];done) | (rw [hQ2];done) | (rw [hQ2,List.map_append];rfl))⟩,Z,Z,⟨⟨_,Z,by (first | rfl | (rw [hQ];done) | (rw [hQ1];done) | (rw [hQ2];done) | (rw [hQ2,List.map_append];rfl))⟩,Z,Z,⟨⟨_,Z,by (first | rfl | (rw [hQ];done) | (rw [hQ1];done) | (rw [hQ2];done) | (rw [hQ2,List.map_append];rfl))⟩,Z,Z,trivial⟩⟩⟩⟩⟩⟩,Z,Z,Z⟩
   ·omega
   omega
  have hQ1:=b55 h5
  refine zcd (λh6=>?_) (λh6=>?_)
  ·have hQ2:=c23 h5 h6
   refine m3 ?_
   refine p4 G 15 Z Z Z Z Z Z Z Z ?_
   refine vm9 ?_
   exact c3R
  have hQ2:=c1J h5 h6
  exact c3R
 obtain rfl:i=ss.length:=J
 refine zgo ?_
 refine g8 (m5 Z Z Z Z (a7 (b8 Z ?_) (a7 (b8 Z ?_) (a7 (b8 Z ?_) (a7 (t8 Z ?_) (a7 (b8 Z ?_) (a7 (p5 ?_) d5)))))))
 all_goals (first | (rw [hR];done) | (rw [hR];rfl))
theorem a1T (rs:List Route) (a:Abs) (hs:SmallA a) (hn:rs.length<=1048576):Ctr Tryz.prog 22 [.lst 2 (rs.map n6),.agg [.lst 1 (a.en.map e7),.lst 1 (a.ra.map e7),.lst 1 (a.po.map e7),.lst 1 (a.ma.map Rf.l8),.nst none 1 (a.st.map p8)]] (.shp false [some 4,none] [.fr 118 2 ((moT rs a).1.rs.map n6),.fr 4 1 ((moT rs a).1.en.map e7),.fr 4 1 ((moT rs a).1.ra.map e7),.ne 113 4 ((moT rs a).1.cp.map (r3 154 183)),.v (.bool (moT rs a).2)]):=by
 refine Ctr.of (n:=116) G Tryz.func22 Z a6 Z Z Z (λw0=>?_)
 refine j8 1 Z (λ_=>Z) (λu1=>?_)
 refine L6 ?_
 refine zcl (a74 rs a hs hn) ?_
 refine zcd (λh1=>?_) (λh1=>?_)
 ·exact b9y
 have hM:=b0T h1
 have hF:=a9w h1
 have hor:okRts rs a.ma.length=true:=(by simp only [absOK,Bool.and_eq_true] at h1;exact h1.1)
 have hr8:=s8.mp hor
 have hN:=a5f (rs:=rs) (c:=(a.ma.length:Int)) hor
 have cN:=a06 rs (a.ma.length:Int) hn
 rw [hN] at cN
 dsimp only at cN
 have hNl:(a6M rs ((a.ma.length:Int)).toNat).cp.length=a.ma.length:=(by simp [a6M])
 have f0:=hF.n
 have f1:=hF.rn
 have f2:=hF.st
 have f3:=hF.en
 have f4:=hF.ra
 have f5:=hF.po
 refine m3 ?_
 refine c4 6 Z Z Z (ArgsOK.of Z) cN Z Z ?_
 refine m3 ?_
 refine b1h ?_
 refine m3 ?_
 refine b6s ?_
 refine b7T ?_
 refine m3 ?_
 refine b6t ?_
 refine b7T ?_
 refine zgo ?_
 refine f6 [0,3,4,6] [0,1,2,6,7,8] (λ(k:Nat)=>[(8,.v (.int .i64 (k:Int)))]) (λ(k:Nat)=>[(5,some (.nest 113 4 ((over (moI rs a) (List.replicate a.ma.length a7P) k).map (r3 154 183)) []))]) (λ(k:Nat)=>k<=a.ma.length) (λ(k:Nat)=>a.ma.length - k) 0 Z Z ?_ ?_ ?_ ?_
 ·exact H0
 ·exact R7
 ·exact Y5
 intro k hk
 have hkl:=@b2V _ _ _ (moI rs a) (r3 154 183) a.ma.length k a7P hk
 refine vm2 ?_
 refine zcd (λh2=>?_) (λh2=>?_)
 ·have hS:=a7d h1 (k:=k) J
  have hX0:IfF (B8 rs (a.st.getD k default)):=b9e
  refine E9 ?_
  refine r7 (p7 ?_)
  refine c3d ?_
  refine E9 ?_
  refine p7 ?_
  refine c3F ?_
  refine A7 (Gh.detach (id:=5) Z) ?_
  refine zgo ?_
  refine f6 [0,3,4,6,8,9] [0,1,2,5,6,7,8] (λ(i:Nat)=>[(10,.v (.int .i64 (i:Int)))]) (λ(i:Nat)=>[(9,some (.row 3 1 ((B8 rs ((a.st.getD k default).take i)).st.map Rf.l8))),(10,some (.row 154 3 ((B8 rs ((a.st.getD k default).take i)).qu.sl.map f9))),(11,some (.row 183 2 ((B8 rs ((a.st.getD k default).take i)).qu.wa.map i5))),(12,some (.box [.v (.int .i64 (B8 rs ((a.st.getD k default).take i)).ma),.own 9,.own 10,.own 11]))]) (λ(i:Nat)=>i<=(a.st.getD k default).length) (λ(i:Nat)=>(a.st.getD k default).length - i) 0 Z Z ?_ ?_ ?_ ?_
  ·exact H0
  ·exact R7
  ·exact b6H
  intro i hi
  have hX:=hS.take hi
  have hLn:=hS.n
  refine vm2 ?_
  refine m3 ?_
  refine a4t ?_
  refine zcd (λh3=>?_) (λh3=>?_)
  ·obtain ⟨hR1,hR2,hR3,hs4⟩:=hS.step (i:=i) J
   have hel:=hS.el i J
   have hs4i:=a7e hR3
   refine m3 ?_
   refine a4t ?_
   refine zgn ?_
   refine d7 13 [0,1,2,5,6,7,8,9,10,11] mixed a6 Z Z (λr0=>?_) (λ_ h=>h)
   refine zsa 1 ?_
   refine zsa 2 ?_
   refine zsa 3 ?_
   refine a0v ?_
   refine b6 (rs:=[0]) a6 Z (AllB.cons ?_ AllB.nil)
   refine b38 ?_
   refine b6 (rs:=[7]) a6 Z (AllB.cons ?_ AllB.nil)
   refine c8 [0,1,2,5,6,7,8,9,10,11] Z Z (c4 16 Z Z Z (ArgsOK.of Z) (E5 _ _ _ hX hel.1 hel.2) Z Z (a8 ⟨Z,?_⟩))
   refine b6 (rs:=[8]) a6 Z (AllB.cons ?_ AllB.nil)
   refine c8 [0,1,2,5,6,7,8,9,10,11] Z Z (c4 19 Z Z Z (ArgsOK.of Z) (a0y _ hR1 hR3) Z Z (a8 ⟨Z,?_⟩))
   refine zsa 9 ?_
   refine zsa 10 ?_
   refine zsa 11 ?_
   refine b6 (rs:=[12]) a6 Z (AllB.cons ?_ AllB.nil)
   refine b38 ?_
   refine vm6 ?_
   refine X3 ?_
   exact c30
  have hXe:B8 rs ((a.st.getD k default).take i)=B8 rs (a.st.getD k default):=(by rw [List.take_of_length_le J])
  refine zgo ?_
  refine f6 [0,3,4,6,8,9] [0,1,2,5,6,7,8] (λ(i:Nat)=>[(12,.v (.int .i64 (i:Int)))]) (λ(i:Nat)=>[(9,some (.row 3 1 ((a0p rs a.po k (B8 rs (a.st.getD k default)) i).st.map Rf.l8))),(10,some (.row 154 3 ((a0p rs a.po k (B8 rs (a.st.getD k default)) i).qu.sl.map f9))),(11,some (.row 183 2 ((a0p rs a.po k (B8 rs (a.st.getD k default)) i).qu.wa.map i5))),(12,some (.box [.v (.int .i64 (a0p rs a.po k (B8 rs (a.st.getD k default)) i).ma),.own 9,.own 10,.own 11]))]) (λ(i:Nat)=>i<=8) (λ(i:Nat)=>8 - i) 0 Z Z ?_ ?_ ?_ ?_
  ·exact H0
  ·exact R7
  ·exact b9s
  intro i hi
  have hY:=a9Q (po:=a.po) (k:=k) hX0 (λi hi=>(hr8.2.2 i hi).1) i hi
  have hpr:=λh=>(hr8.2.2 i h).1
  refine vm2 ?_
  refine zcd (λh4=>?_) (λh4=>?_)
  ·refine zcd (λh5=>?_) (λh5=>?_)
   ·refine zcd (λh6=>?_) (λh6=>?_)
    ·refine d7 9 [0,1,2,5,6,7,8,9,10,11] mixed a6 Z Z (λr0=>?_) (λ_ h=>h)
     refine zsa 1 ?_
     refine zsa 2 ?_
     refine zsa 3 ?_
     refine a0v ?_
     refine b6 (rs:=[0]) a6 Z (AllB.cons ?_ AllB.nil)
     refine b38 ?_
     refine b6 (rs:=[7]) a6 Z (AllB.cons ?_ AllB.nil)
     refine c8 [0,1,2,5,6,7,8,9,10,11] Z Z (c4 16 Z Z Z (ArgsOK.of Z) (E5 _ _ _ hY J (hpr J)) Z Z (a8 ⟨Z,?_⟩))
     refine b6 (rs:=[8]) a6 Z (AllB.cons ?_ AllB.nil)
     refine b38 ?_
     refine vm6 ?_
     refine X3 ?_
     refine m6 (Gh.sub 13 9 np Z Z Z) (m6 (Gh.sub 14 10 np Z Z Z) (m6 (Gh.sub 15 11 np Z Z Z) (a8 ⟨(i+1),?_,?_,⟨⟨_,Z,by rfl⟩,Z,trivial⟩,⟨⟨_,Z,by (first | rfl | (rw [A8 b9 J];done) | (rw [A8 b9 J];rfl) | (rw [A9 C8];done) | (rw [A9 C8];rfl))⟩,Z,Z,⟨⟨_,Z,by (first | rfl | (rw [A8 b9 J];done) | (rw [A8 b9 J];rfl) | (rw [A9 C8];done) | (rw [A9 C8];rfl))⟩,Z,Z,⟨⟨_,Z,by (first | rfl | (rw [A8 b9 J];done) | (rw [A8 b9 J];rfl) | (rw [A9 C8];done) | (rw [A9 C8];rfl))⟩,Z,Z,⟨⟨_,Z,by (first | rfl | (rw [A8 b9 J];done) | (rw [A8 b9 J];rfl) | (rw [A9 C8];done) | (rw [A9 C8];rfl))⟩,Z,Z,trivial⟩⟩⟩⟩,Z,Z,Z⟩)))
     ·omega
     omega
    exact b7X
   refine zwf ?_
   exact b7X
  obtain rfl:i=8:=J
  refine m3 ?_
  first | refine b7 Z Z (d8 G Z Z Z Z Z J J) ?_ | refine b7 Z Z (d8 G Z Z Z Z Z J (by simp only [List.length_set];omega)) ?_
  refine vm4 ?_
  refine j6 G Z Z Z Z Z (C9 b1e Z) Z Z (.v Z (.own Z (.own Z (.own Z .nil)))) Z Z Z (Nat.le_of_ble_eq_true Z) (λq h=>by cases h) Z ?_
  refine zgo ?_
  refine ⟨(k+1),?_,?_,⟨⟨_,Z,by rfl⟩,Z,trivial⟩,⟨⟨_,Z,by (exact congrArg (λz=>Row.nest _ _ z []) b9g)⟩,Z,Z,trivial⟩,Z,Z,Z⟩
  ·omega
  omega
 refine zgo ?_
 refine g8 (m5 Z Z Z Z (a7 (b8 Z ?_) (a7 (b8 Z ?_) (a7 (b8 Z ?_) (a7 (t8 Z ?_) (a7 (p5 ?_) d5))))))
 all_goals exact b6g
theorem a1U (rs:List Route) (a:Abs) (hs:SmallA a) (hn:rs.length<=1048576):Ctr Tryz.prog 25 [.lst 2 (rs.map n6),.agg [.lst 1 (a.en.map e7),.lst 1 (a.ra.map e7),.lst 1 (a.po.map e7),.lst 1 (a.ma.map Rf.l8),.nst none 1 (a.st.map p8)]] (.shp false [some 4,none] [.fr 118 2 ((moT rs a).1.rs.map n6),.fr 4 1 ((moT rs a).1.en.map e7),.fr 4 1 ((moT rs a).1.ra.map e7),.ne 113 4 ((moT rs a).1.cp.map (r3 154 183)),.v (.bool (moT rs a).2)]):=by
 refine Ctr.of (n:=109) G Tryz.func25 Z a6 Z Z Z (λw0=>?_)
 refine j8 1 Z (λ_=>Z) (λu1=>?_)
 refine L6 ?_
 refine zcl (F1 rs a hs hn) ?_
 refine zcd (λh1=>?_) (λh1=>?_)
 ·exact b9y
 have hM:=b0T h1
 have hF:=a9w h1
 have hor:okRts rs a.ma.length=true:=(by simp only [absOK,Bool.and_eq_true] at h1;exact h1.1)
 have hr8:=s8.mp hor
 have hN:=a5f (rs:=rs) (c:=(a.ma.length:Int)) hor
 have cN:=a5H rs (a.ma.length:Int) hn
 rw [hN] at cN
 dsimp only at cN
 have hNl:(a6M rs ((a.ma.length:Int)).toNat).cp.length=a.ma.length:=(by simp [a6M])
 have f0:=hF.n
 have f1:=hF.rn
 have f2:=hF.st
 have f3:=hF.en
 have f4:=hF.ra
 have f5:=hF.po
 refine m3 ?_
 refine c4 6 Z Z Z (ArgsOK.of Z) cN Z Z ?_
 refine m3 ?_
 refine b1h ?_
 refine zgn ?_
 refine p7 (d7 12 [0,1,2,3,4,5] mixed a6 Z Z (λr0=>?_) (λ_ h=>h))
 refine b0b ?_
 refine r8 (N:=9) Z (m8 (fuel:=6) [⟨0,27,7,false,.row 4 1 []⟩,⟨4,31,8,false,.row 4 1 []⟩] (AllVOK.cons (VOK.lit G Z Z Z Z Z) (AllVOK.cons (VOK.lit G Z Z Z Z Z) (AllVOK.nil))) (λhok=>?_))
 refine i7 [(3,[0])] a6 a6 (λe he=>hok e he) a6 (AllVS.cons ?_ AllVS.nil)
 refine VStep.mk1 [0,1,2,3,4,5] 27 (.own 7) 7 (.row 4 1 []) [⟨4,31,8,false,.row 4 1 []⟩] Z Z Z Z Z (λb1 _ hbn=>i6 G C1 Z Z Z Z Z Z Z Z Z g0 Z Z (a8 Z)) a6 a6 a6 a6 (l6 8 Z a6 Z Z Z Z (m4 G Z Z Z Z) a6 a6 a6 (i7 [(7,[4])] a6 a6 (λe he=>hok e (vin (is:=[0]) Z he)) a6 (AllVS.cons ?_ AllVS.nil)))
 refine VStep.mk1 [0,1,2,3,4,5] 31 (.own 8) 8 (.row 4 1 []) [] Z Z Z Z Z (λb1 _ hbn=>i6 G C1 Z Z Z Z Z Z Z Z Z g0 Z Z (a8 Z)) a6 a6 a6 a6 (w6 ?_)
 clear hok
 refine b6 (rs:=[9]) a6 Z (AllB.cons ?_ AllB.nil)
 refine c8 [0,1,2,3,4,5] Z Z ?_
 refine F6 ?_
 refine zsa 10 ?_
 refine b6 (rs:=[11]) a6 Z (AllB.cons ?_ AllB.nil)
 refine c8 [0,1,2,3,4,5] Z Z ?_
 refine F6 ?_
 refine vm6 ?_
 refine zgo ?_
 refine f6 [0,3,4,6,39] [0,1,2,6,7,8] (λ(k:Nat)=>[(40,.v (.int .i64 (k:Int)))]) (λ(k:Nat)=>[(5,some (.nest 113 4 ((over (moI rs a) (List.replicate a.ma.length a7P) k).map (r3 154 183)) []))]) (λ(k:Nat)=>k<=a.ma.length) (λ(k:Nat)=>a.ma.length - k) 0 Z Z ?_ ?_ ?_ ?_
 ·exact H0
 ·exact R7
 ·exact Y5
 intro k hk
 have hkl:=@b2V _ _ _ (moI rs a) (r3 154 183) a.ma.length k a7P hk
 refine vm2 ?_
 refine zcd (λh2=>?_) (λh2=>?_)
 ·have hS:=a7d h1 (k:=k) J
  have hX0:IfF (B8 rs (a.st.getD k default)):=b9e
  refine zgn ?_
  refine E9 ?_
  refine c3d ?_
  refine E9 ?_
  refine p7 ?_
  refine c3F ?_
  refine A7 (Gh.detach (id:=5) Z) ?_
  refine m3 ?_
  refine a4t ?_
  refine zgo ?_
  refine f6 [0,3,4,6,8,9,39,40,52,53] [0,1,2,5,6,7,8] (λ(i:Nat)=>[(54,.v (.int .i64 (i:Int)))]) (λ(i:Nat)=>[(9,some (.row 3 1 ((B8 rs ((a.st.getD k default).take i)).st.map Rf.l8))),(10,some (.row 154 3 ((B8 rs ((a.st.getD k default).take i)).qu.sl.map f9))),(11,some (.row 183 2 ((B8 rs ((a.st.getD k default).take i)).qu.wa.map i5))),(12,some (.box [.v (.int .i64 (B8 rs ((a.st.getD k default).take i)).ma),.own 9,.own 10,.own 11]))]) (λ(i:Nat)=>i<=(a.st.getD k default).length) (λ(i:Nat)=>(a.st.getD k default).length - i) 0 Z Z ?_ ?_ ?_ ?_
  ·exact H0
  ·exact R7
  ·exact b6H
  intro i hi
  have hX:=hS.take hi
  have hLn:=hS.n
  refine vm2 ?_
  refine zcd (λh3=>?_) (λh3=>?_)
  ·obtain ⟨hR1,hR2,hR3,hs4⟩:=hS.step (i:=i) J
   have hel:=hS.el i J
   have hs4i:=a7e hR3
   refine zgn ?_
   refine zgn ?_
   refine d7 14 [0,1,2,5,6,7,8,9,10,11] mixed a6 Z Z (λr0=>?_) (λ_ h=>h)
   refine zsa 1 ?_
   refine zsa 2 ?_
   refine zsa 3 ?_
   refine a0v ?_
   refine b6 (rs:=[0]) a6 Z (AllB.cons ?_ AllB.nil)
   refine b38 ?_
   refine b6 (rs:=[7]) a6 Z (AllB.cons ?_ AllB.nil)
   refine c8 [0,1,2,5,6,7,8,9,10,11] Z Z (c4 16 Z Z Z (ArgsOK.of Z) (Y2 _ _ _ hX hel.1 hel.2) Z Z (a8 ⟨Z,?_⟩))
   refine b6 (rs:=[8]) a6 Z (AllB.cons ?_ AllB.nil)
   refine c8 [0,1,2,5,6,7,8,9,10,11] Z Z (c4 19 Z Z Z (ArgsOK.of Z) (a3g _ hR1) Z Z (a8 ⟨Z,?_⟩))
   refine zsa 9 ?_
   refine zsa 10 ?_
   refine zsa 11 ?_
   refine zsa 12 ?_
   refine b6 (rs:=[13]) a6 Z (AllB.cons ?_ AllB.nil)
   refine b38 ?_
   refine vm6 ?_
   refine e9 ?_
   refine G9 ?_
   exact c30
  have hXe:B8 rs ((a.st.getD k default).take i)=B8 rs (a.st.getD k default):=(by rw [List.take_of_length_le J])
  refine E9 ?_
  refine p7 (A7 (Gh.tl (id:=11) Z) ?_)
  refine zgo ?_
  refine f6 [0,3,4,6,8,9,39,40,72,73] [0,1,2,5,6,7,8] (λ(i:Nat)=>[(74,.v (.int .i64 (i:Int)))]) (λ(i:Nat)=>[(9,some (.row 3 1 ((a0p rs a.po k (B8 rs (a.st.getD k default)) i).st.map Rf.l8))),(10,some (.row 154 3 ((a0p rs a.po k (B8 rs (a.st.getD k default)) i).qu.sl.map f9))),(11,some (.row 183 2 ((a0p rs a.po k (B8 rs (a.st.getD k default)) i).qu.wa.map i5) true)),(12,some (.box [.v (.int .i64 (a0p rs a.po k (B8 rs (a.st.getD k default)) i).ma),.own 9,.own 10,.own 11]))]) (λ(i:Nat)=>i<=8) (λ(i:Nat)=>8 - i) 0 Z Z ?_ ?_ ?_ ?_
  ·exact H0
  ·exact R7
  ·exact b9s
  intro i hi
  have hY:=a9Q (po:=a.po) (k:=k) hX0 (λi hi=>(hr8.2.2 i hi).1) i hi
  have hpr:=λh=>(hr8.2.2 i h).1
  refine vm2 ?_
  refine zcd (λh4=>?_) (λh4=>?_)
  ·refine m3 ?_
   refine g9 G 14 Z Z Z Z Z ?_
   refine zcd (λh5=>?_) (λh5=>?_)
   ·refine zcd (λh6=>?_) (λh6=>?_)
    ·refine m3 ?_
     refine c4 17 Z Z Z (ArgsOK.of Z) (Y2 _ _ _ hY J (hpr J)) Z Z ?_
     refine zgn ?_
     refine e9 ?_
     refine G9 ?_
     refine m6 (Gh.sub 14 9 np Z Z Z) (m6 (Gh.sub 15 10 np Z Z Z) (m6 (Gh.sub 16 11 np Z Z Z) (a8 ⟨(i+1),?_,?_,⟨⟨_,Z,by rfl⟩,Z,trivial⟩,⟨⟨_,Z,by (first | rfl | (rw [A8 b9 J];done) | (rw [A8 b9 J];rfl) | (rw [A9 C8];done) | (rw [A9 C8];rfl))⟩,Z,Z,⟨⟨_,Z,by (first | rfl | (rw [A8 b9 J];done) | (rw [A8 b9 J];rfl) | (rw [A9 C8];done) | (rw [A9 C8];rfl))⟩,Z,Z,⟨⟨_,Z,by (first | rfl | (rw [A8 b9 J];done) | (rw [A8 b9 J];rfl) | (rw [A9 C8];done) | (rw [A9 C8];rfl))⟩,Z,Z,⟨⟨_,Z,by (first | rfl | (rw [A8 b9 J];done) | (rw [A8 b9 J];rfl) | (rw [A9 C8];done) | (rw [A9 C8];rfl))⟩,Z,Z,trivial⟩⟩⟩⟩,Z,Z,Z⟩)))
     ·omega
     omega
    exact b7X
   refine zwf ?_
   exact b7X
  obtain rfl:i=8:=J
  refine zgn ?_
  refine d7 12 [0,1,2,6,7,8,9,10,11,12] mixed a6 Z Z (λr0=>?_) (λ_ h=>h)
  refine C5 ?_
  refine a0v ?_
  refine zsa 7 ?_
  refine zsa 8 ?_
  refine b6 (rs:=[9]) a6 Z (AllB.cons ?_ AllB.nil)
  refine c8 [0,1,2,6,7,8,9,10,11,12] Z Z (c4 16 Z Z Z (ArgsOK.of Z) (a77 _ _ (by have:=hY.sn;omega) (by have:=hY.qu.sl.len;omega) (by have:=hY.qu.wn8;omega)) Z Z (a8 ⟨Z,?_⟩))
  refine b6 (rs:=[10]) a6 Z (AllB.cons ?_ AllB.nil)
  first | refine c7 [0,1,2,6,7,8,9,10,11,12] Z Z (b7 Z Z (d8 G Z Z Z Z Z J J) (a8 ⟨Z,?_⟩)) | refine c7 [0,1,2,6,7,8,9,10,11,12] Z Z (b7 Z Z (d8 G Z Z Z Z Z J (by simp only [List.length_set];omega)) (a8 ⟨Z,?_⟩))
  refine b6 (rs:=[11]) a6 Z (AllB.cons ?_ AllB.nil)
  refine c8 [0,1,2,6,7,8,9,10,11,12] Z Z (j6 G Z Z Z Z Z (C9 b1e Z) Z Z (.v Z (.own Z (.own Z (.own Z .nil)))) Z Z Z (Nat.le_of_ble_eq_true Z) (λq h=>by cases h) Z (a8 ⟨Z,?_⟩))
  refine vm6 ?_
  refine zgo ?_
  refine ⟨(k+1),?_,?_,⟨⟨_,Z,by rfl⟩,Z,trivial⟩,⟨⟨_,Z,by (exact congrArg (λz=>Row.nest _ _ z []) b9g)⟩,Z,Z,trivial⟩,Z,Z,Z⟩
  ·omega
  omega
 refine zgo ?_
 refine g8 (m5 Z Z Z Z (a7 (b8 Z ?_) (a7 (b8 Z ?_) (a7 (b8 Z ?_) (a7 (t8 Z ?_) (a7 (p5 ?_) d5))))))
 all_goals exact b6g
theorem a08 (m:Mach) (hs:SmallM m):Ctr Tryz.prog 34 [.agg [.lst 2 (m.rs.map n6),.lst 1 (m.en.map e7),.lst 1 (m.ra.map e7),.nst none 4 (m.cp.map (r3 154 183))]] (.shp false [some 5,none] [.fr 4 1 ((abT m).1.en.map e7),.fr 4 1 ((abT m).1.ra.map e7),.fr 4 1 ((abT m).1.po.map e7),.fr 3 1 ((abT m).1.ma.map Rf.l8),.ne 26 1 ((abT m).1.st.map p8),.v (.bool (abT m).2)]):=by
 refine Ctr.of (n:=10) G Tryz.func34 Z a6 Z Z Z (λw0=>?_)
 refine j8 0 Z (λ_=>Z) (λu0=>?_)
 refine L6 ?_
 refine zcl (a0C m hs) ?_
 refine zcd (λh1=>?_) (λh1=>?_)
 ·exact b9K
 have hT:=a84 h1
 have hM:=maF h1
 refine m3 ?_
 refine c4 7 Z Z Z (ArgsOK.of Z) (a2n m hM hs) Z Z ?_
 exact b9J
theorem A6 (m:Mach) (hs:SmallM m):Ctr Tryz.prog 36 [.agg [.lst 2 (m.rs.map n6),.lst 1 (m.en.map e7),.lst 1 (m.ra.map e7),.nst none 4 (m.cp.map (r3 154 183))]] (.shp false [some 5,none] [.fr 4 1 ((abT m).1.en.map e7),.fr 4 1 ((abT m).1.ra.map e7),.fr 4 1 ((abT m).1.po.map e7),.fr 3 1 ((abT m).1.ma.map Rf.l8),.ne 26 1 ((abT m).1.st.map p8),.v (.bool (abT m).2)]):=by
 refine Ctr.of (n:=10) G Tryz.func36 Z a6 Z Z Z (λw0=>?_)
 refine j8 0 Z (λ_=>Z) (λu0=>?_)
 refine L6 ?_
 refine zcl (G7 m hs) ?_
 refine zcd (λh1=>?_) (λh1=>?_)
 ·exact b9K
 have hT:=a84 h1
 have hM:=maF h1
 refine m3 ?_
 refine c4 7 Z Z Z (ArgsOK.of Z) (a07 m hM hs) Z Z ?_
 exact b9J
theorem a8g (m:Mach) (ss:List MStep) (hs:SmallM m) (hl:ss.length<=1048576):Ctr Tryz.prog 39 [.agg [.lst 2 (m.rs.map n6),.lst 1 (m.en.map e7),.lst 1 (m.ra.map e7),.nst none 4 (m.cp.map (r3 154 183))],.lst 4 (ss.map a0Q)] (.many [.v (.int .i64 (agT m ss).1),.v (.bool (agT m ss).2)]):=by
 refine Ctr.of (n:=79) G Tryz.func39 Z a6 Z Z Z (λw0=>?_)
 refine j8 0 Z (λ_=>Z) (λu0=>?_)
 refine w8 ?_
 refine zcl (a0C m hs) ?_
 refine zcd (λh1=>?_) (λh1=>?_)
 ·have hR:=b19 (ss:=ss) h1
  refine zwt ?_
  exact a70
 have hM:=maF h1
 refine zcl (a63 m.cp.length ss hs.cp J) ?_
 refine zcd (λh2=>?_) (λh2=>?_)
 ·have hR:=a93 (m:=m) (ss:=ss) h2
  exact a70
 have hsv:=h2
 have hv:=(P2.mp hsv).2
 have hl30:=(P2.mp hsv).1
 have hRt:=b5J h1 hsv
 refine m3 ?_
 refine c4 6 Z Z Z (ArgsOK.of Z) (a2n m hM hs) Z Z ?_
 refine vm4 ?_
 refine b1h ?_
 refine zgn ?_
 refine zgn ?_
 refine r7 (A7 (Gh.bump 11 (by decide)) (f6 [1,2,6] [] (λ(x:Bool×Nat×Mach×Abs)=>match x.1 with | false=>[(7,.v (.int .i64 (x.2.1:Int)))] | true=>[(7,.v (.int .i64 (x.2.1:Int)))]) (λ(x:Bool×Nat×Mach×Abs)=>match x.1 with | false=>[(0,some (.box [.pin (u0 0) 2 (m.rs.map n6),.pin (u0 1) 1 (m.en.map e7),.pin (u0 2) 1 (m.ra.map e7),.nst (some (u0 3)) 4 (m.cp.map (r3 154 183))])),(1,some (.row 4 1 (x.2.2.2.en.map e7))),(2,some (.row 4 1 (x.2.2.2.ra.map e7))),(3,some (.row 4 1 (x.2.2.2.po.map e7))),(4,some (.row 3 1 (x.2.2.2.ma.map Rf.l8))),(5,some (.nest 26 1 (x.2.2.2.st.map p8) [])),(6,some (.box [.own 1,.own 2,.own 3,.own 4,.own 5]))] | true=>[(0,some (.box [.own 7,.own 8,.own 9,.own 10])),(1,some (.row 4 1 (x.2.2.2.en.map e7))),(2,some (.row 4 1 (x.2.2.2.ra.map e7))),(3,some (.row 4 1 (x.2.2.2.po.map e7))),(4,some (.row 3 1 (x.2.2.2.ma.map Rf.l8))),(5,some (.nest 26 1 (x.2.2.2.st.map p8) [])),(6,some (.box [.own 1,.own 2,.own 3,.own 4,.own 5])),(7,some (.row 118 2 (x.2.2.1.rs.map n6))),(8,some (.row 4 1 (x.2.2.1.en.map e7))),(9,some (.row 4 1 (x.2.2.1.ra.map e7))),(10,some (.nest 113 4 (x.2.2.1.cp.map (r3 154 183)) []))]) (λ(x:Bool×Nat×Mach×Abs)=>x.2.1<=ss.length/\agN m ss x.2.1=some x.2.2/\AgF m x.2.2/\(x.1=false→x.2.2.1=m)) (λ(x:Bool×Nat×Mach×Abs)=>ss.length - x.2.1) (false,0,m,abOf m) Z Z ?_ ?_ ?_ ?_))
 ·exact ⟨Nat.zero_le _,Z,b8n hM.g,λ_=>Z⟩
 ·exact R7
 ·exact b9B
 intro x hinv
 obtain ⟨ph,i,m1,a1⟩:=x;obtain ⟨hi,hag,hF,hph⟩:=hinv;dsimp only at hi hag hF hph;cases ph
 ·have e:m=m1:=(hph Z).symm
  subst e
  have hvm:=hv i
  have hva:i < ss.length→s4 a1.ma.length (ss.getD i default)=true:=λh=>b3l
  have hsz:=hF.g.small
  dsimp only
  refine vm2 ?_
  refine zcd (λh3=>?_) (λh3=>?_)
  ·refine E9 ?_
   refine r7 (p7 ?_)
   by_cases hno:a7U m (ss.getD i default)
   ·have hk0:=b5K hno
    refine d7 14 [0,1,2,3,4,5,6] mixed a6 Z Z (λr0=>?_) (λ_ h=>h)
    refine C5 ?_
    refine zsa 4 ?_
    refine r8 (N:=12) Z (m8 (fuel:=8) [⟨10,8,11,true,.box (avR [.slice none 0 0,.slice none 0 0,.slice none 0 0,.slice none 0 0] [])⟩] (AllVOK.cons (VOK.boxS G Z Z Z Z Z) (AllVOK.nil)) (λhok=>?_))
    refine i7 [(5,[])] a6 a6 (λe he=>hok e he) a6 (AllVS.cons ?_ AllVS.nil)
    refine VStep.mk0 [0,1,2,3,4,5,6] Z Z (λb1 _ hbn=>c4 16 Z Z Z (ArgsOK.of Z) (S5 m (ss.getD i default).k (ss.getD i default).q (ss.getD i default).c (ss.getD i default).v hF.g (hvm J) hno) Z Z (a8 Z)) a6 a6 a6 a6 (l6 6 Z a6 Z Z Z Z (d3 Z Z) a6 a6 a6 (l6 7 Z a6 Z Z Z Z (d4 Z Z Z) a6 a6 a6 (l6 8 Z a6 Z Z Z Z (d4 Z Z Z) a6 a6 a6 (l6 9 Z a6 Z Z Z Z (d4 Z Z Z) a6 a6 a6 (i7 [(11,[10])] a6 a6 (λe he=>hok e he) a6 (AllVS.cons ?_ AllVS.nil))))))
    refine c3r ?_
    clear hok
    refine zsa 12 ?_
    refine zsa 13 ?_
    refine vm6 ?_
    refine p7 (d7 16 [0,1,2,3,4,5,6,11,12,13,14,15] mixed a6 Z Z (λr0=>?_) (λ_ h=>h))
    refine C5 ?_
    refine a0v ?_
    refine r8 (N:=17) Z (m8 (fuel:=8) [⟨12,11,16,true,.box (avR [.slice none 0 0,.slice none 0 0,.slice none 0 0,.slice none 0 0,.slice none 0 0] [])⟩] (AllVOK.cons (VOK.boxS G Z Z Z Z Z) (AllVOK.nil)) (λhok=>?_))
    refine i7 [(7,[])] a6 a6 (λe he=>hok e he) a6 (AllVS.cons ?_ AllVS.nil)
    refine VStep.mk0 [0,1,2,3,4,5,6,11,12,13,14,15] Z Z (λb1 _ hbn=>c4 22 Z Z Z (ArgsOK.of Z) (S6 m.rs a1 (ss.getD i default).k (ss.getD i default).q (ss.getD i default).c (ss.getD i default).v hF.f (hva J)) Z Z (a8 Z)) a6 a6 a6 a6 (l6 8 Z a6 Z Z Z Z (d3 Z Z) a6 a6 a6 (l6 9 Z a6 Z Z Z Z (d4 Z Z Z) a6 a6 a6 (l6 10 Z a6 Z Z Z Z (d4 Z Z Z) a6 a6 a6 (l6 11 Z a6 Z Z Z Z (d4 Z Z Z) a6 a6 a6 (i7 [(13,[12])] a6 a6 (λe he=>hok e he) a6 (AllVS.cons ?_ AllVS.nil))))))
    refine c3o ?_
    clear hok
    refine zsa 14 ?_
    refine zsa 15 ?_
    refine vm6 ?_
    refine p7 (p7 (d7 18 [0,1,2,3,4,5,6,11,12,13,14,15,16,17,18,19,20,21] mixed a6 Z Z (λr0=>?_) (λ_ h=>h)))
    refine b1f ?_
    refine C4 (gd:=58) Z (λh4=>?_) (λh4=>?_)
    ·try rw [h4]
     try simp only [rfb] at h4
     have hst:agS (m,a1) (ss.getD i default)=none:=a29 (by show (stM m (ss.getD i default)).2.2≠(n7 m.rs a1 (ss.getD i default)).2.2;rw [hk0];first | exact h4 | (intro e;rw [← e] at h4;cases h4) | simpa using h4)
     exact a6G
    try rw [h4]
    try simp only [rfb] at h4
    have hfi:(n7 m.rs a1 (ss.getD i default)).2.2=false:=(by first | exact h4 | simpa using h4)
    have hst:agS (m,a1) (ss.getD i default)=some (m,a1):=a2i (by show (stM m (ss.getD i default)).2.2=(n7 m.rs a1 (ss.getD i default)).2.2;rw [hk0];exact hfi.symm) hk0
    refine Q4 ?_
    exact c3W
   refine d7 14 [0,1,2,3,4,5,6] mixed a6 Z Z (λr0=>?_) (λ_ h=>h)
   refine C5 ?_
   refine zsa 4 ?_
   refine r8 (N:=12) Z (m8 (fuel:=8) [⟨10,8,11,true,.box (avR [.slice none 0 0,.slice none 0 0,.slice none 0 0,.slice none 0 0] [])⟩] (AllVOK.cons (VOK.boxS G Z Z Z Z Z) (AllVOK.nil)) (λhok=>?_))
   refine i7 [(5,[])] a6 a6 (λe he=>hok e he) a6 (AllVS.cons ?_ AllVS.nil)
   refine VStep.mk0 [0,1,2,3,4,5,6] Z Z (λb1 _ hbn=>c4 16 Z Z Z (ArgsOK.of Z) (a0z m (ss.getD i default).k (ss.getD i default).q (ss.getD i default).c (ss.getD i default).v hF.g (hvm J) hno) Z Z (a8 Z)) a6 a6 a6 a6 (l6 6 Z a6 Z Z Z Z (d3 Z Z) a6 a6 a6 (l6 7 Z a6 Z Z Z Z (d4 Z Z Z) a6 a6 a6 (l6 8 Z a6 Z Z Z Z (d4 Z Z Z) a6 a6 a6 (l6 9 Z a6 Z Z Z Z (d4 Z Z Z) a6 a6 a6 (i7 [(11,[10])] a6 a6 (λe he=>hok e he) a6 (AllVS.cons ?_ AllVS.nil))))))
   refine c3r ?_
   clear hok
   refine zsa 12 ?_
   refine zsa 13 ?_
   refine vm6 ?_
   refine p7 (d7 16 [0,1,2,3,4,5,6,11,12,13,14,15] mixed a6 Z Z (λr0=>?_) (λ_ h=>h))
   refine C5 ?_
   refine a0v ?_
   refine r8 (N:=17) Z (m8 (fuel:=8) [⟨12,11,16,true,.box (avR [.slice none 0 0,.slice none 0 0,.slice none 0 0,.slice none 0 0,.slice none 0 0] [])⟩] (AllVOK.cons (VOK.boxS G Z Z Z Z Z) (AllVOK.nil)) (λhok=>?_))
   refine i7 [(7,[])] a6 a6 (λe he=>hok e he) a6 (AllVS.cons ?_ AllVS.nil)
   refine VStep.mk0 [0,1,2,3,4,5,6,11,12,13,14,15] Z Z (λb1 _ hbn=>c4 22 Z Z Z (ArgsOK.of Z) (S6 m.rs a1 (ss.getD i default).k (ss.getD i default).q (ss.getD i default).c (ss.getD i default).v hF.f (hva J)) Z Z (a8 Z)) a6 a6 a6 a6 (l6 8 Z a6 Z Z Z Z (d3 Z Z) a6 a6 a6 (l6 9 Z a6 Z Z Z Z (d4 Z Z Z) a6 a6 a6 (l6 10 Z a6 Z Z Z Z (d4 Z Z Z) a6 a6 a6 (l6 11 Z a6 Z Z Z Z (d4 Z Z Z) a6 a6 a6 (i7 [(13,[12])] a6 a6 (λe he=>hok e he) a6 (AllVS.cons ?_ AllVS.nil))))))
   refine c3o ?_
   clear hok
   refine zsa 14 ?_
   refine zsa 15 ?_
   refine vm6 ?_
   refine p7 (p7 (d7 18 [0,1,2,3,4,5,6,11,12,13,14,15,16,17,18,19,20,21] mixed a6 Z Z (λr0=>?_) (λ_ h=>h)))
   refine b1f ?_
   refine C4 (gd:=58) Z (λh5=>?_) (λh5=>?_)
   ·try rw [h5]
    try simp only [rfb] at h5
    have hst:agS (m,a1) (ss.getD i default)=none:=a29 (by show (stM m (ss.getD i default)).2.2≠(n7 m.rs a1 (ss.getD i default)).2.2;first | exact h5 | simpa using h5)
    exact a6G
   try rw [h5]
   try simp only [rfb] at h5
   have heq:(stM m (ss.getD i default)).2.2=(n7 m.rs a1 (ss.getD i default)).2.2:=(by first | exact h5 | simpa using h5)
   refine Q4 ?_
   refine C4 (gd:=60) Z (λh6=>?_) (λh6=>?_)
   ·try rw [h6]
    try simp only [rfb] at h6
    have hok:(stM m (ss.getD i default)).2.2=true:=h6
    have hFn:=b20 hF (hv i J) hok
    refine zsa 6 ?_
    refine zsa 7 ?_
    refine zsa 8 ?_
    refine zsa 9 ?_
    refine C4 (gd:=64) Z (λh7=>?_) (λh7=>?_)
    ·try rw [h7]
     try simp only [rfb] at h7
     have hst:agS (m,a1) (ss.getD i default)=none:=a6y heq hok (λe=>h7 e.1)
     exact b3B
    try rw [h7]
    try simp only [rfb] at h7
    have hir:(stM m (ss.getD i default)).2.1=(n7 m.rs a1 (ss.getD i default)).2.1:=h7
    refine zsa 10 ?_
    refine zsa 12 ?_
    refine b6 (rs:=[11]) a6 Z (AllB.cons ?_ AllB.nil)
    refine a0L [0,1,2,3,4,5,6,11,12,13,14,15,16,17,18,19,20,21] Z Z Z Z (c4 27 Z Z Z (ArgsOK.of Z) (a3m _ hFn.g hFn.g.small) Z Z (a8 ⟨Z,?_⟩))
    refine b6 (rs:=[13]) a6 Z (AllB.cons ?_ AllB.nil)
    refine a0L [0,1,2,3,4,5,6,11,12,13,14,15,16,17,18,19,20,21] Z Z Z Z (b7 Z Z (l9 Z (ArgsOK.of Z) (a3n _ _ _ (a52 hFn.g) hFn.f) Z) (a8 ⟨Z,?_⟩))
    refine zsa 14 ?_
    refine zsa 15 ?_
    refine zsa 16 ?_
    refine zsa 17 ?_
    refine vm6 ?_
    refine zcd (λh8=>?_) (λh8=>?_)
    ·have hst:agS (m,a1) (ss.getD i default)=none:=a6y heq hok (λe=>by have e2:=O2.mpr e.2;rw [h8] at e2;cases e2)
     exact b3C
    have hst:agS (m,a1) (ss.getD i default)=some ((stM m (ss.getD i default)).1,(n7 m.rs a1 (ss.getD i default)).1):=b05 heq hok hir (O2.mp h8)
    refine zwt ?_
    refine zgn ?_
    refine zgn ?_
    refine X3 ?_
    exact c3T
   try rw [h6]
   try simp only [rfb] at h6
   have hok:(stM m (ss.getD i default)).2.2=false:=h6
   have hst:agS (m,a1) (ss.getD i default)=some (m,a1):=a2i heq hok
   refine b39 ?_
   refine ⟨(false,i+1,m,a1),?_,?_,⟨⟨_,Z,by rfl⟩,Z,trivial⟩,⟨⟨_,Z,by rfl⟩,Z,Z,⟨⟨_,Z,by rfl⟩,Z,Z,⟨⟨_,Z,by rfl⟩,Z,Z,⟨⟨_,Z,by rfl⟩,Z,Z,⟨⟨_,Z,by rfl⟩,Z,Z,⟨⟨_,Z,by rfl⟩,Z,Z,⟨⟨_,Z,by rfl⟩,Z,Z,trivial⟩⟩⟩⟩⟩⟩⟩,Z,Z,Z⟩
   ·exact b6C
   dsimp only;omega
  have hR:agT m ss=((ss.length:Int),true):=by rw [hRt,a5q hag J]
  refine zgo ?_
  refine g8 (G1 Z Z Z Z (a7 (p5 ?_) (a7 (p5 ?_) d5)))
  all_goals exact b1b
 have hvm:i < ss.length→s4 m1.cp.length (ss.getD i default)=true:=λh=>(by rw [show m1.cp.length=m.cp.length from hF.n];exact hv i h)
 have hva:i < ss.length→s4 a1.ma.length (ss.getD i default)=true:=λh=>b3l
 have hsz:=hF.g.small
 dsimp only
 refine vm2 ?_
 refine zcd (λh9=>?_) (λh9=>?_)
 ·refine E9 ?_
  refine r7 (p7 ?_)
  by_cases hno:a7U m1 (ss.getD i default)
  ·have hk0:=b5K hno
   refine d7 14 [0,1,2,3,4,5,6,7,8,9,10] mixed a6 Z Z (λr0=>?_) (λ_ h=>h)
   refine C5 ?_
   refine zsa 4 ?_
   refine r8 (N:=12) Z (m8 (fuel:=8) [⟨10,8,11,true,.box (avR [.slice none 0 0,.slice none 0 0,.slice none 0 0,.slice none 0 0] [])⟩] (AllVOK.cons (VOK.boxS G Z Z Z Z Z) (AllVOK.nil)) (λhok=>?_))
   refine i7 [(5,[])] a6 a6 (λe he=>hok e he) a6 (AllVS.cons ?_ AllVS.nil)
   refine VStep.mk0 [0,1,2,3,4,5,6,7,8,9,10] Z Z (λb1 _ hbn=>c4 16 Z Z Z (ArgsOK.of Z) (S5 m1 (ss.getD i default).k (ss.getD i default).q (ss.getD i default).c (ss.getD i default).v hF.g (hvm J) hno) Z Z (a8 Z)) a6 a6 a6 a6 (l6 6 Z a6 Z Z Z Z (d3 Z Z) a6 a6 a6 (l6 7 Z a6 Z Z Z Z (d4 Z Z Z) a6 a6 a6 (l6 8 Z a6 Z Z Z Z (d4 Z Z Z) a6 a6 a6 (l6 9 Z a6 Z Z Z Z (d4 Z Z Z) a6 a6 a6 (i7 [(11,[10])] a6 a6 (λe he=>hok e he) a6 (AllVS.cons ?_ AllVS.nil))))))
   refine c3p ?_
   clear hok
   refine zsa 12 ?_
   refine zsa 13 ?_
   refine vm6 ?_
   refine p7 (d7 16 [0,1,2,3,4,5,6,7,8,9,10,11,12,13,14,15] mixed a6 Z Z (λr0=>?_) (λ_ h=>h))
   refine C5 ?_
   refine a0v ?_
   refine r8 (N:=17) Z (m8 (fuel:=8) [⟨12,11,16,true,.box (avR [.slice none 0 0,.slice none 0 0,.slice none 0 0,.slice none 0 0,.slice none 0 0] [])⟩] (AllVOK.cons (VOK.boxS G Z Z Z Z Z) (AllVOK.nil)) (λhok=>?_))
   refine i7 [(7,[])] a6 a6 (λe he=>hok e he) a6 (AllVS.cons ?_ AllVS.nil)
   refine VStep.mk0 [0,1,2,3,4,5,6,7,8,9,10,11,12,13,14,15] Z Z (λb1 _ hbn=>c4 22 Z Z Z (ArgsOK.of Z) (S6 m1.rs a1 (ss.getD i default).k (ss.getD i default).q (ss.getD i default).c (ss.getD i default).v hF.f (hva J)) Z Z (a8 Z)) a6 a6 a6 a6 (l6 8 Z a6 Z Z Z Z (d3 Z Z) a6 a6 a6 (l6 9 Z a6 Z Z Z Z (d4 Z Z Z) a6 a6 a6 (l6 10 Z a6 Z Z Z Z (d4 Z Z Z) a6 a6 a6 (l6 11 Z a6 Z Z Z Z (d4 Z Z Z) a6 a6 a6 (i7 [(13,[12])] a6 a6 (λe he=>hok e he) a6 (AllVS.cons ?_ AllVS.nil))))))
   refine c3n ?_
   clear hok
   refine zsa 14 ?_
   refine zsa 15 ?_
   refine vm6 ?_
   refine p7 (p7 (d7 18 [0,1,2,3,4,5,6,7,8,9,10,11,12,13,14,15,16,17,18,19,20,21] mixed a6 Z Z (λr0=>?_) (λ_ h=>h)))
   refine b1f ?_
   refine C4 (gd:=58) Z (λh10=>?_) (λh10=>?_)
   ·try rw [h10]
    try simp only [rfb] at h10
    have hst:agS (m1,a1) (ss.getD i default)=none:=a29 (by show (stM m1 (ss.getD i default)).2.2≠(n7 m1.rs a1 (ss.getD i default)).2.2;rw [hk0];first | exact h10 | (intro e;rw [← e] at h10;cases h10) | simpa using h10)
    exact a6G
   try rw [h10]
   try simp only [rfb] at h10
   have hfi:(n7 m1.rs a1 (ss.getD i default)).2.2=false:=(by first | exact h10 | simpa using h10)
   have hst:agS (m1,a1) (ss.getD i default)=some (m1,a1):=a2i (by show (stM m1 (ss.getD i default)).2.2=(n7 m1.rs a1 (ss.getD i default)).2.2;rw [hk0];exact hfi.symm) hk0
   refine Q4 ?_
   exact c3U
  refine d7 14 [0,1,2,3,4,5,6,7,8,9,10] mixed a6 Z Z (λr0=>?_) (λ_ h=>h)
  refine C5 ?_
  refine zsa 4 ?_
  refine r8 (N:=12) Z (m8 (fuel:=8) [⟨10,8,11,true,.box (avR [.slice none 0 0,.slice none 0 0,.slice none 0 0,.slice none 0 0] [])⟩] (AllVOK.cons (VOK.boxS G Z Z Z Z Z) (AllVOK.nil)) (λhok=>?_))
  refine i7 [(5,[])] a6 a6 (λe he=>hok e he) a6 (AllVS.cons ?_ AllVS.nil)
  refine VStep.mk0 [0,1,2,3,4,5,6,7,8,9,10] Z Z (λb1 _ hbn=>c4 16 Z Z Z (ArgsOK.of Z) (a0z m1 (ss.getD i default).k (ss.getD i default).q (ss.getD i default).c (ss.getD i default).v hF.g (hvm J) hno) Z Z (a8 Z)) a6 a6 a6 a6 (l6 6 Z a6 Z Z Z Z (d3 Z Z) a6 a6 a6 (l6 7 Z a6 Z Z Z Z (d4 Z Z Z) a6 a6 a6 (l6 8 Z a6 Z Z Z Z (d4 Z Z Z) a6 a6 a6 (l6 9 Z a6 Z Z Z Z (d4 Z Z Z) a6 a6 a6 (i7 [(11,[10])] a6 a6 (λe he=>hok e he) a6 (AllVS.cons ?_ AllVS.nil))))))
  refine c3p ?_
  clear hok
  refine zsa 12 ?_
  refine zsa 13 ?_
  refine vm6 ?_
  refine p7 (d7 16 [0,1,2,3,4,5,6,7,8,9,10,11,12,13,14,15] mixed a6 Z Z (λr0=>?_) (λ_ h=>h))
  refine C5 ?_
  refine a0v ?_
  refine r8 (N:=17) Z (m8 (fuel:=8) [⟨12,11,16,true,.box (avR [.slice none 0 0,.slice none 0 0,.slice none 0 0,.slice none 0 0,.slice none 0 0] [])⟩] (AllVOK.cons (VOK.boxS G Z Z Z Z Z) (AllVOK.nil)) (λhok=>?_))
  refine i7 [(7,[])] a6 a6 (λe he=>hok e he) a6 (AllVS.cons ?_ AllVS.nil)
  refine VStep.mk0 [0,1,2,3,4,5,6,7,8,9,10,11,12,13,14,15] Z Z (λb1 _ hbn=>c4 22 Z Z Z (ArgsOK.of Z) (S6 m1.rs a1 (ss.getD i default).k (ss.getD i default).q (ss.getD i default).c (ss.getD i default).v hF.f (hva J)) Z Z (a8 Z)) a6 a6 a6 a6 (l6 8 Z a6 Z Z Z Z (d3 Z Z) a6 a6 a6 (l6 9 Z a6 Z Z Z Z (d4 Z Z Z) a6 a6 a6 (l6 10 Z a6 Z Z Z Z (d4 Z Z Z) a6 a6 a6 (l6 11 Z a6 Z Z Z Z (d4 Z Z Z) a6 a6 a6 (i7 [(13,[12])] a6 a6 (λe he=>hok e he) a6 (AllVS.cons ?_ AllVS.nil))))))
  refine c3n ?_
  clear hok
  refine zsa 14 ?_
  refine zsa 15 ?_
  refine vm6 ?_
  refine p7 (p7 (d7 18 [0,1,2,3,4,5,6,7,8,9,10,11,12,13,14,15,16,17,18,19,20,21] mixed a6 Z Z (λr0=>?_) (λ_ h=>h)))
  refine b1f ?_
  refine C4 (gd:=58) Z (λh11=>?_) (λh11=>?_)
  ·try rw [h11]
   try simp only [rfb] at h11
   have hst:agS (m1,a1) (ss.getD i default)=none:=a29 (by show (stM m1 (ss.getD i default)).2.2≠(n7 m1.rs a1 (ss.getD i default)).2.2;first | exact h11 | simpa using h11)
   exact a6G
  try rw [h11]
  try simp only [rfb] at h11
  have heq:(stM m1 (ss.getD i default)).2.2=(n7 m1.rs a1 (ss.getD i default)).2.2:=(by first | exact h11 | simpa using h11)
  refine Q4 ?_
  refine C4 (gd:=60) Z (λh12=>?_) (λh12=>?_)
  ·try rw [h12]
   try simp only [rfb] at h12
   have hok:(stM m1 (ss.getD i default)).2.2=true:=h12
   have hFn:=b20 hF (hv i J) hok
   refine zsa 6 ?_
   refine zsa 7 ?_
   refine zsa 8 ?_
   refine zsa 9 ?_
   refine C4 (gd:=64) Z (λh13=>?_) (λh13=>?_)
   ·try rw [h13]
    try simp only [rfb] at h13
    have hst:agS (m1,a1) (ss.getD i default)=none:=a6y heq hok (λe=>h13 e.1)
    exact b3B
   try rw [h13]
   try simp only [rfb] at h13
   have hir:(stM m1 (ss.getD i default)).2.1=(n7 m1.rs a1 (ss.getD i default)).2.1:=h13
   refine zsa 10 ?_
   refine zsa 12 ?_
   refine b6 (rs:=[11]) a6 Z (AllB.cons ?_ AllB.nil)
   refine a0L [0,1,2,3,4,5,6,7,8,9,10,11,12,13,14,15,16,17,18,19,20,21] Z Z Z Z (c4 27 Z Z Z (ArgsOK.of Z) (a3m _ hFn.g hFn.g.small) Z Z (a8 ⟨Z,?_⟩))
   refine b6 (rs:=[13]) a6 Z (AllB.cons ?_ AllB.nil)
   refine a0L [0,1,2,3,4,5,6,7,8,9,10,11,12,13,14,15,16,17,18,19,20,21] Z Z Z Z (b7 Z Z (l9 Z (ArgsOK.of Z) (a3n _ _ _ (a52 hFn.g) hFn.f) Z) (a8 ⟨Z,?_⟩))
   refine zsa 14 ?_
   refine zsa 15 ?_
   refine zsa 16 ?_
   refine zsa 17 ?_
   refine vm6 ?_
   refine zcd (λh14=>?_) (λh14=>?_)
   ·have hst:agS (m1,a1) (ss.getD i default)=none:=a6y heq hok (λe=>by have e2:=O2.mpr e.2;rw [h14] at e2;cases e2)
    exact b3C
   have hst:agS (m1,a1) (ss.getD i default)=some ((stM m1 (ss.getD i default)).1,(n7 m1.rs a1 (ss.getD i default)).1):=b05 heq hok hir (O2.mp h14)
   refine zwt ?_
   refine zgn ?_
   refine zgn ?_
   refine X3 ?_
   exact c3S
  try rw [h12]
  try simp only [rfb] at h12
  have hok:(stM m1 (ss.getD i default)).2.2=false:=h12
  have hst:agS (m1,a1) (ss.getD i default)=some (m1,a1):=a2i heq hok
  refine b39 ?_
  refine ⟨(true,i+1,m1,a1),?_,?_,⟨⟨_,Z,by rfl⟩,Z,trivial⟩,⟨⟨_,Z,by rfl⟩,Z,Z,⟨⟨_,Z,by rfl⟩,Z,Z,⟨⟨_,Z,by rfl⟩,Z,Z,⟨⟨_,Z,by rfl⟩,Z,Z,⟨⟨_,Z,by rfl⟩,Z,Z,⟨⟨_,Z,by rfl⟩,Z,Z,⟨⟨_,Z,by rfl⟩,Z,Z,⟨⟨_,Z,by rfl⟩,Z,Z,⟨⟨_,Z,by rfl⟩,Z,Z,⟨⟨_,Z,by rfl⟩,Z,Z,⟨⟨_,Z,by rfl⟩,Z,Z,trivial⟩⟩⟩⟩⟩⟩⟩⟩⟩⟩⟩,Z,Z,Z⟩
  ·exact b6B
  dsimp only;omega
 have hR:agT m ss=((ss.length:Int),true):=by rw [hRt,a5q hag J]
 refine zgo ?_
 refine g8 (G1 Z Z Z Z (a7 (p5 ?_) (a7 (p5 ?_) d5)))
 all_goals exact b1b
theorem a3Q (l:List Int) (h0:l.length<=9223372036854775807) (hb:∀j,0<=l.getD j default/\l.getD j default<=255):Ctr Tryz.prog 7 [.lst 1 (l.map B9)] (.one (.v (.bool true))):=by
 refine Ctr.of (n:=198) G Tryz.func7 Z X Z Z Z (λw0=>?_)
 refine n9 (λK1 hK1=>?_)
 refine e9 (b5 Z (b7 Z Z (o8 Z Z) (a8 (hK1 _ ?_))))
 clear hK1 K1
 refine n9 (λK2 hK2=>?_)
 refine n9 (λK3 hK3=>?_)
 refine e9 (b5 Z (b7 Z Z (d3 Z Z) (b5 Z (b7 Z Z (l9 Z (ArgsOK.of Z) (b1q _ (by first | assumption | omega)) Z) (a8 (hK3 _ ?_))))))
 clear hK3 K3
 refine o7 Z (λh1=>?_) (λh1=>?_)
 ·try rw [h1]
  try simp only [rfb] at h1
  refine n9 (λK4 hK4=>?_)
  refine e9 (b5 Z (b7 Z Z (o8 Z Z) (a8 (hK4 _ ?_))))
  clear hK4 K4
  refine g8 (R0 Z (p5 ?_))
  all_goals clear hK2 K2
  all_goals (first | rfl | (simp_all;done))
 ·try rw [h1]
  try simp only [rfb] at h1
  have hl:H5 l:=⟨by omega,hb⟩
  refine F9 (hK2 _ ?_)
  clear hK2 K2
  refine n9 (λK5 hK5=>?_)
  refine e9 (b5 Z (b7 Z Z (d3 Z Z) (b5 Z ?_)))
  refine c9 5 [] Z Z Z (a4G l hl) Z RowsIn.nil Z (λ_=>Z) Z (λx1 ⟨hv1,hc1⟩=>?_)
  refine b5 Z (b7 Z Z (d3 Z Z) (b5 Z (b7 Z Z (d4 Z Z Z) (b5 Z (b7 Z Z (d4 Z Z Z) (b5 Z (g9 G 6 Z Z Z Z Z (b5 Z (l5 G Z Z Z Z Z Z Z Z Z Z Z (b5 Z (b7 Z Z (o8 Z Z) (a8 (hK5 _ ?_)))))))))))))
  clear hK5 K5
  refine n9 (λK6 hK6=>?_)
  refine e9 (b5 Z (b7 Z Z (c5 G Z Z Z Z Z Z) (b5 Z (b7 Z Z (d3 Z Z) (b5 Z (b7 Z Z (l9 Z (ArgsOK.of Z) (a8f _ _ hv1.1.small J) Z) (b5 Z (b7 Z Z (d3 Z Z) (b5 Z (b7 Z Z (d4 Z Z Z) (b5 Z (b7 Z Z (d4 Z Z Z) (b5 Z (b7 Z Z (o8 Z Z) (b5 Z (b7 Z Z (o8 Z Z) (a8 (hK6 _ ?_))))))))))))))))))
  clear hK6 K6
  refine n9 (λK7 hK7=>?_)
  refine n9 (λK8 hK8=>?_)
  refine e9 (b5 Z (b7 Z Z (c5 G Z Z Z Z Z Z) (b5 Z (b7 Z Z (d3 Z Z) (b5 Z (b7 Z Z (l9 Z (ArgsOK.of Z) (a8g _ _ hv1.1.small J) Z) (b5 Z (b7 Z Z (d3 Z Z) (b5 Z (b7 Z Z (d4 Z Z Z) (b5 Z (b7 Z Z (d4 Z Z Z) (b5 Z (b7 Z Z (o8 Z Z) (b5 Z (b7 Z Z (o8 Z Z) (a8 (hK8 _ ?_))))))))))))))))))
  clear hK8 K8
  refine n9 (λK9 hK9=>?_)
  refine e9 (b5 Z (b7 Z Z (d3 Z Z) (b5 Z (b7 Z Z (d3 Z Z) (b5 Z (b7 Z Z (V4 (v':=.bool false) (a2p Z Z Z Z) (by first | rfl | (simp;done) | (simp [hRF.ag];done))) (b5 Z (b7 Z Z (d3 Z Z) (m7 Z Z Z (b7 Z Z (d3 Z Z) (m7 Z Z Z (b7 Z Z (d3 Z Z) (m7 Z Z Z (b7 Z Z (V4 (v':=.bool false) (a3R (G 4 _ Z).1 Z Z Z) (by first | rfl | (simp;done) | (simp [hRF.ag];done))) ?_))))))))))))))
  refine b5 Z (b7 Z Z (z6 Z Z Z) (b5 Z (b7 Z Z (d3 Z Z) (m7 Z Z Z (b7 Z Z (d3 Z Z) (m7 Z Z Z (b7 Z Z (d3 Z Z) (B3 Z Z Z (λh2=>?_) (λh2=>?_)))))))))
  ·try rw [h2]
   try simp only [rfb] at h2
   have hRF:=b35 h2
   have cA:=A6 x1.1 hv1.1.small
   rw [hRF.ab] at cA
   have cR:=a5K x1.1 x1.2 hv1.1.small J
   rw [hRF.rm] at cR
   have cN:=a4C x1.1.rs (abOf x1.1) x1.2 (by have:=a50 (m:=x1.1);rw [hRF.ab] at this;exact this) (by have:=hv1.1.rs;omega) J
   rw [hRF.rn] at cN
   have cB:=A6 (rmN x1.1 x1.2 x1.2.length).1 hRF.sm
   rw [hRF.ab2] at cB
   have cI:=F1 x1.1.rs (abOf (rmN x1.1 x1.2 x1.2.length).1) (a9w hRF.is).small (by have:=hv1.1.rs;omega)
   rw [hRF.is] at cI
   dsimp only at cA cR cN cB cI
   refine m7 Z Z Z (b7 Z Z (d3 Z Z) (m7 Z Z Z (b7 Z Z (d3 Z Z) (m7 Z Z Z ?_))))
   first | refine b7 Z Z (a4e G Z Z Z Z (List.length_map _)) ?_ | refine b7 Z Z (a7l G Z Z Z Z) ?_
   refine m7 Z Z Z (b7 Z Z (V4 (v':=.bool false) (a2p Z Z Z Z) (by first | rfl | (simp;done) | (simp [hRF.ag];done))) (m7 Z Z Z (b7 Z Z (a1n Z Z Z) (b5 Z (b7 Z Z (z6 Z Z Z) (a8 (hK9 _ ?_)))))))
   clear hK9 K9
   refine C2 Z (F9 (hK7 _ ?_))
   clear hK7 K7
   refine n9 (λK10 hK10=>?_)
   refine n9 (λK11 hK11=>?_)
   refine e9 (b5 Z (b7 Z Z (d3 Z Z) (a8 (hK11 _ ?_))))
   clear hK11 K11
   refine a09 Z ?_
   refine n9 (λK12 hK12=>?_)
   refine e9 (b5 Z (b7 Z Z (c5 G Z Z Z Z Z Z) (b5 Z (c4 11 Z Z Z (ArgsOK.of Z) cA Z Z (b5 Z (b7 Z Z (d3 Z Z) (b5 Z (b7 Z Z (d4 Z Z Z) (b5 Z (b7 Z Z (d4 Z Z Z) (b5 Z (g9 G 12 Z Z Z Z Z (b5 Z (l5 G Z Z Z Z Z Z Z Z Z Z Z (b5 Z (b7 Z Z (o8 Z Z) (a8 (hK12 _ ?_))))))))))))))))))
   clear hK12 K12
   refine n9 (λK13 hK13=>?_)
   refine e9 (b5 Z (b7 Z Z (c5 G Z Z Z Z Z Z) (b5 Z (b7 Z Z (d3 Z Z) (b5 Z (c4 17 Z Z Z (ArgsOK.of Z) cR Z Z (b5 Z (b7 Z Z (d3 Z Z) (b5 Z (b7 Z Z (d4 Z Z Z) (b5 Z (b7 Z Z (d4 Z Z Z) (b5 Z (b7 Z Z (d4 Z Z Z) (b5 Z (g9 G 18 Z Z Z Z Z (b5 Z (l5 G Z Z Z Z Z Z Z Z Z Z Z (b5 Z (b7 Z Z (o8 Z Z) (b5 Z (b7 Z Z (o8 Z Z) (a8 (hK13 _ ?_))))))))))))))))))))))))
   clear hK13 K13
   refine n9 (λK14 hK14=>?_)
   refine e9 (b5 Z (b7 Z Z (m4 G Z Z Z Z) (b5 Z (b7 Z Z (o9 G Z Z Z Z Z Z Z) (b5 Z (b7 Z Z (c5 G Z Z Z Z Z Z) (b5 Z (b7 Z Z (d3 Z Z) (b5 Z (c4 24 Z Z Z (ArgsOK.of Z) cN Z Z (b5 Z (b7 Z Z (d3 Z Z) (b5 Z (b7 Z Z (d4 Z Z Z) (b5 Z (b7 Z Z (d4 Z Z Z) (b5 Z (b7 Z Z (d4 Z Z Z) (b5 Z (g9 G 25 Z Z Z Z Z (b5 Z (l5 G Z Z Z Z Z Z Z Z Z Z Z (b5 Z (b7 Z Z (o8 Z Z) (b5 Z (b7 Z Z (o8 Z Z) (a8 (hK14 _ ?_))))))))))))))))))))))))))))
   clear hK14 K14
   refine n9 (λK15 hK15=>?_)
   refine e9 (b5 Z (b7 Z Z (c5 G Z Z Z Z Z Z) (b5 Z (c4 30 Z Z Z (ArgsOK.of Z) (Ctr.argsTo cB (λw vs h=>b5Q flM vs h)) Z Z (b5 Z (b7 Z Z (d3 Z Z) (b5 Z (b7 Z Z (d4 Z Z Z) (b5 Z (b7 Z Z (d4 Z Z Z) (b5 Z (g9 G 31 Z Z Z Z Z (b5 Z (l5 G Z Z Z Z Z Z Z Z Z Z Z (b5 Z (b7 Z Z (o8 Z Z) (a8 (hK15 _ ?_))))))))))))))))))
   clear hK15 K15
   refine n9 (λK16 hK16=>?_)
   refine e9 (b5 Z (b7 Z Z (d3 Z Z) (b5 Z (b7 Z Z (O9 Z Z) (b5 Z (b7 Z Z (d3 Z Z) (m7 Z Z Z (b7 Z Z (d3 Z Z) (m7 Z Z Z (b7 Z Z (O9 Z Z) (b5 Z (b7 Z Z (z6 Z Z Z) (b5 Z (b7 Z Z (d3 Z Z) (m7 Z Z Z (b7 Z Z (d3 Z Z) (m7 Z Z Z (b7 Z Z (O9 Z Z) (b5 Z (b7 Z Z (z6 Z Z Z) (b5 Z (b7 Z Z (d3 Z Z) (m7 Z Z Z (b7 Z Z (d3 Z Z) (m7 Z Z Z (b7 Z Z (O9 Z Z) (b5 Z (b7 Z Z (z6 Z Z Z) (b5 Z (b7 Z Z (d3 Z Z) (m7 Z Z Z (b7 Z Z (d3 Z Z) (m7 Z Z Z (b7 Z Z (d3 Z Z) (m7 Z Z Z (b7 Z Z (l9 Z (ArgsOK.of Z) (Z7 _ _ Z (by have:=hRF.len;omega)) Z) (m7 Z Z Z (b7 Z Z (O9 Z Z) (b5 Z (b7 Z Z (z6 Z Z Z) (b5 Z (b7 Z Z (d3 Z Z) (m7 Z Z Z (b7 Z Z (c5 G Z Z Z Z Z Z) (m7 Z Z Z (b7 Z Z (c5 G Z Z Z Z Z Z) (m7 Z Z Z (b7 Z Z (l9 Z (ArgsOK.of Z) (G8 _ _ Z (a9w hRF.is).small.big) Z) (m7 Z Z Z (b7 Z Z (O9 Z Z) (b5 Z (b7 Z Z (z6 Z Z Z) (b5 Z (b7 Z Z (d3 Z Z) (m7 Z Z Z (b7 Z Z (m4 G Z Z Z Z) (m7 Z Z Z (b7 Z Z (o9 G Z Z Z Z Z Z Z) (m7 Z Z Z (b7 Z Z (c5 G Z Z Z Z Z Z) (m7 Z Z Z (b7 Z Z (l9 Z (ArgsOK.of Z) cI Z) (m7 Z Z Z (b7 Z Z (O9 Z Z) (b5 Z (b7 Z Z (z6 Z Z Z) (a8 (hK16 _ ?_))))))))))))))))))))))))))))))))))))))))))))))))))))))))))))))))))))
   clear hK16 K16
   refine C2 Z (F9 (hK10 _ ?_))
   clear hK10 K10
   refine n9 (λK17 hK17=>?_)
   refine e9 (b5 Z (b7 Z Z (d3 Z Z) (b5 Z ?_)))
   refine c9 35 [] Z Z Z (T9 l hl) Z RowsIn.nil Z (λ_=>Z) Z (λx2 ⟨hv2,hc2⟩=>?_)
   refine b5 Z (g9 G 36 Z Z Z Z Z (b5 Z (l5 G Z Z Z Z Z Z Z Z Z Z Z (a8 (hK17 _ ?_)))))
   clear hK17 K17
   refine n9 (λK18 hK18=>?_)
   refine e9 (b5 Z (b7 Z Z (c5 G Z Z Z Z Z Z) (b5 Z (c4 41 Z Z Z (ArgsOK.of Z) (A6 _ hv2.small) Z Z (b5 Z (b7 Z Z (d3 Z Z) (b5 Z (b7 Z Z (d4 Z Z Z) (b5 Z (b7 Z Z (d4 Z Z Z) (b5 Z (g9 G 42 Z Z Z Z Z (b5 Z (l5 G Z Z Z Z Z Z Z Z Z Z Z (b5 Z (b7 Z Z (o8 Z Z) (a8 (hK18 _ ?_))))))))))))))))))
   clear hK18 K18
   refine n9 (λK19 hK19=>?_)
   refine n9 (λK20 hK20=>?_)
   refine e9 (b5 Z (b7 Z Z (c5 G Z Z Z Z Z Z) (b5 Z (c4 47 Z Z Z (ArgsOK.of Z) (a08 _ hv2.small) Z Z (b5 Z (b7 Z Z (d3 Z Z) (b5 Z (b7 Z Z (d4 Z Z Z) (b5 Z (b7 Z Z (d4 Z Z Z) (b5 Z (g9 G 48 Z Z Z Z Z (b5 Z (l5 G Z Z Z Z Z Z Z Z Z Z Z (b5 Z (b7 Z Z (o8 Z Z) (a8 (hK20 _ ?_))))))))))))))))))
   clear hK20 K20
   refine n9 (λK21 hK21=>?_)
   refine e9 (b5 Z (b7 Z Z (d3 Z Z) (b5 Z (b7 Z Z (d3 Z Z) (b5 Z (b7 Z Z (V4 (v':=.bool false) (a3R (G 4 _ Z).1 Z Z Z) (by first | rfl | (simp;done) | (simp [E7,a1b];done))) (b5 Z (b7 Z Z (d3 Z Z) (m7 Z Z Z (b7 Z Z (c5 G Z Z Z Z Z Z) (m7 Z Z Z (b7 Z Z (c5 G Z Z Z Z Z Z) (m7 Z Z Z (b7 Z Z (l9 Z (ArgsOK.of Z) (G8 _ _ Z a50.big) Z) (m7 Z Z Z (b7 Z Z (O9 Z Z) (b5 Z (b7 Z Z (z6 Z Z Z) (a8 (hK21 _ ?_))))))))))))))))))))
   clear hK21 K21
   refine C2 Z (F9 (hK19 _ ?_))
   clear hK19 K19
   refine n9 (λK22 hK22=>?_)
   refine e9 (b5 Z (b7 Z Z (d3 Z Z) (b5 Z ?_)))
   refine c9 54 [] Z Z Z (X5 l hl) Z RowsIn.nil Z (λ_=>Z) Z (λx3 ⟨hv3,hc3⟩=>?_)
   refine b5 Z (b7 Z Z (d3 Z Z) (b5 Z (b7 Z Z (d4 Z Z Z) (b5 Z (b7 Z Z (d4 Z Z Z) (b5 Z (g9 G 55 Z Z Z Z Z (b5 Z (b7 Z Z (o8 Z Z) (b5 Z (l5 G Z Z Z Z Z Z Z Z Z Z Z (a8 (hK22 _ ?_)))))))))))))
   clear hK22 K22
   refine n9 (λK23 hK23=>?_)
   refine e9 (b5 Z (b7 Z Z (d3 Z Z) (b5 Z (b7 Z Z (c5 G Z Z Z Z Z Z) (b5 Z (c4 59 Z Z Z (ArgsOK.of Z) (a1U _ _ hv3.2.small (by have:=hv3.1;omega)) Z Z (b5 Z (b7 Z Z (d3 Z Z) (b5 Z (b7 Z Z (d4 Z Z Z) (b5 Z (b7 Z Z (d4 Z Z Z) (b5 Z (g9 G 60 Z Z Z Z Z (b5 Z (l5 G Z Z Z Z Z Z Z Z Z Z Z (b5 Z (b7 Z Z (o8 Z Z) (a8 (hK23 _ ?_))))))))))))))))))))
   clear hK23 K23
   refine n9 (λK24 hK24=>?_)
   refine n9 (λK25 hK25=>?_)
   refine e9 (b5 Z (b7 Z Z (d3 Z Z) (b5 Z (b7 Z Z (c5 G Z Z Z Z Z Z) (b5 Z (c4 64 Z Z Z (ArgsOK.of Z) (a1T _ _ hv3.2.small (by have:=hv3.1;omega)) Z Z (b5 Z (b7 Z Z (d3 Z Z) (b5 Z (b7 Z Z (d4 Z Z Z) (b5 Z (b7 Z Z (d4 Z Z Z) (b5 Z (g9 G 65 Z Z Z Z Z (b5 Z (l5 G Z Z Z Z Z Z Z Z Z Z Z (b5 Z (b7 Z Z (o8 Z Z) (a8 (hK25 _ ?_))))))))))))))))))))
   clear hK25 K25
   refine n9 (λK26 hK26=>?_)
   refine e9 (b5 Z (b7 Z Z (d3 Z Z) (b5 Z (b7 Z Z (d3 Z Z) (b5 Z (b7 Z Z (V4 (v':=.bool false) (a3R (G 4 _ Z).1 Z Z Z) (by first | rfl | (simp;done) | (rw [a5x];simp;done) | (simp [a5x];done))) (b5 Z (b7 Z Z (d3 Z Z) (m7 Z Z Z (b7 Z Z (c5 G Z Z Z Z Z Z) (m7 Z Z Z (b7 Z Z (c5 G Z Z Z Z Z Z) (m7 Z Z Z (b7 Z Z (l9 Z (ArgsOK.of Z) (a2w _ _ Z a8Y.big) Z) (m7 Z Z Z (b7 Z Z (O9 Z Z) (b5 Z (b7 Z Z (z6 Z Z Z) (b5 Z (b7 Z Z (d3 Z Z) (m7 Z Z Z (b7 Z Z (d3 Z Z) (m7 Z Z Z (b7 Z Z (c5 G Z Z Z Z Z Z) (m7 Z Z Z (b7 Z Z (l9 Z (ArgsOK.of Z) (F1 _ _ hv3.2.small (by have:=hv3.1;omega)) Z) (m7 Z Z Z (b7 Z Z (d3 Z Z) (m7 Z Z Z (b7 Z Z (V4 (v':=.bool false) (a3R (G 4 _ Z).1 Z Z Z) (by first | rfl | (simp;done) | (rw [a5x];simp;done) | (simp [a5x];done))) (b5 Z (b7 Z Z (z6 Z Z Z) (a8 (hK26 _ ?_))))))))))))))))))))))))))))))))))
   clear hK26 K26
   refine C2 Z (F9 (hK24 _ ?_))
   clear hK24 K24
   refine n9 (λK27 hK27=>?_)
   refine n9 (λK28 hK28=>?_)
   refine e9 (b5 Z (b7 Z Z (d3 Z Z) (a8 (hK28 _ ?_))))
   clear hK28 K28
   refine o7 Z (λh3=>?_) (λh3=>?_)
   ·try rw [h3]
    try simp only [rfb] at h3
    have hMF:=c25 h3
    have cC:=A6 (moT x3.1 x3.2).1 hMF.sm
    rw [hMF.ab] at cC
    have cJ:=G7 (moT x3.1 x3.2).1 hMF.sm
    rw [hMF.ok] at cJ
    dsimp only at cC cJ
    refine n9 (λK29 hK29=>?_)
    refine e9 (b5 Z (b7 Z Z (c5 G Z Z Z Z Z Z) (b5 Z (c4 70 Z Z Z (ArgsOK.of Z) cC Z Z (b5 Z (b7 Z Z (d3 Z Z) (b5 Z (b7 Z Z (d4 Z Z Z) (b5 Z (b7 Z Z (d4 Z Z Z) (b5 Z (g9 G 71 Z Z Z Z Z (b5 Z (l5 G Z Z Z Z Z Z Z Z Z Z Z (b5 Z (b7 Z Z (o8 Z Z) (a8 (hK29 _ ?_))))))))))))))))))
    clear hK29 K29
    refine n9 (λK30 hK30=>?_)
    refine e9 (b5 Z (b7 Z Z (d3 Z Z) (b5 Z (b7 Z Z (d3 Z Z) (m7 Z Z Z (b7 Z Z (c5 G Z Z Z Z Z Z) (m7 Z Z Z (b7 Z Z (l9 Z (ArgsOK.of Z) cJ Z) (b5 Z (b7 Z Z (a1n Z Z Z) (b5 Z (b7 Z Z (d3 Z Z) (m7 Z Z Z (b7 Z Z (c5 G Z Z Z Z Z Z) (m7 Z Z Z (b7 Z Z (c5 G Z Z Z Z Z Z) (m7 Z Z Z (b7 Z Z (l9 Z (ArgsOK.of Z) (G8 _ _ Z hv3.2.small.big) Z) (b5 Z (b7 Z Z (a1n Z Z Z) (b5 Z (b7 Z Z (o8 Z Z) (a8 (hK30 _ ?_))))))))))))))))))))))))
    clear hK30 K30
    refine g8 (R0 Z (p5 ?_))
    all_goals clear hK27 K27
    all_goals (first | rfl | (simp_all;done))
   ·try rw [h3]
    try simp only [rfb] at h3
    refine F9 (hK27 _ ?_)
    clear hK27 K27
    refine n9 (λK31 hK31=>?_)
    refine e9 (b5 Z (b7 Z Z (o8 Z Z) (a8 (hK31 _ ?_))))
    clear hK31 K31
    exact b1n
  ·try rw [h2]
   try simp only [rfb] at h2
   refine a1W Z Z Z Z Z Z (a1W Z Z Z Z Z Z (a1W Z Z Z Z Z Z (a1W Z Z Z Z Z Z (m7 Z Z Z (b7 Z Z (z6 Z Z Z) (b5 Z (b7 Z Z (z6 Z Z Z) (a8 (hK9 _ ?_)))))))))
   clear hK9 K9
   refine C2 Z (F9 (hK7 _ ?_))
   clear hK7 K7
   refine n9 (λK32 hK32=>?_)
   refine n9 (λK33 hK33=>?_)
   refine e9 (b5 Z (b7 Z Z (d3 Z Z) (a8 (hK33 _ ?_))))
   clear hK33 K33
   refine C2 Z (F9 (hK32 _ ?_))
   clear hK32 K32
   refine n9 (λK34 hK34=>?_)
   refine e9 (b5 Z (b7 Z Z (d3 Z Z) (b5 Z ?_)))
   refine c9 10 [] Z Z Z (T9 l hl) Z RowsIn.nil Z (λ_=>Z) Z (λx4 ⟨hv4,hc4⟩=>?_)
   refine b5 Z (g9 G 11 Z Z Z Z Z (b5 Z (l5 G Z Z Z Z Z Z Z Z Z Z Z (a8 (hK34 _ ?_)))))
   clear hK34 K34
   refine n9 (λK35 hK35=>?_)
   refine e9 (b5 Z (b7 Z Z (c5 G Z Z Z Z Z Z) (b5 Z (c4 16 Z Z Z (ArgsOK.of Z) (A6 _ hv4.small) Z Z (b5 Z (b7 Z Z (d3 Z Z) (b5 Z (b7 Z Z (d4 Z Z Z) (b5 Z (b7 Z Z (d4 Z Z Z) (b5 Z (g9 G 17 Z Z Z Z Z (b5 Z (l5 G Z Z Z Z Z Z Z Z Z Z Z (b5 Z (b7 Z Z (o8 Z Z) (a8 (hK35 _ ?_))))))))))))))))))
   clear hK35 K35
   refine n9 (λK36 hK36=>?_)
   refine n9 (λK37 hK37=>?_)
   refine e9 (b5 Z (b7 Z Z (c5 G Z Z Z Z Z Z) (b5 Z (c4 22 Z Z Z (ArgsOK.of Z) (a08 _ hv4.small) Z Z (b5 Z (b7 Z Z (d3 Z Z) (b5 Z (b7 Z Z (d4 Z Z Z) (b5 Z (b7 Z Z (d4 Z Z Z) (b5 Z (g9 G 23 Z Z Z Z Z (b5 Z (l5 G Z Z Z Z Z Z Z Z Z Z Z (b5 Z (b7 Z Z (o8 Z Z) (a8 (hK37 _ ?_))))))))))))))))))
   clear hK37 K37
   refine n9 (λK38 hK38=>?_)
   refine e9 (b5 Z (b7 Z Z (d3 Z Z) (b5 Z (b7 Z Z (d3 Z Z) (b5 Z (b7 Z Z (V4 (v':=.bool false) (a3R (G 4 _ Z).1 Z Z Z) (by first | rfl | (simp;done) | (simp [E7,a1b];done))) (b5 Z (b7 Z Z (d3 Z Z) (m7 Z Z Z (b7 Z Z (c5 G Z Z Z Z Z Z) (m7 Z Z Z (b7 Z Z (c5 G Z Z Z Z Z Z) (m7 Z Z Z (b7 Z Z (l9 Z (ArgsOK.of Z) (G8 _ _ Z a50.big) Z) (m7 Z Z Z (b7 Z Z (O9 Z Z) (b5 Z (b7 Z Z (z6 Z Z Z) (a8 (hK38 _ ?_))))))))))))))))))))
   clear hK38 K38
   refine C2 Z (F9 (hK36 _ ?_))
   clear hK36 K36
   refine n9 (λK39 hK39=>?_)
   refine e9 (b5 Z (b7 Z Z (d3 Z Z) (b5 Z ?_)))
   refine c9 29 [] Z Z Z (X5 l hl) Z RowsIn.nil Z (λ_=>Z) Z (λx5 ⟨hv5,hc5⟩=>?_)
   refine b5 Z (b7 Z Z (d3 Z Z) (b5 Z (b7 Z Z (d4 Z Z Z) (b5 Z (b7 Z Z (d4 Z Z Z) (b5 Z (g9 G 30 Z Z Z Z Z (b5 Z (b7 Z Z (o8 Z Z) (b5 Z (l5 G Z Z Z Z Z Z Z Z Z Z Z (a8 (hK39 _ ?_)))))))))))))
   clear hK39 K39
   refine n9 (λK40 hK40=>?_)
   refine e9 (b5 Z (b7 Z Z (d3 Z Z) (b5 Z (b7 Z Z (c5 G Z Z Z Z Z Z) (b5 Z (c4 34 Z Z Z (ArgsOK.of Z) (a1U _ _ hv5.2.small (by have:=hv5.1;omega)) Z Z (b5 Z (b7 Z Z (d3 Z Z) (b5 Z (b7 Z Z (d4 Z Z Z) (b5 Z (b7 Z Z (d4 Z Z Z) (b5 Z (g9 G 35 Z Z Z Z Z (b5 Z (l5 G Z Z Z Z Z Z Z Z Z Z Z (b5 Z (b7 Z Z (o8 Z Z) (a8 (hK40 _ ?_))))))))))))))))))))
   clear hK40 K40
   refine n9 (λK41 hK41=>?_)
   refine n9 (λK42 hK42=>?_)
   refine e9 (b5 Z (b7 Z Z (d3 Z Z) (b5 Z (b7 Z Z (c5 G Z Z Z Z Z Z) (b5 Z (c4 39 Z Z Z (ArgsOK.of Z) (a1T _ _ hv5.2.small (by have:=hv5.1;omega)) Z Z (b5 Z (b7 Z Z (d3 Z Z) (b5 Z (b7 Z Z (d4 Z Z Z) (b5 Z (b7 Z Z (d4 Z Z Z) (b5 Z (g9 G 40 Z Z Z Z Z (b5 Z (l5 G Z Z Z Z Z Z Z Z Z Z Z (b5 Z (b7 Z Z (o8 Z Z) (a8 (hK42 _ ?_))))))))))))))))))))
   clear hK42 K42
   refine n9 (λK43 hK43=>?_)
   refine e9 (b5 Z (b7 Z Z (d3 Z Z) (b5 Z (b7 Z Z (d3 Z Z) (b5 Z (b7 Z Z (V4 (v':=.bool false) (a3R (G 4 _ Z).1 Z Z Z) (by first | rfl | (simp;done) | (rw [a5x];simp;done) | (simp [a5x];done))) (b5 Z (b7 Z Z (d3 Z Z) (m7 Z Z Z (b7 Z Z (c5 G Z Z Z Z Z Z) (m7 Z Z Z (b7 Z Z (c5 G Z Z Z Z Z Z) (m7 Z Z Z (b7 Z Z (l9 Z (ArgsOK.of Z) (a2w _ _ Z a8Y.big) Z) (m7 Z Z Z (b7 Z Z (O9 Z Z) (b5 Z (b7 Z Z (z6 Z Z Z) (b5 Z (b7 Z Z (d3 Z Z) (m7 Z Z Z (b7 Z Z (d3 Z Z) (m7 Z Z Z (b7 Z Z (c5 G Z Z Z Z Z Z) (m7 Z Z Z (b7 Z Z (l9 Z (ArgsOK.of Z) (F1 _ _ hv5.2.small (by have:=hv5.1;omega)) Z) (m7 Z Z Z (b7 Z Z (d3 Z Z) (m7 Z Z Z (b7 Z Z (V4 (v':=.bool false) (a3R (G 4 _ Z).1 Z Z Z) (by first | rfl | (simp;done) | (rw [a5x];simp;done) | (simp [a5x];done))) (b5 Z (b7 Z Z (z6 Z Z Z) (a8 (hK43 _ ?_))))))))))))))))))))))))))))))))))
   clear hK43 K43
   refine C2 Z (F9 (hK41 _ ?_))
   clear hK41 K41
   refine n9 (λK44 hK44=>?_)
   refine n9 (λK45 hK45=>?_)
   refine e9 (b5 Z (b7 Z Z (d3 Z Z) (a8 (hK45 _ ?_))))
   clear hK45 K45
   refine o7 Z (λh4=>?_) (λh4=>?_)
   ·try rw [h4]
    try simp only [rfb] at h4
    have hMF:=c25 h4
    have cC:=A6 (moT x5.1 x5.2).1 hMF.sm
    rw [hMF.ab] at cC
    have cJ:=G7 (moT x5.1 x5.2).1 hMF.sm
    rw [hMF.ok] at cJ
    dsimp only at cC cJ
    refine n9 (λK46 hK46=>?_)
    refine e9 (b5 Z (b7 Z Z (c5 G Z Z Z Z Z Z) (b5 Z (c4 45 Z Z Z (ArgsOK.of Z) cC Z Z (b5 Z (b7 Z Z (d3 Z Z) (b5 Z (b7 Z Z (d4 Z Z Z) (b5 Z (b7 Z Z (d4 Z Z Z) (b5 Z (g9 G 46 Z Z Z Z Z (b5 Z (l5 G Z Z Z Z Z Z Z Z Z Z Z (b5 Z (b7 Z Z (o8 Z Z) (a8 (hK46 _ ?_))))))))))))))))))
    clear hK46 K46
    refine n9 (λK47 hK47=>?_)
    refine e9 (b5 Z (b7 Z Z (d3 Z Z) (b5 Z (b7 Z Z (d3 Z Z) (m7 Z Z Z (b7 Z Z (c5 G Z Z Z Z Z Z) (m7 Z Z Z (b7 Z Z (l9 Z (ArgsOK.of Z) cJ Z) (b5 Z (b7 Z Z (a1n Z Z Z) (b5 Z (b7 Z Z (d3 Z Z) (m7 Z Z Z (b7 Z Z (c5 G Z Z Z Z Z Z) (m7 Z Z Z (b7 Z Z (c5 G Z Z Z Z Z Z) (m7 Z Z Z (b7 Z Z (l9 Z (ArgsOK.of Z) (G8 _ _ Z hv5.2.small.big) Z) (b5 Z (b7 Z Z (a1n Z Z Z) (b5 Z (b7 Z Z (o8 Z Z) (a8 (hK47 _ ?_))))))))))))))))))))))))
    clear hK47 K47
    refine g8 (R0 Z (p5 ?_))
    all_goals clear hK44 K44
    all_goals (first | rfl | (simp_all;done))
   ·try rw [h4]
    try simp only [rfb] at h4
    refine F9 (hK44 _ ?_)
    clear hK44 K44
    refine n9 (λK48 hK48=>?_)
    refine e9 (b5 Z (b7 Z Z (o8 Z Z) (a8 (hK48 _ ?_))))
    clear hK48 K48
    exact b1n
end Go.Proofs.YtcnodpipinlpcaaGreat
