/- Texts merged into one: W4, W5, M1, M2. -/
import Derived.Test.YtcnodpipinlpcaaGreatPFnRefinementA
set_option maxHeartbeats 4000000
set_option linter.unusedSimpArgs false
set_option linter.unusedVariables false
set_option maxRecDepth 20000
namespace Go.Proofs.YtcnodpipinlpcaaGreat
open Go Go.Rf
theorem a1O (rs:List Route) (a:Abs) (c:Nat) (hF:AbsF rs a) (hc:c < a.ma.length):Ctr Tryz.prog 66 [.lst 2 (rs.map n6),.agg [.lst 1 (a.en.map e7),.lst 1 (a.ra.map e7),.lst 1 (a.po.map e7),.lst 1 (a.ma.map Rf.l8),.nst none 1 (a.st.map p8)],.v (.int .i64 (c:Int))] (.one (.v (.int .i64 (B1 rs a c)))):=by
 have f0:=hF.n
 have f1:=hF.rn
 have f2:=hF.st
 have f3:=hF.en
 have f4:=hF.ra
 have f5:=hF.po
 have fl:=hF.len c hc
 have fe:=hF.el c hc
 have fm:=hF.rt
 have ftn:(((a.st.getD c default).length:Int) - 1).toNat=(a.st.getD c default).length - 1:=J
 have ft:0 < (a.st.getD c default).length→0<=(a.st.getD c default).getD (((a.st.getD c default).length:Int) - 1).toNat default/\(a.st.getD c default).getD (((a.st.getD c default).length:Int) - 1).toNat default<=7:=λh0=>(by rw [ftn];exact fe _ J)
 refine Ctr.of (n:=69) G Tryz.func66 Z a6 Z Z Z (λw0=>?_)
 refine j8 1 Z (λ_=>Z) (λu1=>?_)
 refine w8 ?_
 refine zgd ?_
 refine zgo ?_
 refine j7 Z ?_
 refine a8n ?_
 refine zcd (λh1=>?_) (λh1=>?_)
 ·refine zf1 ?_
  all_goals exact b8U
 refine zcd (λh2=>?_) (λh2=>?_)
 ·refine m3 ?_
  refine b7 Z Z (b4v Z Z Z) ?_
  exact c0a
 exact c0a
theorem a75 (rs:List Route) (a:Abs) (c:Nat) (hF:AbsF rs a) (hc:c < a.ma.length):Ctr Tryz.prog 68 [.lst 2 (rs.map n6),.agg [.lst 1 (a.en.map e7),.lst 1 (a.ra.map e7),.lst 1 (a.po.map e7),.lst 1 (a.ma.map Rf.l8),.nst none 1 (a.st.map p8)],.v (.int .i64 (c:Int))] (.one (.v (.int .i64 (B1 rs a c)))):=by
 have f0:=hF.n
 have f1:=hF.rn
 have f2:=hF.st
 have f3:=hF.en
 have f4:=hF.ra
 have f5:=hF.po
 have fl:=hF.len c hc
 have fe:=hF.el c hc
 have fm:=hF.rt
 have ftn:(((a.st.getD c default).length:Int) - 1).toNat=(a.st.getD c default).length - 1:=J
 have ft:0 < (a.st.getD c default).length→0<=(a.st.getD c default).getD (((a.st.getD c default).length:Int) - 1).toNat default/\(a.st.getD c default).getD (((a.st.getD c default).length:Int) - 1).toNat default<=7:=λh0=>(by rw [ftn];exact fe _ J)
 refine Ctr.of (n:=97) G Tryz.func68 Z a6 Z Z Z (λw0=>?_)
 refine j8 1 Z (λ_=>Z) (λu1=>?_)
 refine w8 ?_
 refine zgo ?_
 refine f6 [0,2,4] [0] (λ(i:Nat)=>[(7,.v (.int .i64 (r6 rs a c i))),(8,.v (.int .i64 (i:Int)))]) (λ(i:Nat)=>[]) (λ(i:Nat)=>i<=8) (λ(i:Nat)=>8 - i) 0 Z Z ?_ ?_ ?_ ?_
 ·exact H0
 ·exact b9R
 ·exact trivial
 intro i hinv
 have hbl:=@a1z rs a c i
 refine vm2 ?_
 refine zcd (λh1=>?_) (λh1=>?_)
 ·refine zgd ?_
  refine zcd (λh2=>?_) (λh2=>?_)
  ·refine zcd (λh3=>?_) (λh3=>?_)
   ·refine zcd (λh4=>?_) (λh4=>?_)
    ·refine zwt ?_
     exact b6y
    refine zcd (λh5=>?_) (λh5=>?_)
    ·exact b6y
    exact b6y
   refine zwf ?_
   exact b6y
  refine zwf ?_
  exact b6y
 refine m3 ?_
 refine a4t ?_
 refine zgd ?_
 refine zcd (λh6=>?_) (λh6=>?_)
 ·refine zwt ?_
  exact b6D
 refine zcd (λh7=>?_) (λh7=>?_)
 ·refine zwt ?_
  exact b6D
 refine zcd (λh8=>?_) (λh8=>?_)
 ·refine zwt ?_
  exact b6D
 refine zcd (λh9=>?_) (λh9=>?_)
 ·refine zgo ?_
  refine a2j ?_
  refine a8n ?_
  refine zcd (λh10=>?_) (λh10=>?_)
  ·exact b6D
  exact b6D
 refine zwf ?_
 refine zf1 ?_
 all_goals exact b8O
theorem u7 (l:List Int) (hn:l.length<=1048576):Ctr Tryz.prog 128 [.lst 1 (l.map Rf.l8)] (.one (.fr 3 1 (l.map Rf.l8))):=by
 refine Ctr.of (n:=6) G Tryz.func128 Z a6 Z Z Z (λw0=>?_)
 exact b9H
theorem w7 (l:List Int) (hn:l.length<=1048576):Ctr Tryz.prog 132 [.lst 1 (l.map Rf.l8)] (.one (.fr 3 1 (l.map Rf.l8))):=by
 refine Ctr.of (n:=6) G Tryz.func132 Z a6 Z Z Z (λw0=>?_)
 exact b9H
theorem P4 (a:Abs) (hs:SmallA a):Ctr Tryz.prog 56 [.agg [.lst 1 (a.en.map e7),.lst 1 (a.ra.map e7),.lst 1 (a.po.map e7),.lst 1 (a.ma.map Rf.l8),.nst none 1 (a.st.map p8)]] (.shp true [some 5] [.fr 4 1 (a.en.map e7),.fr 4 1 (a.ra.map e7),.fr 4 1 (a.po.map e7),.fr 3 1 (a.ma.map Rf.l8),.ne 26 1 (a.st.map p8)]):=by
 have hz0:=hs.en
 have hz1:=hs.ra
 have hz2:=hs.po
 have hz3:=hs.ma
 have hz4:=hs.st
 refine Ctr.of (n:=39) G Tryz.func56 Z a6 Z Z Z (λw0=>?_)
 refine j8 0 Z (λ_=>Z) (λu0=>?_)
 refine L6 ?_
 refine zgn ?_
 refine p7 (d7 19 [0,1] mixed a6 Z Z (λr0=>?_) (λ_ h=>h))
 refine b0b ?_
 refine zsa 9 ?_
 refine zsa 10 ?_
 refine zsa 12 ?_
 refine zsa 13 ?_
 refine r8 (N:=7) Z (m8 (fuel:=6) [⟨0,6,2,false,.row 4 1 []⟩,⟨4,10,3,false,.row 4 1 []⟩,⟨8,14,4,false,.row 4 1 []⟩,⟨15,21,5,false,.row 26 1 []⟩,⟨17,3,6,true,.box (avR [.slice none 0 0,.slice none 0 0,.slice none 0 0,.slice none 0 0,.slice none 0 0] [])⟩] (AllVOK.cons (VOK.lit G Z Z Z Z Z) (AllVOK.cons (VOK.lit G Z Z Z Z Z) (AllVOK.cons (VOK.lit G Z Z Z Z Z) (AllVOK.cons (VOK.lit G Z Z Z Z Z) (AllVOK.cons (VOK.boxS G Z Z Z Z Z) (AllVOK.nil)))))) (λhok=>?_))
 refine i7 [(3,[0])] a6 a6 (λe he=>hok e he) a6 (AllVS.cons ?_ AllVS.nil)
 refine VStep.mk1 [0,1] 6 (.own 2) 2 (.row 4 1 []) [⟨4,10,3,false,.row 4 1 []⟩,⟨8,14,4,false,.row 4 1 []⟩,⟨15,21,5,false,.row 26 1 []⟩,⟨17,3,6,true,.box (avR [.slice none 0 0,.slice none 0 0,.slice none 0 0,.slice none 0 0,.slice none 0 0] [])⟩] Z Z Z Z Z (λb1 _ hbn=>i6 G C1 Z Z Z Z Z Z Z Z Z g0 Z Z (a8 Z)) a6 a6 a6 a6 (i7 [(7,[4])] a6 a6 (λe he=>hok e (vin (is:=[0]) Z he)) a6 (AllVS.cons ?_ AllVS.nil))
 refine VStep.mk1 [0,1] 10 (.own 3) 3 (.row 4 1 []) [⟨8,14,4,false,.row 4 1 []⟩,⟨15,21,5,false,.row 26 1 []⟩,⟨17,3,6,true,.box (avR [.slice none 0 0,.slice none 0 0,.slice none 0 0,.slice none 0 0,.slice none 0 0] [])⟩] Z Z Z Z Z (λb1 _ hbn=>i6 G C1 Z Z Z Z Z Z Z Z Z g0 Z Z (a8 Z)) a6 a6 a6 a6 (i7 [(11,[8])] a6 a6 (λe he=>hok e (vin (is:=[0,4]) Z he)) a6 (AllVS.cons ?_ AllVS.nil))
 refine VStep.mk1 [0,1] 14 (.own 4) 4 (.row 4 1 []) [⟨15,21,5,false,.row 26 1 []⟩,⟨17,3,6,true,.box (avR [.slice none 0 0,.slice none 0 0,.slice none 0 0,.slice none 0 0,.slice none 0 0] [])⟩] Z Z Z Z Z (λb1 _ hbn=>i6 G C1 Z Z Z Z Z Z Z Z Z g0 Z Z (a8 Z)) a6 a6 a6 a6 (i7 [(14,[])] a6 a6 (λe he=>hok e (vin (is:=[0,4,8]) Z he)) a6 (AllVS.cons ?_ AllVS.nil))
 refine VStep.mk0 [0,1] Z Z (λb1 _ hbn=>c4 8 Z Z Z (ArgsOK.of Z) (u7 _ hs.ma) Z Z (a8 Z)) a6 a6 a6 a6 (i7 [(16,[15])] a6 a6 (λe he=>hok e (vin (is:=[0,4,8]) Z he)) a6 (AllVS.cons ?_ AllVS.nil))
 refine VStep.mk1 [0,1] 21 (.own 5) 5 (.row 26 1 []) [⟨17,3,6,true,.box (avR [.slice none 0 0,.slice none 0 0,.slice none 0 0,.slice none 0 0,.slice none 0 0] [])⟩] Z Z Z Z Z (λb1 _ hbn=>b7 Z Z (y9 G Z Z Z Z) (a8 Z)) a6 a6 a6 a6 (i7 [(18,[17])] a6 a6 (λe he=>hok e (vin (is:=[0,4,8,15]) Z he)) a6 (AllVS.cons ?_ AllVS.nil))
 refine c3q ?_
 clear hok
 refine b7S ?_
 refine f6 [2,3,24,25] [1,2,3,4,6,7] (λ(k:Nat)=>[(26,.v (.int .i64 (k:Int)))]) (λ(k:Nat)=>[(5,some (.nest 26 1 ((a.st.take k).map p8) []))]) (λ(k:Nat)=>k<=a.st.length) (λ(k:Nat)=>a.st.length - k) 0 Z Z ?_ ?_ ?_ ?_
 ·exact H0
 ·exact u3
 ·exact Y5
 intro k hinv
 refine vm2 ?_
 refine zcd (λh1=>?_) (λh1=>?_)
 ·refine m3 ?_
  refine a4t ?_
  refine zgo ?_
  apply v8 [2,3,24,25,26] [1,2,3,4,6,7,10] 11 8 [1,2,3,4,7] mixed a6 Z Z (λ_ h=>znk h)
  ·intro r0
   refine zsa 0 ?_
   refine zsa 2 ?_
   refine b6 (rs:=[1,3]) a6 Z (AllB.cons ?_ (AllB.cons ?_ AllB.nil))
   ·refine b4e ?_
    refine b6 (rs:=[3]) a6 Z (AllB.cons ?_ AllB.nil)
    refine c8 [1,2,3,4,7] Z Z (c4 9 Z Z Z (ArgsOK.of Z) (u7 _ (hs.all k J)) Z Z (a8 ⟨Z,?_⟩))
    exact c0J
   refine c8 [1,2,3,4,7] Z Z (c4 9 Z Z Z (ArgsOK.of Z) (u7 _ (hs.all k J)) Z Z (a8 ⟨Z,?_⟩))
   refine b6 (rs:=[1,4]) a6 Z (AllB.cons ?_ (AllB.cons ?_ AllB.nil))
   ·refine b4e ?_
    exact c0J
   refine c8 [1,2,3,4,7] Z Z (s9 G 10 Z Z Z Z Z Z Z Z (.own Z .nil) Z Z Z Z (a8 ⟨Z,?_⟩))
   refine b6 (rs:=[1]) a6 Z (AllB.cons ?_ AllB.nil)
   refine b4e ?_
   exact b99
  refine e9 ?_
  refine G9 ?_
  refine m6 (Gh.sub 10 5 np Z Z Z) (a8 ⟨(k+1),?_,?_,⟨⟨_,Z,by rfl⟩,Z,trivial⟩,⟨⟨_,Z,by (rw [b8e J];done)⟩,Z,Z,trivial⟩,Z,Z,Z⟩)
  ·omega
  omega
 refine zgo ?_
 refine g8 (m5 Z Z Z Z (a7 (b8 Z ?_) (a7 (b8 Z ?_) (a7 (b8 Z ?_) (a7 (b8 Z ?_) (a7 (t8 Z ?_) d5))))))
 all_goals (first | rfl | (exact a8P J) | simp)
theorem a34 (a:Abs) (hs:SmallA a):Ctr Tryz.prog 60 [.agg [.lst 1 (a.en.map e7),.lst 1 (a.ra.map e7),.lst 1 (a.po.map e7),.lst 1 (a.ma.map Rf.l8),.nst none 1 (a.st.map p8)]] (.shp true [some 5] [.fr 4 1 (a.en.map e7),.fr 4 1 (a.ra.map e7),.fr 4 1 (a.po.map e7),.fr 3 1 (a.ma.map Rf.l8),.ne 26 1 (a.st.map p8)]):=by
 have hz0:=hs.en
 have hz1:=hs.ra
 have hz2:=hs.po
 have hz3:=hs.ma
 have hz4:=hs.st
 refine Ctr.of (n:=41) G Tryz.func60 Z a6 Z Z Z (λw0=>?_)
 refine j8 0 Z (λ_=>Z) (λu0=>?_)
 refine L6 ?_
 refine zgn ?_
 refine p7 (d7 19 [0,1] mixed a6 Z Z (λr0=>?_) (λ_ h=>h))
 refine b0b ?_
 refine zsa 9 ?_
 refine zsa 10 ?_
 refine zsa 12 ?_
 refine zsa 13 ?_
 refine r8 (N:=7) Z (m8 (fuel:=6) [⟨0,5,2,false,.row 4 1 []⟩,⟨4,9,3,false,.row 4 1 []⟩,⟨8,13,4,false,.row 4 1 []⟩,⟨15,20,5,false,.row 26 1 []⟩,⟨17,3,6,true,.box (avR [.slice none 0 0,.slice none 0 0,.slice none 0 0,.slice none 0 0,.slice none 0 0] [])⟩] (AllVOK.cons (VOK.lit G Z Z Z Z Z) (AllVOK.cons (VOK.lit G Z Z Z Z Z) (AllVOK.cons (VOK.lit G Z Z Z Z Z) (AllVOK.cons (VOK.lit G Z Z Z Z Z) (AllVOK.cons (VOK.boxS G Z Z Z Z Z) (AllVOK.nil)))))) (λhok=>?_))
 refine i7 [(3,[0])] a6 a6 (λe he=>hok e he) a6 (AllVS.cons ?_ AllVS.nil)
 refine VStep.mk1 [0,1] 5 (.own 2) 2 (.row 4 1 []) [⟨4,9,3,false,.row 4 1 []⟩,⟨8,13,4,false,.row 4 1 []⟩,⟨15,20,5,false,.row 26 1 []⟩,⟨17,3,6,true,.box (avR [.slice none 0 0,.slice none 0 0,.slice none 0 0,.slice none 0 0,.slice none 0 0] [])⟩] Z Z Z Z Z (λb1 _ hbn=>i6 G C1 Z Z Z Z Z Z Z Z Z g0 Z Z (a8 Z)) a6 a6 a6 a6 (i7 [(7,[4])] a6 a6 (λe he=>hok e (vin (is:=[0]) Z he)) a6 (AllVS.cons ?_ AllVS.nil))
 refine VStep.mk1 [0,1] 9 (.own 3) 3 (.row 4 1 []) [⟨8,13,4,false,.row 4 1 []⟩,⟨15,20,5,false,.row 26 1 []⟩,⟨17,3,6,true,.box (avR [.slice none 0 0,.slice none 0 0,.slice none 0 0,.slice none 0 0,.slice none 0 0] [])⟩] Z Z Z Z Z (λb1 _ hbn=>i6 G C1 Z Z Z Z Z Z Z Z Z g0 Z Z (a8 Z)) a6 a6 a6 a6 (i7 [(11,[8])] a6 a6 (λe he=>hok e (vin (is:=[0,4]) Z he)) a6 (AllVS.cons ?_ AllVS.nil))
 refine VStep.mk1 [0,1] 13 (.own 4) 4 (.row 4 1 []) [⟨15,20,5,false,.row 26 1 []⟩,⟨17,3,6,true,.box (avR [.slice none 0 0,.slice none 0 0,.slice none 0 0,.slice none 0 0,.slice none 0 0] [])⟩] Z Z Z Z Z (λb1 _ hbn=>i6 G C1 Z Z Z Z Z Z Z Z Z g0 Z Z (a8 Z)) a6 a6 a6 a6 (i7 [(14,[])] a6 a6 (λe he=>hok e (vin (is:=[0,4,8]) Z he)) a6 (AllVS.cons ?_ AllVS.nil))
 refine VStep.mk0 [0,1] Z Z (λb1 _ hbn=>c4 8 Z Z Z (ArgsOK.of Z) (w7 _ hs.ma) Z Z (a8 Z)) a6 a6 a6 a6 (i7 [(16,[15])] a6 a6 (λe he=>hok e (vin (is:=[0,4,8]) Z he)) a6 (AllVS.cons ?_ AllVS.nil))
 refine VStep.mk1 [0,1] 20 (.own 5) 5 (.row 26 1 []) [⟨17,3,6,true,.box (avR [.slice none 0 0,.slice none 0 0,.slice none 0 0,.slice none 0 0,.slice none 0 0] [])⟩] Z Z Z Z Z (λb1 _ hbn=>b7 Z Z (y9 G Z Z Z Z) (a8 Z)) a6 a6 a6 a6 (i7 [(18,[17])] a6 a6 (λe he=>hok e (vin (is:=[0,4,8,15]) Z he)) a6 (AllVS.cons ?_ AllVS.nil))
 refine c3q ?_
 clear hok
 refine b7S ?_
 refine f6 [1,2,3] [0,1,2,3,4,6,7] (λ(k:Nat)=>[(4,.v (.int .i64 (k:Int)))]) (λ(k:Nat)=>[(5,some (.nest 26 1 ((a.st.take k).map p8) []))]) (λ(k:Nat)=>k<=a.st.length) (λ(k:Nat)=>a.st.length - k) 0 Z Z ?_ ?_ ?_ ?_
 ·exact H0
 ·exact u3
 ·exact Y5
 intro k hinv
 refine vm2 ?_
 refine zcd (λh1=>?_) (λh1=>?_)
 ·refine zgo ?_
  apply v8 [1,2,3,4] [0,1,2,3,4,6,7,10] 11 12 [0,1,2,3,4,7] mixed a6 Z Z (λ_ h=>znk h)
  ·intro r0
   refine zsa 0 ?_
   refine zsa 2 ?_
   refine zsa 3 ?_
   refine Q4 ?_
   refine i9 6 Z a6 a6 Z Z Z Z (P9 G Z Z Z Z) (b6 (rs:=[1,7]) a6 Z (AllB.cons ?_ (AllB.cons ?_ AllB.nil)))
   ·refine c8 [0,1,2,3,4,7] Z Z ?_
    refine F6 ?_
    refine b6 (rs:=[7]) a6 Z (AllB.cons ?_ AllB.nil)
    refine c8 [0,1,2,3,4,7] Z Z (c4 9 Z Z Z (ArgsOK.of Z) (w7 _ (hs.all k J)) Z Z (a8 ⟨Z,?_⟩))
    exact c0I
   refine c8 [0,1,2,3,4,7] Z Z (c4 9 Z Z Z (ArgsOK.of Z) (w7 _ (hs.all k J)) Z Z (a8 ⟨Z,?_⟩))
   refine b6 (rs:=[1,8]) a6 Z (AllB.cons ?_ (AllB.cons ?_ AllB.nil))
   ·refine c8 [0,1,2,3,4,7] Z Z ?_
    refine F6 ?_
    exact c0I
   refine c8 [0,1,2,3,4,7] Z Z (s9 G 10 Z Z Z Z Z Z Z Z (.own Z .nil) Z Z Z Z (a8 ⟨Z,?_⟩))
   refine b6 (rs:=[1]) a6 Z (AllB.cons ?_ AllB.nil)
   refine c8 [0,1,2,3,4,7] Z Z ?_
   refine F6 ?_
   exact b98
  refine X3 ?_
  refine m6 (Gh.sub 10 5 np Z Z Z) (a8 ⟨(k+1),?_,?_,⟨⟨_,Z,by rfl⟩,Z,trivial⟩,⟨⟨_,Z,by (rw [b8e J];done)⟩,Z,Z,trivial⟩,Z,Z,Z⟩)
  ·omega
  omega
 refine zgo ?_
 refine g8 (m5 Z Z Z Z (a7 (b8 Z ?_) (a7 (b8 Z ?_) (a7 (b8 Z ?_) (a7 (b8 Z ?_) (a7 (t8 Z ?_) d5))))))
 all_goals (first | rfl | (exact a8P J) | simp)
theorem a4y:M7 Tryz.prog 154 [.int .i64,.int .i64,.int .i64]=true:=by kernel_rfl
theorem a2t (x:Int):Ctr Tryz.prog 272 [.v (.int .i64 x)] (.one (.v (.bool (false)))):=by
 refine Ctr.of (n:=6) G Tryz.func272 Z a6 Z Z Z (λw0=>?_)
 refine zf1 ?_
 all_goals (simp)
theorem a01 (x y:Int):Ctr Tryz.prog 238 [.v (.int .i64 x),.v (.int .i64 y)] (.one (.v (.int .i64 (a4n x y)))):=by
 refine Ctr.of (n:=20) G Tryz.func238 Z a6 Z Z Z (λw0=>?_)
 refine zcl (a2t _) ?_
 refine zcl (a2t _) ?_
 refine zwf ?_
 refine zwf ?_
 refine zcd (λh1=>?_) (λh1=>?_)
 ·exact c2p
 refine zcd (λh2=>?_) (λh2=>?_)
 ·exact c2p
 exact c2p
theorem b0e (l:List Int) (hn:l.length<=1048576):Ctr Tryz.prog 237 [.lst 1 (l.map Rf.l8)] (.one (.v (.int .i64 (orI l)))):=by
 refine Ctr.of (n:=18) G Tryz.func237 Z a6 Z Z Z (λw0=>?_)
 refine zgo ?_
 refine f6 [3,6,7] [] (λ(i:Nat)=>[(8,.v (.int .i64 (i:Int)))]) (λ(i:Nat)=>[]) (λ(i:Nat)=>i<=l.length/\∀j,j < i→l.getD j default=0) (λ(i:Nat)=>l.length - i) 0 Z Z ?_ ?_ ?_ ?_
 ·exact P3
 ·exact u3
 ·exact trivial
 intro i hinv
 refine vm2 ?_
 refine zcd (λh1=>?_) (λh1=>?_)
 ·refine zcd (λh2=>?_) (λh2=>?_)
  ·refine zf1 ?_
   all_goals exact b8W
  exact b3u
 refine zf1 ?_
 all_goals exact b8W
theorem y6 (a b:Wtr):Ctr Tryz.prog 201 [.v (a3W a),.v (a3W b)] (.one (.v (.int .i64 (urg a b)))):=by
 refine Ctr.of (n:=17) G Tryz.func201 Z a6 Z Z Z (λw0=>?_)
 refine w8 ?_
 refine a3c ?_
 refine zgn ?_
 refine p7 (d7 13 [0,1] mixed a6 Z Z (λr0=>?_) (λ_ h=>h))
 refine C5 ?_
 refine zsa 5 ?_
 refine zsa 6 ?_
 refine zsa 7 ?_
 refine zsa 8 ?_
 refine b6 (rs:=[4]) a6 Z (AllB.cons ?_ AllB.nil)
 refine c8 [0,1] Z Z (b7 Z Z (l9 Z (ArgsOK.of Z) (a01 _ _) Z) (a8 ⟨Z,?_⟩))
 refine b6 (rs:=[9]) a6 Z (AllB.cons ?_ AllB.nil)
 refine c8 [0,1] Z Z (b7 Z Z (l9 Z (ArgsOK.of Z) (a01 _ _) Z) (a8 ⟨Z,?_⟩))
 refine b6 (rs:=[10]) a6 Z (AllB.cons ?_ AllB.nil)
 refine c8 [0,1] Z Z (p4 G 3 Z Z Z Z Z Z Z Z (a8 ⟨Z,?_⟩))
 refine b6 (rs:=[11]) a6 Z (AllB.cons ?_ AllB.nil)
 refine c8 [0,1] Z Z (b7 Z Z (l9 Z (ArgsOK.of Z) (b0e [a4n a.p b.p,a4n a.q b.q] (by simp)) Z) (a8 ⟨Z,?_⟩))
 refine zsa 12 ?_
 refine vm6 ?_
 refine zf1 ?_
 all_goals (rw [b7e])
theorem B0 (x:Slot):Ctr Tryz.prog 173 [.v (a6x x)] (.one (.v (a3W (wOf x)))):=by
 refine Ctr.of (n:=8) G Tryz.func173 Z a6 Z Z Z (λw0=>?_)
 refine L6 ?_
 refine zgo ?_
 refine g8 (R0 Z (a16 Z ?_))
 all_goals (rfl)
theorem O6 (a b c d:Int):Ctr Tryz.prog 220 [.v (.int .i64 a),.v (.int .i64 b),.v (.int .i64 c),.v (.int .i64 d)] (.one (.v (.bool (lessW ⟨b,a⟩ ⟨d,c⟩)))):=by
 refine Ctr.of (n:=22) G Tryz.func220 Z a6 Z Z Z (λw0=>?_)
 refine zcd (λh1=>?_) (λh1=>?_)
 ·exact b6K
 refine zcd (λh2=>?_) (λh2=>?_)
 ·exact b6K
 exact b6K
theorem a5A (x:Slot) (irq:Int):Ctr Tryz.prog 224 [.v (a6x x),.ept [.int .i64 irq]] (.one (.v (.bool (fdP irq x)))):=by
 refine Ctr.of (n:=13) G Tryz.func224 Z a6 Z Z Z (λw0=>?_)
 refine w8 ?_
 refine zcd (λh1=>?_) (λh1=>?_)
 ·exact b9W
 exact b9W
theorem L7 (xs:List Slot) (f:Nat) (c:List Value) (p:Slot→Bool) (hl:xs.length<=1048576) (hf:∀i,i < xs.length→Ctr Tryz.prog f [.v (a6x (xs.getD i default)),.ept c] (.one (.v (.bool (p (xs.getD i default)))))):Ctr Tryz.prog 223 [.lst 3 (xs.map f9),.fnc f [.ept c]] (.one (.v (.int .i64 (I0 (λi=>p (xs.getD i default)) xs.length)))):=by
 exact c0v
theorem J5 (xs:List Slot) (f:Nat)  (p:Slot→Bool) (hl:xs.length<=1048576) (hf:∀i,i < xs.length→Ctr Tryz.prog f [.v (a6x (xs.getD i default))] (.one (.v (.bool (p (xs.getD i default)))))):Ctr Tryz.prog 223 [.lst 3 (xs.map f9),.fnc f []] (.one (.v (.int .i64 (I0 (λi=>p (xs.getD i default)) xs.length)))):=by
 exact c0v
theorem E4 (sl:List Slot) (irq:Int) (hl:sl.length<=1048576):Ctr Tryz.prog 190 [.lst 3 (sl.map f9),.v (.int .i64 irq)] (.one (.v (.int .i64 (n8 sl irq)))):=by
 refine Ctr.of (n:=8) G Tryz.func190 Z a6 Z Z Z (λw0=>?_)
 refine w8 ?_
 refine m3 ?_
 refine a7Z ?_
 refine zcl (L7 sl 224 [.int .i64 irq] (λx=>fdP irq x) hl (λk hk=>a5A _ _)) ?_
 exact a6F
theorem B5 (sl:List Slot) (irq:Int) (hl:sl.length<=1048576):Ctr Tryz.prog 183 [.lst 3 (sl.map f9),.v (.int .i64 irq)] (.one (.v (.int .i64 (n8 sl irq)))):=by
 refine Ctr.of (n:=28) G Tryz.func183 Z a6 Z Z Z (λw0=>?_)
 refine zgo ?_
 refine f6 [0,1] [] (λ(i:Nat)=>[(5,.v (.int .i64 (i:Int)))]) (λ(i:Nat)=>[]) (λ(i:Nat)=>i<=sl.length/\∀j,j < i→fdP irq (sl.getD j default)=false) (λ(i:Nat)=>sl.length - i) 0 Z Z ?_ ?_ ?_ ?_
 ·exact P3
 ·exact u3
 ·exact trivial
 intro i hinv
 refine vm2 ?_
 refine zcd (λh1=>?_) (λh1=>?_)
 ·refine zcd (λh2=>?_) (λh2=>?_)
  ·refine zcd (λh3=>?_) (λh3=>?_)
   ·refine zf1 ?_
    all_goals exact b8X
   exact b6G
  refine zwf ?_
  exact b6G
 refine zf1 ?_
 all_goals exact b8X
theorem a3L (x:Slot):Ctr Tryz.prog 256 [.v (a6x x)] (.one (.v (.bool (emP x)))):=by
 refine Ctr.of (n:=6) G Tryz.func256 Z a6 Z Z Z (λw0=>?_)
 exact c0z
theorem a02 (sl:List Slot)  (hl:sl.length<=1048576):Ctr Tryz.prog 225 [.lst 3 (sl.map f9)] (.one (.v (.int .i64 (freS sl)))):=by
 refine Ctr.of (n:=5) G Tryz.func225 Z a6 Z Z Z (λw0=>?_)
 refine m3 ?_
 refine b7 Z Z (l9 Z (ArgsOK.fn2 (ArgsOK.of Z)) (J5 sl 256 (λx=>emP x) hl (λk hk=>a3L _)) Z) ?_
 exact a6F
theorem a1l (sl:List Slot)  (hl:sl.length<=1048576):Ctr Tryz.prog 217 [.lst 3 (sl.map f9)] (.one (.v (.int .i64 (freS sl)))):=by
 refine Ctr.of (n:=17) G Tryz.func217 Z a6 Z Z Z (λw0=>?_)
 refine zgo ?_
 refine f6 [0] [] (λ(i:Nat)=>[(3,.v (.int .i64 (i:Int)))]) (λ(i:Nat)=>[]) (λ(i:Nat)=>i<=sl.length/\∀j,j < i→emP (sl.getD j default)=false) (λ(i:Nat)=>sl.length - i) 0 Z Z ?_ ?_ ?_ ?_
 ·exact P3
 ·exact u3
 ·exact trivial
 intro i hinv
 refine vm2 ?_
 refine zcd (λh1=>?_) (λh1=>?_)
 ·refine zcd (λh2=>?_) (λh2=>?_)
  ·refine zf1 ?_
   all_goals exact b8Y
  exact b6G
 refine zf1 ?_
 all_goals exact b8Y
theorem a6Q (sl:List Slot)  (hl:sl.length<=1048576):Ctr Tryz.prog 241 [.lst 3 (sl.map f9)] (.one (.v (.bool (a4m sl)))):=by
 refine Ctr.of (n:=47) G Tryz.func241 Z a6 Z Z Z (λw0=>?_)
 refine zcd (λh1=>?_) (λh1=>?_)
 ·exact b4l
 refine zgo ?_
 refine f6 [0,8,9] [] (λ(i:Nat)=>[(10,.v (.int .i64 (i:Int)))]) (λ(i:Nat)=>[]) (λ(i:Nat)=>i<=sl.length/\∀j,j < i→H2 sl j=true) (λ(i:Nat)=>sl.length - i) 0 Z Z ?_ ?_ ?_ ?_
 ·exact P3
 ·exact u3
 ·exact trivial
 intro i hinv
 refine vm2 ?_
 refine zcd (λh2=>?_) (λh2=>?_)
 ·refine a0G ?_
  refine zcd (λh3=>?_) (λh3=>?_)
  ·refine m3 ?_
   refine b7 Z Z (b0z [.int .i64,.int .i64,.int .i64] Z Z Z Z Z Z Z (.inl Z) (.inl Z) a4y ⟨_,_,Z,⟨_,Z⟩,_,_,Z,⟨_,Z⟩,_,_,Z,⟨_,Z⟩,Z⟩ ⟨_,_,Z,⟨_,Z⟩,_,_,Z,⟨_,Z⟩,_,_,Z,⟨_,Z⟩,Z⟩) ?_
   refine zcd (λh4=>?_) (λh4=>?_)
   ·exact b4l
   refine zgo ?_
   refine ⟨(i+1),?_,?_,⟨⟨_,Z,by rfl⟩,Z,trivial⟩,trivial,Z,Z,Z⟩
   ·exact b9F
   omega
  refine zgd ?_
  refine zcl (O5 _ _ _) ?_
  refine zcd (λh5=>?_) (λh5=>?_)
  ·refine zwt ?_
   exact b4l
  refine zcl (N5 _) ?_
  refine zcd (λh6=>?_) (λh6=>?_)
  ·refine zwt ?_
   exact b4l
  refine zcl (R9 _) ?_
  refine zcd (λh7=>?_) (λh7=>?_)
  ·refine zwt ?_
   exact b4l
  refine zgo ?_
  refine c12 ?_
  refine zgo ?_
  refine a2j ?_
  refine r9 Z Z (l9 Z (ArgsOK.of (congrArg some (congrArg (λz=>[AV.lst 3 z,.v (.int .i64 (sl.getD i default).q)]) (a1t (xs:=sl) (i:=i))))) (Ctr.eq (E4 (sl.take i) _ g0) (congrArg (λz=>Res.one (.v (.int .i64 z))) (b4U J))) Z) ?_
  refine zcd (λh8=>?_) (λh8=>?_)
  ·exact b4l
  refine zgo ?_
  refine ⟨(i+1),?_,?_,⟨⟨_,Z,by rfl⟩,Z,trivial⟩,trivial,Z,Z,Z⟩
  ·exact b9F
  omega
 refine zf1 ?_
 all_goals exact b8I
theorem a35 (sl:List Slot)  (hl:sl.length<=1048576):Ctr Tryz.prog 261 [.lst 3 (sl.map f9)] (.one (.v (.bool (a4m sl)))):=by
 refine Ctr.of (n:=60) G Tryz.func261 Z a6 Z Z Z (λw0=>?_)
 refine zgo ?_
 refine f6 [0] [] (λ(i:Nat)=>[(3,.v (.int .i64 (i:Int)))]) (λ(i:Nat)=>[]) (λ(i:Nat)=>i<=sl.length/\∀j,j < i→H2 sl j=true) (λ(i:Nat)=>sl.length - i) 0 Z Z ?_ ?_ ?_ ?_
 ·exact P3
 ·exact u3
 ·exact trivial
 intro i hinv
 refine vm2 ?_
 refine zcd (λh1=>?_) (λh1=>?_)
 ·refine a0G ?_
  refine a6D ?_
  refine zcd (λh2=>?_) (λh2=>?_)
  ·refine zwt ?_
   exact b4j
  refine zcl (R8 _) ?_
  refine zcd (λh3=>?_) (λh3=>?_)
  ·refine zwt ?_
   exact b4j
  refine zcl (U9 _) ?_
  refine zcd (λh4=>?_) (λh4=>?_)
  ·exact b4j
  refine zcd (λh5=>?_) (λh5=>?_)
  ·refine zcd (λh6=>?_) (λh6=>?_)
   ·refine zwt ?_
    exact b4j
   refine zcd (λh7=>?_) (λh7=>?_)
   ·refine zwt ?_
    exact b4j
   exact c0o
  exact c0o
 refine zf1 ?_
 all_goals exact b8G
theorem X9 (sl:List Slot) (i:Int) (x:Slot) (hl:sl.length<=1048576) (hi:0<=i/\i < sl.length):Ctr Tryz.prog 222 [.lst 3 (sl.map f9),.v (.int .i64 i),.v (a6x x)] (.one (.fr 154 3 ((sl.set i.toNat x).map f9))):=by
 refine Ctr.of (n:=16) G Tryz.func222 Z a6 Z Z Z (λw0=>?_)
 exact c3X
theorem I9 (sl:List Slot) (i:Int) (x:Slot) (hl:sl.length<=1048576) (hi:0<=i/\i < sl.length):Ctr Tryz.prog 216 [.lst 3 (sl.map f9),.v (.int .i64 i),.v (a6x x)] (.one (.fr 154 3 ((sl.set i.toNat x).map f9))):=by
 refine Ctr.of (n:=16) G Tryz.func216 Z a6 Z Z Z (λw0=>?_)
 exact c3X
theorem P5 (sl:List Slot) (most:Bool) (hl:sl.length<=1048576) (hd:b4S sl):Ctr Tryz.prog 221 [.lst 3 (sl.map f9),.v (.bool most)] (.one (.v (.int .i64 (bstS sl most)))):=by
 refine Ctr.of (n:=38) G Tryz.func221 Z a6 Z Z Z (λw0=>?_)
 refine zgo ?_
 refine f6 [0,1,8,9] [] (λ(i:Nat)=>[(5,.v (.int .i64 (B2 sl most i))),(10,.v (.int .i64 (i:Int)))]) (λ(i:Nat)=>[]) (λ(i:Nat)=>i<=sl.length) (λ(i:Nat)=>sl.length - i) 0 Z Z ?_ ?_ ?_ ?_
 ·exact H0
 ·exact a71
 ·exact trivial
 intro i hinv
 have hb:=@Z0 sl most i
 refine vm2 ?_
 refine zcd (λh1=>?_) (λh1=>?_)
 ·refine a0G ?_
  refine zgd ?_
  refine zcd (λh2=>?_) (λh2=>?_)
  ·refine zcd (λh3=>?_) (λh3=>?_)
   ·refine zwt ?_
    exact b7Y
   refine zcl (B0 _) ?_
   refine zcl (B0 _) ?_
   refine zcl (y6 _ _) ?_
   refine zgo ?_
   refine a2j ?_
   refine r9 Z Z (c2r (G 4 _ Z).1 Z Z Z) ?_
   refine zcd (λh4=>?_) (λh4=>?_)
   ·exact b7Y
   exact b7Y
  refine zwf ?_
  exact b7Y
 refine zf1 ?_
 all_goals ((rw [a9J J]))
theorem Y0 (sl:List Slot) (hl:sl.length<=1048576):Ctr Tryz.prog 215 [.lst 3 (sl.map f9),.v (.bool true)] (.one (.v (.int .i64 (bstS sl true)))):=by
 refine Ctr.of (n:=66) G Tryz.func215 Z a6 Z Z Z (λw0=>?_)
 refine zgo ?_
 refine f6 [0,1] [] (λ(i:Nat)=>[(5,.v (.int .i64 (B2 sl true i))),(6,.v (.int .i64 (i:Int)))]) (λ(i:Nat)=>[]) (λ(i:Nat)=>i<=sl.length) (λ(i:Nat)=>sl.length - i) 0 Z Z ?_ ?_ ?_ ?_
 ·exact H0
 ·exact a71
 ·exact trivial
 intro i hinv
 have hb:=@Z0 sl true i
 refine vm2 ?_
 refine zcd (λh1=>?_) (λh1=>?_)
 ·refine a0G ?_
  refine zcd (λh2=>?_) (λh2=>?_)
  ·exact b1l
  refine zgd ?_
  refine zcd (λh3=>?_) (λh3=>?_)
  ·refine zwt ?_
   exact b1l
  refine zcl (O6 _ _ _ _) ?_
  refine zcd (λh4=>?_) (λh4=>?_)
  ·refine zwt ?_
   exact b1l
  refine zwf ?_
  exact b1l
 refine zf1 ?_
 all_goals ((rw [a9J J]))
theorem a2u (sl:List Slot) (hl:sl.length<=1048576):Ctr Tryz.prog 215 [.lst 3 (sl.map f9),.v (.bool false)] (.one (.v (.int .i64 (bstS sl false)))):=by
 refine Ctr.of (n:=66) G Tryz.func215 Z a6 Z Z Z (λw0=>?_)
 refine zgo ?_
 refine f6 [0,1] [] (λ(i:Nat)=>[(5,.v (.int .i64 (B2 sl false i))),(6,.v (.int .i64 (i:Int)))]) (λ(i:Nat)=>[]) (λ(i:Nat)=>i<=sl.length) (λ(i:Nat)=>sl.length - i) 0 Z Z ?_ ?_ ?_ ?_
 ·exact H0
 ·exact a71
 ·exact trivial
 intro i hinv
 have hb:=@Z0 sl false i
 refine vm2 ?_
 refine zcd (λh1=>?_) (λh1=>?_)
 ·refine a0G ?_
  refine zcd (λh2=>?_) (λh2=>?_)
  ·exact b1l
  refine zgd ?_
  refine zcd (λh3=>?_) (λh3=>?_)
  ·refine zwt ?_
   exact b1l
  refine zcl (O6 _ _ _ _) ?_
  refine zcd (λh4=>?_) (λh4=>?_)
  ·exact b1l
  exact b1l
 refine zf1 ?_
 all_goals ((rw [a9J J]))
theorem a3e (x:Wtr) (irq:Int):Ctr Tryz.prog 226 [.v (a3W x),.ept [.int .i64 irq]] (.one (.v (.bool (decide (x.q=irq))))):=by
 refine Ctr.of (n:=8) G Tryz.func226 Z a6 Z Z Z (λw0=>?_)
 exact c0z
theorem H6 (xs:List Wtr) (f:Nat) (c:List Value) (p:Wtr→Bool) (hl:xs.length<=1048576) (hf:∀i,i < xs.length→Ctr Tryz.prog f [.v (a3W (xs.getD i default)),.ept c] (.one (.v (.bool (p (xs.getD i default)))))):Ctr Tryz.prog 213 [.lst 2 (xs.map i5),.fnc f [.ept c]] (.one (.v (.int .i64 (I0 (λi=>p (xs.getD i default)) xs.length)))):=by
 exact c0w
theorem a0x (wa:List Wtr) (irq:Int) (hw:wa.length<=1048576):Ctr Tryz.prog 192 [.lst 2 (wa.map i5),.v (.int .i64 irq)] (.one (.v (.int .i64 (inW wa irq)))):=by
 refine Ctr.of (n:=8) G Tryz.func192 Z a6 Z Z Z (λw0=>?_)
 refine w8 ?_
 refine m3 ?_
 refine a7Z ?_
 refine zcl (H6 wa 226 [.int .i64 irq] (λx=>decide (x.q=irq)) hw (λk hk=>a3e _ _)) ?_
 exact a6F
theorem b0f (wa:List Wtr) (irq:Int) (hw:wa.length<=1048576):Ctr Tryz.prog 186 [.lst 2 (wa.map i5),.v (.int .i64 irq)] (.one (.v (.int .i64 (inW wa irq)))):=by
 refine Ctr.of (n:=20) G Tryz.func186 Z a6 Z Z Z (λw0=>?_)
 refine zgo ?_
 refine f6 [0,1] [] (λ(i:Nat)=>[(5,.v (.int .i64 (i:Int)))]) (λ(i:Nat)=>[]) (λ(i:Nat)=>i<=wa.length/\∀j,j < i→decide ((wa.getD j default).q=irq)=false) (λ(i:Nat)=>wa.length - i) 0 Z Z ?_ ?_ ?_ ?_
 ·exact P3
 ·exact u3
 ·exact trivial
 intro i hinv
 refine vm2 ?_
 refine zcd (λh1=>?_) (λh1=>?_)
 ·refine zcd (λh2=>?_) (λh2=>?_)
  ·refine zf1 ?_
   all_goals exact b8Z
  refine zgo ?_
  refine ⟨(i+1),?_,?_,⟨⟨_,Z,by rfl⟩,Z,trivial⟩,trivial,Z,Z,Z⟩
  ·exact ⟨by omega,r5 hinv.2 (decide_eq_false b9)⟩
  omega
 refine zf1 ?_
 all_goals exact b8Z
end Go.Proofs.YtcnodpipinlpcaaGreat
