/- Texts merged into one: Q1, F1, W4, M18, Q5, Q7, M20, C1, Q2. -/
import Derived.Test.YtdhckhjphmjniaaGreatDoorPFnReplayG
set_option maxHeartbeats 4000000
set_option linter.unusedSimpArgs false
set_option linter.unusedVariables false
set_option maxRecDepth 20000
namespace Go.Proofs.YtdhckhjphmjniaaGreatDoor
open Go Go.Rf
theorem a9U (s:ByteArray) (hs:s.size<=9223372036854775807):Ctr Tryz.prog 82 [.v (.string s)] (.many [.v (.int .i64 (nmN s)),.v (.bool (nmK s))]):=by
 refine Ctr.of (n:=8) G Tryz.func82 Z a8 Z Z Z (λw0=>?_)
 refine zcl (b1S s hs) ?_
 refine zgo ?_
 refine d7 (s1 Z Z Z Z (b3 (i8 ?_) (b3 (i8 ?_) d9)))
 all_goals (rfl)
theorem a6O (w:ByteArray):Ctr Tryz.prog 73 [.v (.string w)] (.one (.v (.int .i64 (a2I (o7 w))))):=by
 refine Ctr.of (n:=20) G Tryz.func73 Z a8 Z Z Z (λw0=>?_)
 refine W8 ?_
 refine zcd (λh1=>?_) (λh1=>?_)
 ·have k1:=b2z.mp h1
  exact a6c
 have k1:=mt b2z.mpr h1
 refine W8 ?_
 refine zcd (λh2=>?_) (λh2=>?_)
 ·have k2:=b2A.mp h2
  exact a6c
 have k2:=mt b2A.mpr h2
 refine W8 ?_
 refine zcd (λh3=>?_) (λh3=>?_)
 ·have k3:=b2B.mp h3
  exact c1z
 have k3:=mt b2B.mpr h3
 refine W8 ?_
 refine zcd (λh4=>?_) (λh4=>?_)
 ·have k4:=b2C.mp h4
  exact a6c
 have k4:=mt b2C.mpr h4
 refine W8 ?_
 refine zcd (λh5=>?_) (λh5=>?_)
 ·have k5:=b2D.mp h5
  exact a6c
 have k5:=mt b2D.mpr h5
 refine W8 ?_
 refine zcd (λh6=>?_) (λh6=>?_)
 ·have k6:=b2E.mp h6
  exact a6c
 have k6:=mt b2E.mpr h6
 refine W8 ?_
 refine zcd (λh7=>?_) (λh7=>?_)
 ·have k7:=b2F.mp h7
  exact a6c
 have k7:=mt b2F.mpr h7
 refine W8 ?_
 refine zcd (λh8=>?_) (λh8=>?_)
 ·have k8:=b2G.mp h8
  exact a6c
 have k8:=mt b2G.mpr h8
 refine W8 ?_
 refine zcd (λh9=>?_) (λh9=>?_)
 ·have k9:=b2H.mp h9
  exact a6c
 have k9:=mt b2H.mpr h9
 refine W8 ?_
 refine zcd (λh10=>?_) (λh10=>?_)
 ·have k10:=b2I.mp h10
  exact a6c
 have k10:=mt b2I.mpr h10
 refine W8 ?_
 refine zcd (λh11=>?_) (λh11=>?_)
 ·have k11:=b3O.mp h11
  exact a6c
 have k11:=mt b3O.mpr h11
 refine W8 ?_
 refine zcd (λh12=>?_) (λh12=>?_)
 ·have k12:=a8M.mp h12
  exact c1z
 have k12:=mt a8M.mpr h12
 refine W8 ?_
 refine zcd (λh13=>?_) (λh13=>?_)
 ·have k13:=a8N.mp h13
  exact c1z
 have k13:=mt a8N.mpr h13
 exact c1z
theorem b1T (w:ByteArray) (l:List Int) (hl:a2I (o7 w)=l.length):Ctr Tryz.prog 75 [.v (.string w),.lst 1 (l.map Rf.s3)] (.many [.v (b61 (a0W (o7 w) l).1),.v (.bool (a0W (o7 w) l).2)]):=by
 refine Ctr.of (n:=50) G Tryz.func75 Z a8 Z Z Z (λw0=>?_)
 refine a3p ?_
 refine W8 ?_
 refine zcd (λh1=>?_) (λh1=>?_)
 ·have k1:=b2C.mp h1
  exact b5y
 have k1:=mt b2C.mpr h1
 refine W8 ?_
 refine zcd (λh2=>?_) (λh2=>?_)
 ·have k2:=b2D.mp h2
  exact b5y
 have k2:=mt b2D.mpr h2
 refine W8 ?_
 refine zcd (λh3=>?_) (λh3=>?_)
 ·have k3:=b2E.mp h3
  exact b5y
 have k3:=mt b2E.mpr h3
 refine W8 ?_
 refine zcd (λh4=>?_) (λh4=>?_)
 ·have k4:=b2z.mp h4
  refine zgo ?_
  exact c3v
 have k4:=mt b2z.mpr h4
 refine W8 ?_
 refine zcd (λh5=>?_) (λh5=>?_)
 ·have k5:=b2F.mp h5
  exact b5y
 have k5:=mt b2F.mpr h5
 refine W8 ?_
 refine zcd (λh6=>?_) (λh6=>?_)
 ·have k6:=b2G.mp h6
  exact b5y
 have k6:=mt b2G.mpr h6
 refine W8 ?_
 refine zcd (λh7=>?_) (λh7=>?_)
 ·have k7:=a8N.mp h7
  have hn:=a8O (k:=o7 w) J
  rw [hl] at hn
  refine t8 (j7 9 [] mixed a8 Z Z (λr0=>?_) (λ_ h=>h))
  refine a1q ?_
  refine a8V ?_
  refine b7 (rs:=[7]) a8 Z (AllB.cons ?_ AllB.nil)
  refine g9 [] Z Z ?_
  refine R9 ?_
  refine zsa 8 ?_
  refine H8 ?_
  exact c3v
 have k7:=mt a8N.mpr h7
 refine zgo ?_
 exact c3v
theorem a1b (l:List Int) (hl:l.length<=1048576) (hn:∀i,i < l.length→a1O (l.getD i default)):Ctr Tryz.prog 36 [.lst 1 (l.map Rf.s3)] (.one (.v (.string (a4U l)))):=by
 refine Ctr.of (n:=24) G Tryz.func36 Z a8 Z Z Z (λw0=>?_)
 refine zcd (λh1=>?_) (λh1=>?_)
 ·exact c5w
 have hJ:=c61 (l:=l) J
 refine b1L ?_
 refine zgo ?_
 refine i6 [10,11] [] (λ(i:Nat)=>[(3,.own 0),(12,.v (.int .i64 (i:Int)))]) (λ(i:Nat)=>[(0,some (.row 9 1 ((b05 l i).map a4g)))]) (λ(i:Nat)=>i<=l.length) (λ(i:Nat)=>l.length - i) 0 Z Z ?_ ?_ ?_ ?_
 ·exact P9
 ·exact Z8
 ·exact a1U
 intro i hi
 have hpl:=@b5b l i
 refine vm2 ?_
 refine zcd (λh2=>?_) (λh2=>?_)
 ·obtain ⟨hn1,hn2⟩:=hn i J
  refine zcl (E7 (l.getD i default) J J) ?_
  refine r6 ?_
  refine b35 ?_
  refine r6 ?_
  refine vm6 ?_
  refine zgo ?_
  refine ⟨(i+1),?_,?_,⟨⟨_,Z,by rfl⟩,Z,⟨⟨_,Z,by rfl⟩,Z,trivial⟩⟩,⟨⟨_,Z,by (rw [b8D J,List.map_append];rfl)⟩,Z,Z,trivial⟩,Z,Z,Z⟩
  ·omega
  omega
 obtain rfl:i=l.length:=J
 refine zcl (a45 (b05 l l.length) (Nat.le_trans b5b hl) (c2I hl hn)) ?_
 refine zf1 ?_
 all_goals (first | (rw [hE];rfl) | (rw [hJ];done))
theorem a13 (l:List Int) (hl:l.length<=1048576) (hn:∀i,i < l.length→a1O (l.getD i default)):Ctr Tryz.prog 39 [.lst 1 (l.map Rf.s3)] (.one (.v (.string (a4U l)))):=by
 refine Ctr.of (n:=27) G Tryz.func39 Z a8 Z Z Z (λw0=>?_)
 refine zcd (λh1=>?_) (λh1=>?_)
 ·exact c5w
 have hJ:=c0q (l:=l) J
 obtain ⟨hn1,hn2⟩:=hn 0 J
 refine zcl (A1 (l.getD 0 default) J J) ?_
 refine zgo ?_
 refine i6 [0] [] (λ(i:Nat)=>[(3,.v (.string (jnS (b3K l) i))),(4,.v (.int .i64 (i:Int)))]) (λ(i:Nat)=>[]) (λ(i:Nat)=>1<=i/\i<=l.length) (λ(i:Nat)=>l.length - i) 1 Z Z ?_ ?_ ?_ ?_
 ·exact ⟨Nat.le_refl _,by omega⟩
 ·exact ⟨⟨_,Z,by (first | rfl | (rw [b7k,a1N J];first | done | rfl))⟩,Z,⟨⟨_,Z,by (first | rfl | (rw [b7k,a1N J];first | done | rfl))⟩,Z,trivial⟩⟩
 ·exact trivial
 intro i hi
 refine vm2 ?_
 refine zcd (λh2=>?_) (λh2=>?_)
 ·obtain ⟨hn3,hn4⟩:=hn i J
  have hz:=b2w hn i J
  have hzn:=A0 (n:=l.getD i default) J hn4
  refine vm3 ?_
  refine b33 ?_
  refine zcl (A1 (l.getD i default) J J) ?_
  refine r6 ?_
  refine b33 ?_
  refine zgo ?_
  refine ⟨(i+1),?_,?_,⟨⟨_,Z,by (first | rfl | (rw [a7M J,a1N J];first | done | rfl))⟩,Z,⟨⟨_,Z,by (first | rfl | (rw [a7M J,a1N J];first | done | rfl))⟩,Z,trivial⟩⟩,trivial,Z,Z,Z⟩
  ·exact ⟨by omega,by omega⟩
  omega
 obtain rfl:i=l.length:=J
 refine zf1 ?_
 all_goals (first | (rw [hE];rfl) | (rw [hJ];done))
theorem a83 (sl:List Slot) (hF:SlF sl):Ctr Tryz.prog 35 [.lst 3 (sl.map j4)] (.one (.v (.string (a4V sl)))):=by
 have hl4:=hF.len
 have hcs:(⟨#[45,112,97,98]⟩:ByteArray).size=4:=rfl
 refine Ctr.of (n:=40) G Tryz.func35 Z a8 Z Z Z (λw0=>?_)
 refine b1L ?_
 refine zgo ?_
 refine i6 [8,9] [] (λ(i:Nat)=>[(3,.own 0),(10,.v (.int .i64 (i:Int)))]) (λ(i:Nat)=>[(0,some (.row 9 1 ((a7O sl i).map a4g)))]) (λ(i:Nat)=>i<=sl.length) (λ(i:Nat)=>sl.length - i) 0 Z Z ?_ ?_ ?_ ?_
 ·exact P9
 ·exact Z8
 ·exact a1U
 intro i hi
 have hpl:=@b5c sl i
 refine vm2 ?_
 refine zcd (λh1=>?_) (λh1=>?_)
 ·have hs3:=hF.s03 (i:=i) J
  have hlb:=@a8L (sl.getD i default).s
  rw [a6y] at hlb
  refine b5q ?_
  refine c1s ?_
  refine zcd (λh2=>?_) (λh2=>?_)
  ·have hnm:=hF.nums (i:=i) J J
   refine zgd ?_
   refine zcl (E7 (sl.getD i default).q J J) ?_
   refine b8N ?_
   refine zcl (E7 (sl.getD i default).p J J) ?_
   refine b8N ?_
   refine b8N ?_
   exact d0G
  exact d0G
 obtain rfl:i=sl.length:=J
 have hJ:=@c0r sl
 refine zcl (a45 (a7O sl sl.length) (Nat.le_trans b5c J) (c2J J (c30 hF))) ?_
 refine zf1 ?_
 all_goals (first | (rw [hJ];done))
theorem b1U (sl:List Slot) (hF:SlF sl):Ctr Tryz.prog 38 [.lst 3 (sl.map j4)] (.one (.v (.string (a4V sl)))):=by
 have hl4:=hF.len
 have hcs:(⟨#[45,112,97,98]⟩:ByteArray).size=4:=rfl
 refine Ctr.of (n:=46) G Tryz.func38 Z a8 Z Z Z (λw0=>?_)
 refine zgo ?_
 refine i6 [0] [] (λ(i:Nat)=>[(3,.v (.string (jnS (a3Z sl) i))),(4,.v (.int .i64 (i:Int)))]) (λ(i:Nat)=>[]) (λ(i:Nat)=>i<=sl.length) (λ(i:Nat)=>sl.length - i) 0 Z Z ?_ ?_ ?_ ?_
 ·exact P9
 ·exact Z8
 ·exact trivial
 intro i hi
 refine vm2 ?_
 refine zcd (λh1=>?_) (λh1=>?_)
 ·have hs3:=hF.s03 (i:=i) J
  have hlb:=@a8L (sl.getD i default).s
  rw [a6y] at hlb
  have hz:=b2x (c30 hF) i J
  refine zcd (λh2=>?_) (λh2=>?_)
  ·refine vm3 ?_
   refine b33 ?_
   exact d0q
  exact d0q
 obtain rfl:i=sl.length:=J
 have hJ:jnS (a3Z sl) sl.length=a4V sl:=(by rw [a4V,jnA,a0V])
 refine zf1 ?_
 all_goals (first | (rw [hJ];done))
theorem a84 (rs:List Route) (a:Abs) (c:Nat) (hF:AbsF rs a) (hc:c < a.ma.length):Ctr Tryz.prog 118 [.lst 2 (rs.map p5),.agg [.lst 1 (a.en.map m9),.lst 1 (a.ra.map m9),.lst 1 (a.po.map m9),.lst 1 (a.ma.map Rf.s3),.nst none 1 (a.st.map a7s)],.v (.int .i64 (c:Int))] (.one (.v (.int .i64 (B8 rs a c)))):=by
 have f0:=hF.n
 have f1:=hF.rn
 have f2:=hF.st
 have f3:=hF.en
 have f4:=hF.ra
 have f5:=hF.po
 have fl:=hF.len c hc
 have fe:=hF.el c hc
 have fm:=hF.rt
 have ftn:(((a.st.getD c default).length:Int) - 1).toNat=(a.st.getD c default).length - 1:=J
 have ft:0 < (a.st.getD c default).length→0<=(a.st.getD c default).getD (((a.st.getD c default).length:Int) - 1).toNat default/\(a.st.getD c default).getD (((a.st.getD c default).length:Int) - 1).toNat default<=7:=λh0=>(by rw [ftn];exact fe _ J)
 refine Ctr.of (n:=69) G Tryz.func118 Z a8 Z Z Z (λw0=>?_)
 refine n9 1 Z (λ_=>Z) (λu1=>?_)
 refine vm1 ?_
 refine zgd ?_
 refine zgo ?_
 refine d8 Z (l8 Z Z (X2 G Z Z Z Z) ?_)
 refine zcd (λh1=>?_) (λh1=>?_)
 ·refine zf1 ?_
  all_goals exact c4y
 refine zcd (λh2=>?_) (λh2=>?_)
 ·refine vm3 ?_
  refine b5 Z Z (b9a Z Z Z) ?_
  exact c5G
 exact c5G
theorem b1t (rs:List Route) (a:Abs) (c:Nat) (hF:AbsF rs a) (hc:c < a.ma.length):Ctr Tryz.prog 185 [.lst 2 (rs.map p5),.agg [.lst 1 (a.en.map m9),.lst 1 (a.ra.map m9),.lst 1 (a.po.map m9),.lst 1 (a.ma.map Rf.s3),.nst none 1 (a.st.map a7s)],.v (.int .i64 (c:Int))] (.one (.v (.int .i64 (B8 rs a c)))):=by
 have f0:=hF.n
 have f1:=hF.rn
 have f2:=hF.st
 have f3:=hF.en
 have f4:=hF.ra
 have f5:=hF.po
 have fl:=hF.len c hc
 have fe:=hF.el c hc
 have fm:=hF.rt
 have ftn:(((a.st.getD c default).length:Int) - 1).toNat=(a.st.getD c default).length - 1:=J
 have ft:0 < (a.st.getD c default).length→0<=(a.st.getD c default).getD (((a.st.getD c default).length:Int) - 1).toNat default/\(a.st.getD c default).getD (((a.st.getD c default).length:Int) - 1).toNat default<=7:=λh0=>(by rw [ftn];exact fe _ J)
 refine Ctr.of (n:=97) G Tryz.func185 Z a8 Z Z Z (λw0=>?_)
 refine n9 1 Z (λ_=>Z) (λu1=>?_)
 refine vm1 ?_
 refine zgo ?_
 refine i6 [0,2,4] [0] (λ(i:Nat)=>[(7,.v (.int .i64 (u9 rs a c i))),(8,.v (.int .i64 (i:Int)))]) (λ(i:Nat)=>[]) (λ(i:Nat)=>i<=8) (λ(i:Nat)=>8 - i) 0 Z Z ?_ ?_ ?_ ?_
 ·exact P9
 ·exact c5q
 ·exact trivial
 intro i hinv
 have hbl:=@a3d rs a c i
 refine vm2 ?_
 refine zcd (λh1=>?_) (λh1=>?_)
 ·refine zgd ?_
  refine zcd (λh2=>?_) (λh2=>?_)
  ·refine zcd (λh3=>?_) (λh3=>?_)
   ·refine zcd (λh4=>?_) (λh4=>?_)
    ·refine zwt ?_
     exact c1x
    refine zcd (λh5=>?_) (λh5=>?_)
    ·exact c1x
    exact c1x
   refine zwf ?_
   exact c1x
  refine zwf ?_
  exact c1x
 refine vm3 ?_
 refine b8R ?_
 refine zgd ?_
 refine zcd (λh6=>?_) (λh6=>?_)
 ·refine zwt ?_
  exact c1A
 refine zcd (λh7=>?_) (λh7=>?_)
 ·refine zwt ?_
  exact c1A
 refine zcd (λh8=>?_) (λh8=>?_)
 ·refine zwt ?_
  exact c1A
 refine zcd (λh9=>?_) (λh9=>?_)
 ·refine zgo ?_
  refine b1M ?_
  refine l8 Z Z (X2 G Z Z Z Z) ?_
  refine zcd (λh10=>?_) (λh10=>?_)
  ·exact c1A
  exact c1A
 refine zwf ?_
 refine zf1 ?_
 all_goals exact c4t
theorem b1u (m:Mach) (hM:MaG m) (hs:SmallM m):Ctr Tryz.prog 186 [.agg [.lst 2 (m.rs.map p5),.lst 1 (m.en.map m9),.lst 1 (m.ra.map m9),.nst none 4 (m.cp.map (s2 104 76))]] (.shp true [some 5] [.fr 4 1 ((y9 m).en.map m9),.fr 4 1 ((y9 m).ra.map m9),.fr 4 1 ((y9 m).po.map m9),.fr 3 1 ((y9 m).ma.map Rf.s3),.ne 68 1 ((y9 m).st.map a7s)]):=by
 have f1:=hM.n
 have f2:=hM.en
 have f3:=hM.ra
 have f4:=hM.rn
 refine Ctr.of (n:=70) G Tryz.func186 Z a8 Z Z Z (λw0=>?_)
 refine n9 0 Z (λ_=>Z) (λu0=>?_)
 refine vm1 ?_
 refine vm9 ?_
 refine zgn ?_
 refine t8 (j7 14 [0,1] mixed a8 Z Z (λr0=>?_) (λ_ h=>h))
 refine zsa 1 ?_
 refine zsa 2 ?_
 refine zsa 5 ?_
 refine zsa 6 ?_
 refine A7 (N:=8) Z (s8 (fuel:=4) [⟨0,7,2,false,.row 4 1 []⟩,⟨4,11,3,false,.row 4 1 []⟩,⟨8,15,4,false,.row 4 1 (List.replicate 8 [.bool false])⟩,⟨9,16,5,false,.row 3 1 []⟩,⟨10,17,6,false,.row 68 1 []⟩,⟨12,3,7,true,.box (avR [.slice none 0 0,.slice none 0 0,.slice none 0 0,.slice none 0 0,.slice none 0 0] [])⟩] (AllVOK.cons (VOK.lit G Z Z Z Z Z) (AllVOK.cons (VOK.lit G Z Z Z Z Z) (AllVOK.cons (VOK.make (n:=8) G Z Z Z Z Z (by decide) (by decide)) (AllVOK.cons (VOK.lit G Z Z Z Z Z) (AllVOK.cons (VOK.lit G Z Z Z Z Z) (AllVOK.cons (VOK.boxS G Z Z Z Z Z) (AllVOK.nil))))))) (λhok=>?_))
 refine m6 [(3,[0])] a8 a8 (λe he=>hok e he) a8 (AllVS.cons ?_ AllVS.nil)
 refine VStep.mk1 [0,1] 7 (.own 2) 2 (.row 4 1 []) [⟨4,11,3,false,.row 4 1 []⟩,⟨8,15,4,false,.row 4 1 (List.replicate 8 [.bool false])⟩,⟨9,16,5,false,.row 3 1 []⟩,⟨10,17,6,false,.row 68 1 []⟩,⟨12,3,7,true,.box (avR [.slice none 0 0,.slice none 0 0,.slice none 0 0,.slice none 0 0,.slice none 0 0] [])⟩] Z Z Z Z Z (λb1 _ hbn=>l2 G U5 Z Z Z Z Z Z Z Z Z N6 Z Z (b4 Z)) a8 a8 a8 a8 (m6 [(7,[4])] a8 a8 (λe he=>hok e (vin (is:=[0]) Z he)) a8 (AllVS.cons ?_ AllVS.nil))
 refine VStep.mk1 [0,1] 11 (.own 3) 3 (.row 4 1 []) [⟨8,15,4,false,.row 4 1 (List.replicate 8 [.bool false])⟩,⟨9,16,5,false,.row 3 1 []⟩,⟨10,17,6,false,.row 68 1 []⟩,⟨12,3,7,true,.box (avR [.slice none 0 0,.slice none 0 0,.slice none 0 0,.slice none 0 0,.slice none 0 0] [])⟩] Z Z Z Z Z (λb1 _ hbn=>l2 G U5 Z Z Z Z Z Z Z Z Z N6 Z Z (b4 Z)) a8 a8 a8 a8 (m6 [(11,[8,9,10])] a8 a8 (λe he=>hok e (vin (is:=[0,4]) Z he)) a8 (AllVS.cons ?_ AllVS.nil))
 refine VStep.mk3 [0,1] 15 (.own 4) 4 (.row 4 1 (List.replicate 8 [.bool false])) 16 (.own 5) 5 (.row 3 1 []) 17 (.own 6) 6 (.row 68 1 []) [⟨12,3,7,true,.box (avR [.slice none 0 0,.slice none 0 0,.slice none 0 0,.slice none 0 0,.slice none 0 0] [])⟩] Z Z Z Z Z (λb1 _ hbn=>b5 Z Z (u3 G Z Z Z Z) (b4 Z)) a8 a8 a8 a8 (m6 [(13,[12])] a8 a8 (λe he=>hok e (vin (is:=[0,4,8,9,10]) Z he)) a8 (AllVS.cons ?_ AllVS.nil))
 refine VStep.mk1 [0,1] 3 (.ptr 7 0) 7 (.box (avR [.slice none 0 0,.slice none 0 0,.slice none 0 0,.slice none 0 0,.slice none 0 0] [])) [] Z Z Z Z Z (λb1 _ hbn=>f6 G Z Z Z Z Z Z Z Z Z Z Z (b4 Z)) a8 a8 a8 a8 (E1 ?_)
 clear hok
 refine a3a (Gh.nest (id:=6) (yss:=[]) Z Z (by intro _ _ _ h;simp at h)) ?_
 refine H8 ?_
 refine zgo ?_
 refine i6 [1,2,3] [0,1,2,3,7] (λ(k:Nat)=>[(4,.v (.int .i64 (k:Int)))]) (λ(k:Nat)=>[(4,some (.row 4 1 ((poN m k).map m9))),(5,some (.row 3 1 (((m.cp.map (λx=>x.ma)).take k).map Rf.s3))),(6,some (.nest 68 1 (((m.cp.map (λx=>x.st)).take k).map a7s) []))]) (λ(k:Nat)=>k<=m.cp.length) (λ(k:Nat)=>m.cp.length - k) 0 Z Z ?_ ?_ ?_ ?_
 ·exact P9
 ·exact a6F
 ·exact c5s
 intro k hk
 have hp8:=@B9 m k
 have hm1:(m.cp.map (λx=>x.ma)).length=m.cp.length:=List.length_map _
 have hm2:(m.cp.map (λx=>x.st)).length=m.cp.length:=List.length_map _
 refine vm2 ?_
 refine zcd (λh1=>?_) (λh1=>?_)
 ·have hI:=(hM.ok k J).f
  have hsn:=hI.sn
  have hpl:=a3k hI.qu
  refine vm3 ?_
  refine b34 ?_
  refine vm3 ?_
  refine d3 9 Z Z Z (ArgsOK.of Z) (a0C (m.cp.getD k default).qu hI.qu) Z Z ?_
  refine zgo ?_
  refine i6 [1,2,3,4,5] [0,1,2,3,5,6,7,8] (λ(i:Nat)=>[(6,.v (.int .i64 (i:Int)))]) (λ(i:Nat)=>[(4,some (.row 4 1 ((b3J (poN m k) (E6 (m.cp.getD k default).qu) i).map m9)))]) (λ(i:Nat)=>i<=(E6 (m.cp.getD k default).qu).length) (λ(i:Nat)=>(E6 (m.cp.getD k default).qu).length - i) 0 Z Z ?_ ?_ ?_ ?_
  ·exact P9
  ·exact a6F
  ·exact a1U
  intro i hi
  have hbp:=λh=>b0c hI.qu (i:=i) h
  have hpo:=@J8 (poN m k) (E6 (m.cp.getD k default).qu) i
  have hp8:=@B9 m k
  refine vm2 ?_
  refine zcd (λh2=>?_) (λh2=>?_)
  ·have hbq:=hbp J
   refine zgn ?_
   refine t8 (p8 (j7 8 [0,1,2,3,5,6,7,8] mixed a8 Z Z (λr0=>?_) (λ_ h=>h)))
   refine a1q ?_
   first | refine c8 4 Z a8 a8 Z Z Z Z (d1 G Z Z Z Z Z J Y4) ?_ | refine c8 4 Z a8 a8 Z Z Z Z (d1 G Z Z Z Z Z J (by rw [List.length_map,J8,B9];omega)) ?_ | refine c8 4 Z a8 a8 Z Z Z Z (d1 G Z Z Z Z Z J n8) ?_ | refine c8 4 Z a8 a8 Z Z Z Z (d1 G Z Z Z Z Z J J) ?_
   first | refine c8 5 Z a8 a8 Z Z Z Z (j9 G Z Z Z Z Z (a2z J) Z) ?_ | refine c8 5 Z a8 a8 Z Z Z Z (j9 G Z Z Z Z Z (C3 J (by rw [J8,B9];omega)) Z) ?_ | refine c8 5 Z a8 a8 Z Z Z Z (j9 G Z Z Z Z Z (C3 J J) Z) ?_
   refine b7 (rs:=[6]) a8 Z (AllB.cons ?_ AllB.nil)
   first | refine e9 [0,1,2,3,5,6,7,8] Z Z (b5 Z Z (d1 G Z Z Z Z Z J Y4) (b4 ⟨Z,?_⟩)) | refine e9 [0,1,2,3,5,6,7,8] Z Z (b5 Z Z (d1 G Z Z Z Z Z J (by rw [List.length_map,J8,B9];omega)) (b4 ⟨Z,?_⟩)) | refine e9 [0,1,2,3,5,6,7,8] Z Z (b5 Z Z (d1 G Z Z Z Z Z J n8) (b4 ⟨Z,?_⟩)) | refine e9 [0,1,2,3,5,6,7,8] Z Z (b5 Z Z (d1 G Z Z Z Z Z J J) (b4 ⟨Z,?_⟩))
   refine b7 (rs:=[7]) a8 Z (AllB.cons ?_ AllB.nil)
   first | refine e9 [0,1,2,3,5,6,7,8] Z Z (l6 G Z Z Z Z Z (a2z J) Z Z Z Z Z (Nat.le_of_ble_eq_true Z) Z (b4 ⟨Z,?_⟩)) | refine e9 [0,1,2,3,5,6,7,8] Z Z (l6 G Z Z Z Z Z (C3 J (by rw [J8,B9];omega)) Z Z Z Z Z (Nat.le_of_ble_eq_true Z) Z (b4 ⟨Z,?_⟩)) | refine e9 [0,1,2,3,5,6,7,8] Z Z (l6 G Z Z Z Z Z (C3 J J) Z Z Z Z Z (Nat.le_of_ble_eq_true Z) Z (b4 ⟨Z,?_⟩))
   refine H8 ?_
   refine zgo ?_
   refine ⟨(i+1),?_,?_,⟨⟨_,Z,by rfl⟩,Z,trivial⟩,⟨⟨_,Z,by (first | rfl | (exact congrArg (λz=>Row.row _ _ z) (a2l J)) | (exact congrArg (λz=>Row.nest _ _ z []) (a2m J Z)) | (exact congrArg (λz=>Row.row _ _ z) b7T) | (obtain rfl:i=(E6 (m.cp.getD k default).qu).length:=J;rfl))⟩,Z,Z,trivial⟩,Z,Z,Z⟩
   ·omega
   omega
  refine zgo ?_
  apply C4 [1,2,3,4] [0,1,2,3,4,6,7,10] 11 12 [0,1,2,3,4,6,8] mixed a8 Z Z (λ_ h=>znk h)
  ·intro r0
   refine zsa 0 ?_
   refine zsa 2 ?_
   refine zsa 3 ?_
   refine zsa 4 ?_
   refine zsa 5 ?_
   refine c8 6 Z a8 a8 Z Z Z Z (a1j G Z Z Z Z) (c8 7 Z a8 a8 Z Z Z Z (X2 G Z Z Z Z) (b7 (rs:=[1,8]) a8 Z (AllB.cons ?_ (AllB.cons ?_ AllB.nil))))
   ·refine g9 [0,1,2,3,4,6,8] Z Z ?_
    refine R9 ?_
    refine b7 (rs:=[8]) a8 Z (AllB.cons ?_ AllB.nil)
    refine g9 [0,1,2,3,4,6,8] Z Z (p6 G 10 Z Z Z Z Z Z Z Z (b4 ⟨Z,?_⟩))
    exact c5M
   refine g9 [0,1,2,3,4,6,8] Z Z (p6 G 10 Z Z Z Z Z Z Z Z (b4 ⟨Z,?_⟩))
   refine b7 (rs:=[1]) a8 Z (AllB.cons ?_ AllB.nil)
   refine g9 [0,1,2,3,4,6,8] Z Z ?_
   refine R9 ?_
   exact c5M
  apply C4 [1,2,3,4] [0,1,2,3,4,7,10,13] 14 13 [0,1,2,3,4,10] mixed a8 Z Z (λ_ h=>znk h)
  ·intro r0
   refine zsa 0 ?_
   refine zsa 2 ?_
   refine zsa 3 ?_
   refine zsa 4 ?_
   refine zsa 5 ?_
   refine c8 6 Z a8 a8 Z Z Z Z (a1j G Z Z Z Z) (c8 7 Z a8 a8 Z Z Z Z (X2 G Z Z Z Z) (b7 (rs:=[1,8]) a8 Z (AllB.cons ?_ (AllB.cons ?_ AllB.nil))))
   ·refine g9 [0,1,2,3,4,10] Z Z ?_
    refine R9 ?_
    refine b7 (rs:=[8]) a8 Z (AllB.cons ?_ AllB.nil)
    refine g9 [0,1,2,3,4,10] Z Z (d3 12 Z Z Z (ArgsOK.of Z) (I9 _ J) Z Z (b4 ⟨Z,?_⟩))
    exact c6f
   refine g9 [0,1,2,3,4,10] Z Z (d3 12 Z Z Z (ArgsOK.of Z) (I9 _ J) Z Z (b4 ⟨Z,?_⟩))
   refine b7 (rs:=[1,9]) a8 Z (AllB.cons ?_ (AllB.cons ?_ AllB.nil))
   ·refine g9 [0,1,2,3,4,10] Z Z ?_
    refine R9 ?_
    exact c6f
   refine g9 [0,1,2,3,4,10] Z Z (A4 G 13 Z Z Z Z Z Z Z Z (.own Z .nil) Z Z Z Z (b4 ⟨Z,?_⟩))
   refine b7 (rs:=[1]) a8 Z (AllB.cons ?_ AllB.nil)
   refine g9 [0,1,2,3,4,10] Z Z ?_
   refine R9 ?_
   exact c5E
  refine a3o ?_
  refine r4 (Gh.sub 10 5 np Z Z Z) (r4 (Gh.sub 13 6 np Z Z Z) (b4 ⟨(k+1),?_,?_,⟨⟨_,Z,by rfl⟩,Z,trivial⟩,⟨⟨_,Z,by (first | rfl | (exact congrArg (λz=>Row.row _ _ z) (a2l J)) | (exact congrArg (λz=>Row.nest _ _ z []) (a2m J Z)) | (exact congrArg (λz=>Row.row _ _ z) b7T) | (obtain rfl:i=(E6 (m.cp.getD k default).qu).length:=J;rfl))⟩,Z,Z,⟨⟨_,Z,by (first | rfl | (exact congrArg (λz=>Row.row _ _ z) (a2l J)) | (exact congrArg (λz=>Row.nest _ _ z []) (a2m J Z)) | (exact congrArg (λz=>Row.row _ _ z) b7T) | (obtain rfl:i=(E6 (m.cp.getD k default).qu).length:=J;rfl))⟩,Z,Z,⟨⟨_,Z,by (first | rfl | (exact congrArg (λz=>Row.row _ _ z) (a2l J)) | (exact congrArg (λz=>Row.nest _ _ z []) (a2m J Z)) | (exact congrArg (λz=>Row.row _ _ z) b7T) | (obtain rfl:i=(E6 (m.cp.getD k default).qu).length:=J;rfl))⟩,Z,Z,trivial⟩⟩⟩,Z,Z,Z⟩))
  ·omega
  omega
 refine zgo ?_
 refine d7 (p7 Z Z Z Z (b3 (c7 Z ?_) (b3 (c7 Z ?_) (b3 (c7 Z ?_) (b3 (c7 Z ?_) (b3 (B2 Z ?_) d9))))))
 all_goals (first | rfl | (obtain rfl:k=m.cp.length:=J;first | rfl | (rw [b47 (Nat.le_refl _)];rfl)) | simp)
theorem a5V (m:Mach) (hM:MaG m) (hs:SmallM m):Ctr Tryz.prog 119 [.agg [.lst 2 (m.rs.map p5),.lst 1 (m.en.map m9),.lst 1 (m.ra.map m9),.nst none 4 (m.cp.map (s2 104 76))]] (.shp true [some 5] [.fr 4 1 ((y9 m).en.map m9),.fr 4 1 ((y9 m).ra.map m9),.fr 4 1 ((y9 m).po.map m9),.fr 3 1 ((y9 m).ma.map Rf.s3),.ne 68 1 ((y9 m).st.map a7s)]):=by
 have f1:=hM.n
 have f2:=hM.en
 have f3:=hM.ra
 have f4:=hM.rn
 refine Ctr.of (n:=57) G Tryz.func119 Z Y Z Z Z (λw0=>?_)
 refine n9 0 Z (λ_=>Z) (λu0=>?_)
 refine c1 (λK1 hK1=>?_)
 refine b6 (a7 Z (B4 1 Z Z Z Z Z Z Z (a7 Z (d6 G 2 Z Z Z Z Z (b4 (hK1 _ ?_))))))
 clear hK1 K1
 refine c1 (λK2 hK2=>?_)
 refine j7 14 [0,1] mixed Y Z Z (λr0=>?_) (λ_ h=>h)
 refine c8 1 Z Y Y Z Z Z Z (d5 G Z Z Z Z) (c8 2 Z Y Y Z Z Z Z (a7l (f9 G Z Z Z Z Z Z Z)) (c8 5 Z Y Y Z Z Z Z (d5 G Z Z Z Z) (c8 6 Z Y Y Z Z Z Z (a7l (f9 G Z Z Z Z Z Z Z)) ?_)))
 refine A7 (N:=8) Z (s8 (fuel:=4) [⟨0,8,2,false,.row 4 1 []⟩,⟨4,12,3,false,.row 4 1 []⟩,⟨8,16,4,false,.row 4 1 (List.replicate 8 [.bool false])⟩,⟨9,17,5,false,.row 3 1 []⟩,⟨10,18,6,false,.row 68 1 []⟩,⟨12,3,7,true,.box (avR [.slice none 0 0,.slice none 0 0,.slice none 0 0,.slice none 0 0,.slice none 0 0] [])⟩] (AllVOK.cons (VOK.lit G Z Z Z Z Z) (AllVOK.cons (VOK.lit G Z Z Z Z Z) (AllVOK.cons (VOK.make (n:=8) G Z Z Z Z Z (by decide) (by decide)) (AllVOK.cons (VOK.lit G Z Z Z Z Z) (AllVOK.cons (VOK.lit G Z Z Z Z Z) (AllVOK.cons (VOK.boxS G Z Z Z Z Z) (AllVOK.nil))))))) (λhok=>?_))
 refine m6 [(3,[0])] Y Y (λe he=>hok e he) Y (AllVS.cons ?_ AllVS.nil)
 refine VStep.mk1 [0,1] 8 (.own 2) 2 (.row 4 1 []) [⟨4,12,3,false,.row 4 1 []⟩,⟨8,16,4,false,.row 4 1 (List.replicate 8 [.bool false])⟩,⟨9,17,5,false,.row 3 1 []⟩,⟨10,18,6,false,.row 68 1 []⟩,⟨12,3,7,true,.box (avR [.slice none 0 0,.slice none 0 0,.slice none 0 0,.slice none 0 0,.slice none 0 0] [])⟩] Z Z Z Z Z (λb1 _ hbn=>l2 G (by rw [hbn];exact Nat.le_of_ble_eq_true Z) Z Z Z Z Z Z Z Z Z (by first | (simp only [List.length_map,List.length_cons,List.length_nil];omega) | (simp;omega)) Z Z (b4 Z)) Y Y Y Y ?_
 refine m6 [(7,[4])] Y Y (λe he=>hok e (vin (is:=[0]) Z he)) Y (AllVS.cons ?_ AllVS.nil)
 refine VStep.mk1 [0,1] 12 (.own 3) 3 (.row 4 1 []) [⟨8,16,4,false,.row 4 1 (List.replicate 8 [.bool false])⟩,⟨9,17,5,false,.row 3 1 []⟩,⟨10,18,6,false,.row 68 1 []⟩,⟨12,3,7,true,.box (avR [.slice none 0 0,.slice none 0 0,.slice none 0 0,.slice none 0 0,.slice none 0 0] [])⟩] Z Z Z Z Z (λb1 _ hbn=>l2 G (by rw [hbn];exact Nat.le_of_ble_eq_true Z) Z Z Z Z Z Z Z Z Z (by first | (simp only [List.length_map,List.length_cons,List.length_nil];omega) | (simp;omega)) Z Z (b4 Z)) Y Y Y Y ?_
 refine m6 [(11,[8,9,10])] Y Y (λe he=>hok e (vin (is:=[0,4]) Z he)) Y (AllVS.cons ?_ AllVS.nil)
 refine VStep.mk3 [0,1] 16 (.own 4) 4 (.row 4 1 (List.replicate 8 [.bool false])) 17 (.own 5) 5 (.row 3 1 []) 18 (.own 6) 6 (.row 68 1 []) [⟨12,3,7,true,.box (avR [.slice none 0 0,.slice none 0 0,.slice none 0 0,.slice none 0 0,.slice none 0 0] [])⟩] Z Z Z Z Z (λb1 _ hbn=>b5 Z Z (u3 G Z Z Z Z) (b4 Z)) Y Y Y Y ?_
 refine m6 [(13,[12])] Y Y (λe he=>hok e (vin (is:=[0,4,8,9,10]) Z he)) Y (AllVS.cons ?_ AllVS.nil)
 refine VStep.mk1 [0,1] 3 (.ptr 7 0) 7 (.box (avR [.slice none 0 0,.slice none 0 0,.slice none 0 0,.slice none 0 0,.slice none 0 0] [])) [] Z Z Z Z Z (λb1 _ hbn=>f6 G Z Z Z Z Z Z Z Z Z Z Z (b4 Z)) Y Y Y Y (E1 ?_)
 clear hok
 refine a3a (Gh.nest (id:=6) (yss:=[]) Z Z (by intro _ _ _ h;simp at h)) (z7 Y (hK2 _ ?_))
 clear hK2 K2
 refine c1 (λK3 hK3=>?_)
 refine c1 (λK4 hK4=>?_)
 refine b6 (a7 Z (b5 Z Z (d5 G Z Z Z Z) (a7 Z (b5 Z Z (b9s (f9 G Z Z Z Z Z Z Z)) (a7 Z ?_)))))
 first | refine b5 Z Z (V6 G Z Z Z Z (List.length_map _)) ?_ | refine b5 Z Z (a1y G Z Z Z Z) ?_
 refine a7 Z (b5 Z Z (b8 Z Z) (b4 (hK4 _ ?_)))
 clear hK4 K4
 refine p8 ?_
 refine i6 [2,3,21,22] [1,2,3,7] (λ(k:Nat)=>[(23,.v (.int .i64 (k:Int)))]) (λ(k:Nat)=>[(4,some (.row 4 1 ((poN m k).map m9))),(5,some (.row 3 1 (((m.cp.map (λx=>x.ma)).take k).map Rf.s3))),(6,some (.nest 68 1 (((m.cp.map (λx=>x.st)).take k).map a7s) []))]) (λ(k:Nat)=>k<=m.cp.length) (λ(k:Nat)=>m.cp.length - k) 0 Z Z ?_ ?_ ?_ ?_
 ·exact P9
 ·exact a6F
 ·exact c5s
 ·intro k hk
  have hp8:=@B9 m k
  have hm1:(m.cp.map (λx=>x.ma)).length=m.cp.length:=List.length_map _
  have hm2:(m.cp.map (λx=>x.st)).length=m.cp.length:=List.length_map _
  simp only [List.cons_append,List.nil_append]
  refine c1 (λK5 hK5=>?_)
  refine b6 (a7 Z (b5 Z Z (u4 Z Z Z Z) (b4 (hK5 _ ?_))))
  clear hK5 K5
  refine c1 (λK6 hK6=>?_)
  refine l1 Z (λh1=>?_) (λh1=>?_)
  ·try rw [h1]
   try simp only [rfb] at h1
   have hI:=(hM.ok k J).f
   have hsn:=hI.sn
   have hpl:=a3k hI.qu
   refine r7 (hK6 _ ?_)
   clear hK6 K6
   refine c1 (λK7 hK7=>?_)
   refine p8 ?_
   refine c1 (λK8 hK8=>?_)
   refine b6 (a7 Z ?_)
   first | refine b5 Z Z (I7 G Z Z Z Z J (a2z J) Z) ?_ | refine b5 Z Z (I7 G Z Z Z Z J (H1 J J) Z) ?_ | refine b5 Z Z (I7 G Z Z Z Z J (C3 J J) Z) ?_
   refine a7 Z (b5 Z Z (V2 G Z Z Z Z) (a7 Z (d6 G 9 Z Z Z Z Z (a7 Z (a7X 26 Z (λ_=>Z) λv26=>f6 G Z Z Z Z Z Z Z Z Z Z Z (b4 (hK8 _ ?_)))))))
   clear hK8 K8
   refine c1 (λK9 hK9=>?_)
   refine b6 (a7 Z (b5 Z Z (d5 G Z Z Z Z) (a7 Z (b5 Z Z (f9 G Z Z Z Z Z Z Z) (a7 Z (b5 Z Z (d5 G Z Z Z Z) (a7 Z (b5 Z Z (f9 G Z Z Z Z Z Z Z) (a7 Z (p6 G 10 Z Z Z Z Z Z Z Z (a7 Z ?_)))))))))))
   refine I1 (Gh.forget (id:=7) (k:=3) Z Z)<|I1 (Gh.keep [1,2,3,4,5,6,7,8,9] Z)<|l2 G np rfl rfl rfl rfl rfl rfl rfl rfl rfl (by first | (simp only [List.length_map,List.length_cons,List.length_nil];omega) | (simp;omega)) rfl rfl ?_
   refine a7 Z (b5 Z Z (d5 G Z Z Z Z) (a7 Z (f6 G Z Z Z Z Z Z Z Z Z Z Z (b4 (hK9 _ ?_)))))
   clear hK9 K9
   refine c1 (λK10 hK10=>?_)
   apply C4 [2,3,5,21,22,23] [1,2,3,4,5,7,8,12] 13 9 [1,2,3,4,5,8,9] mixed Y Z Z hK10
   ·intro r0
    refine c8 0 Z Y Y Z Z Z Z (d5 G Z Z Z Z) (c8 2 Z Y Y Z Z Z Z (d5 G Z Z Z Z) (c8 3 Z Y Y Z Z Z Z (a7l (f9 G Z Z Z Z Z Z Z)) ?_))
    refine b7 (rs:=[1,4]) Y Z (AllB.cons ?_ (AllB.cons ?_ AllB.nil))
    ·refine e9 [1,2,3,4,5,8,9] Z Z (b5 Z Z (f9 G Z Z Z Z Z Z Z) (b4 ⟨Z,?_⟩))
     refine b7 (rs:=[4]) Y Z (AllB.cons ?_ AllB.nil)
     refine e9 [1,2,3,4,5,8,9] Z Z (d3 11 Z Z Z (ArgsOK.of Z) (F8 _ J) Z Z (b4 ⟨Z,?_⟩))
     exact c6e
    ·refine e9 [1,2,3,4,5,8,9] Z Z (d3 11 Z Z Z (ArgsOK.of Z) (F8 _ J) Z Z (b4 ⟨Z,?_⟩))
     refine b7 (rs:=[1,5]) Y Z (AllB.cons ?_ (AllB.cons ?_ AllB.nil))
     ·refine e9 [1,2,3,4,5,8,9] Z Z (b5 Z Z (f9 G Z Z Z Z Z Z Z) (b4 ⟨Z,?_⟩))
      exact c6e
     ·refine e9 [1,2,3,4,5,8,9] Z Z (A4 G 12 Z Z Z Z Z Z Z Z (.own Z .nil) Z Z Z Z (b4 ⟨Z,?_⟩))
      refine b7 (rs:=[1]) Y Z (AllB.cons ?_ AllB.nil)
      refine e9 [1,2,3,4,5,8,9] Z Z (b5 Z Z (f9 G Z Z Z Z Z Z Z) (b4 ⟨Z,?_⟩))
      exact c5B
   ·clear hK10 K10
    refine c1 (λK11 hK11=>?_)
    refine b6 (a7 Z (b5 Z Z (d5 G Z Z Z Z) (a7 Z (b5 Z Z (c6 G Z Z Z Z Z Z) (a7 Z (d3 14 Z Z Z (ArgsOK.of Z) (X1 (m.cp.getD k default).qu hI.qu) Z Z (a7 Z ?_)))))))
    first | refine b5 Z Z (V6 G Z Z Z Z (List.length_map _)) ?_ | refine b5 Z Z (a1y G Z Z Z Z) ?_
    refine a7 Z (b5 Z Z (b8 Z Z) (b4 (hK11 _ ?_)))
    clear hK11 K11
    refine p8 ?_
    refine i6 [2,3,21,22,23,44,45] [1,2,3,5,7,12,13] (λ(i:Nat)=>[(46,.v (.int .i64 (i:Int)))]) (λ(i:Nat)=>[(4,some (.row 4 1 ((b3J (poN m k) (E6 (m.cp.getD k default).qu) i).map m9)))]) (λ(i:Nat)=>i<=(E6 (m.cp.getD k default).qu).length) (λ(i:Nat)=>(E6 (m.cp.getD k default).qu).length - i) 0 Z Z ?_ ?_ ?_ ?_
    ·exact P9
    ·exact a6F
    ·exact a1U
    ·intro i hi
     have hbp:=λh=>b0c hI.qu (i:=i) h
     have hpo:=@J8 (poN m k) (E6 (m.cp.getD k default).qu) i
     have hp8:=@B9 m k
     simp only [List.cons_append,List.nil_append]
     refine c1 (λK12 hK12=>?_)
     refine b6 (a7 Z (b5 Z Z (u4 Z Z Z Z) (b4 (hK12 _ ?_))))
     clear hK12 K12
     refine c1 (λK13 hK13=>?_)
     refine l1 Z (λh2=>?_) (λh2=>?_)
     ·try rw [h2]
      try simp only [rfb] at h2
      have hbq:=hbp J
      refine r7 (hK13 _ ?_)
      clear hK13 K13
      refine c1 (λK14 hK14=>?_)
      refine p8 ?_
      refine c1 (λK15 hK15=>?_)
      refine b6 (a7 Z ?_)
      first | refine b5 Z Z (d1 G Z Z Z Z Z J (by rw [List.length_map];omega)) ?_ | refine b5 Z Z (d1 G Z Z Z Z Z J (by rw [List.length_map,J8,B9];omega)) ?_ | refine b5 Z Z (d1 G Z Z Z Z Z J (by simp;omega)) ?_ | refine b5 Z Z (d1 G Z Z Z Z Z J J) ?_
      refine a7 Z ?_
      first | refine b5 Z Z (j9 G Z Z Z Z Z (a2z J) Z) ?_ | refine b5 Z Z (j9 G Z Z Z Z Z (C3 J (by rw [J8,B9];omega)) Z) ?_ | refine b5 Z Z (j9 G Z Z Z Z Z (C3 J J) Z) ?_
      refine a7 Z (b5 Z Z (b9 Z Z) (b4 (hK15 _ ?_)))
      clear hK15 K15
      refine b6 (a7 Z (b5 Z Z (d5 G Z Z Z Z) (a7 Z (b5 Z Z (f9 G Z Z Z Z Z Z Z) (a7 Z (b5 Z Z (b8 Z Z) (a7 Z ?_)))))))
      first | refine b5 Z Z (d1 G Z Z Z Z Z J (by rw [List.length_map];omega)) ?_ | refine b5 Z Z (d1 G Z Z Z Z Z J (by rw [List.length_map,J8,B9];omega)) ?_ | refine b5 Z Z (d1 G Z Z Z Z Z J (by simp;omega)) ?_ | refine b5 Z Z (d1 G Z Z Z Z Z J J) ?_
      refine a7 Z ?_
      first | refine l6 G Z Z Z Z Z (a2z J) Z Z Z Z Z (Nat.le_of_ble_eq_true Z) Z ?_ | refine l6 G Z Z Z Z Z (C3 J (by rw [J8,B9];omega)) Z Z Z Z Z (Nat.le_of_ble_eq_true Z) Z ?_ | refine l6 G Z Z Z Z Z (C3 J J) Z Z Z Z Z (Nat.le_of_ble_eq_true Z) Z ?_
      refine b4 (hK14 _ ?_)
      clear hK14 K14
      refine b6 (a7 Z ?_)
      first | refine b5 Z Z (q9 Z Z Z Z J J) ?_ | refine b5 Z Z (s6 Z Z Z Z) ?_
      refine a7 Z (b5 Z Z (b8 Z Z) ?_)
      refine b4 ⟨(i+1),?_,?_,⟨⟨_,Z,by rfl⟩,Z,trivial⟩,⟨⟨_,Z,by (first | rfl | (exact congrArg (λz=>Row.row _ _ z) (a2l J)) | (exact congrArg (λz=>Row.nest _ _ z []) (a2m J Z)) | (exact congrArg (λz=>Row.row _ _ z) (by rw [a0x,List.map_set];rfl)) | (obtain rfl:i=(E6 (m.cp.getD k default).qu).length:=J;rfl))⟩,Z,Z,trivial⟩,Z,Z,Z⟩
      ·omega
      ·omega
     ·try rw [h2]
      try simp only [rfb] at h2
      refine J0 (hK7 _ ?_)
      clear hK13 K13 hK7 K7
      refine b6 (a7 Z ?_)
      first | refine b5 Z Z (q9 Z Z Z Z J J) ?_ | refine b5 Z Z (s6 Z Z Z Z) ?_
      refine a7 Z (b5 Z Z (b8 Z Z) (r4 (Gh.sub 12 6 np Z Z Z) ?_))
      refine b4 ⟨(k+1),?_,?_,⟨⟨_,Z,by rfl⟩,Z,trivial⟩,⟨⟨_,Z,by (first | rfl | (exact congrArg (λz=>Row.row _ _ z) (a2l J)) | (exact congrArg (λz=>Row.nest _ _ z []) (a2m J Z)) | (exact congrArg (λz=>Row.row _ _ z) (by rw [a0x,List.map_set];rfl)) | (obtain rfl:i=(E6 (m.cp.getD k default).qu).length:=J;rfl))⟩,Z,Z,⟨⟨_,Z,by (first | rfl | (exact congrArg (λz=>Row.row _ _ z) (a2l J)) | (exact congrArg (λz=>Row.nest _ _ z []) (a2m J Z)) | (exact congrArg (λz=>Row.row _ _ z) (by rw [a0x,List.map_set];rfl)) | (obtain rfl:i=(E6 (m.cp.getD k default).qu).length:=J;rfl))⟩,Z,Z,⟨⟨_,Z,by (first | rfl | (exact congrArg (λz=>Row.row _ _ z) (a2l J)) | (exact congrArg (λz=>Row.nest _ _ z []) (a2m J Z)) | (exact congrArg (λz=>Row.row _ _ z) (by rw [a0x,List.map_set];rfl)) | (obtain rfl:i=(E6 (m.cp.getD k default).qu).length:=J;rfl))⟩,Z,Z,trivial⟩⟩⟩,Z,Z,Z⟩
      ·omega
      ·omega
  ·try rw [h1]
   try simp only [rfb] at h1
   refine J0 (hK3 _ ?_)
   clear hK6 K6 hK3 K3
   refine c1 (λK16 hK16=>?_)
   refine b6 (a7 Z (b5 Z Z (c6 G Z Z Z Z Z Z) (a7 Z (f6 G Z Z Z Z Z Z Z Z Z Z Z (b4 (hK16 _ ?_))))))
   clear hK16 K16
   refine d7 (p7 Z Z Z Z (b3 (c7 Z ?_) (b3 (c7 Z ?_) (b3 (c7 Z ?_) (b3 (c7 Z ?_) (b3 (B2 Z ?_) d9))))))
   all_goals (first | rfl | (obtain rfl:k=m.cp.length:=J;first | rfl | (rw [b47 (Nat.le_refl _)];rfl)) | simp)
theorem b4f (m:Mach) (w:ByteArray) (l:List Int) (hs:SmallM m) (hM:W0 m=true) (hl:a2I (o7 w)=l.length) (hk:(a0W (o7 w) l).2=false):Ctr Tryz.prog 76 [.agg [.lst 2 (m.rs.map p5),.lst 1 (m.en.map m9),.lst 1 (m.ra.map m9),.nst none 4 (m.cp.map (s2 104 76))],.v (.string w),.lst 1 (l.map Rf.s3)] (.many [.v (.string (a4Y m (o7 w) l).1),.v (.bool (a4Y m (o7 w) l).2)]):=by
 have hG:=(maF hM).g
 have hra:=hG.ra
 have hcp:=hs.cp
 have hrl:=@a7R (λi=>m.ra.getD i default) 8
 have hkn:=c7i hk
 refine Ctr.of (n:=69) G Tryz.func76 Z a8 Z Z Z (λw0=>?_)
 refine n9 0 Z (λ_=>Z) (λu0=>?_)
 refine vm1 ?_
 refine W8 ?_
 refine zcd (λh1=>?_) (λh1=>?_)
 ·have k1:=b2A.mp h1
  have hO:=c0B (m:=m) (l:=l) k1
  refine vm3 ?_
  refine b5 Z Z (b0s Z Z) ?_
  refine r6 ?_
  refine d3 2 Z Z Z (ArgsOK.of Z) (a82 114 m (λi=>m.ra.getD i default) (λi hi=>b1r (i:Int) m J)) Z Z ?_
  refine zcl (a1b (raN m) (by unfold raN;omega) (c0z J)) ?_
  exact a6E
 have k1:=mt b2A.mpr h1
 refine W8 ?_
 refine zcd (λh2=>?_) (λh2=>?_)
 ·have k2:=b2B.mp h2
  refine zcl (b1R m hs hM) ?_
  refine zcd (λh3=>?_) (λh3=>?_)
  ·have hO:=b7s (l:=l) k2 h3
   exact a6E
  have hO:=b7t (l:=l) k2 h3
  exact a6E
 have k2:=mt b2B.mpr h2
 have hA:=c0C (m:=m) (l:=l) k1 k2
 have hl1:l.length=1:=c2U hl k1 k2 hkn
 refine zgd ?_
 refine zcl (J9 m (l.getD ((0:Int)).toNat default) hcp) ?_
 refine zcd (λh4=>?_) (λh4=>?_)
 ·have hO:=hA.trans (b7u h4)
  exact a6E
 have hin:=v6.mp h4
 have hcl:(l.getD ((0:Int)).toNat default).toNat < m.cp.length:=J
 have hI:=(hG.ok _ hcl).f
 have hsn:=hI.sn
 have hpl:=a3k hI.qu
 have hnx:=@b0R m.rs (y9 m) (l.getD ((0:Int)).toNat default).toNat
 have cN:=a84 m.rs (y9 m) (l.getD ((0:Int)).toNat default).toNat (c0t hG) (by rw [b7x];exact hcl)
 rw [Int.toNat_of_nonneg J] at cN
 refine zgn ?_
 refine t8 (j7 9 [0] mixed a8 Z Z (λr0=>?_) (λ_ h=>h))
 refine a1q ?_
 refine a8V ?_
 refine b7 (rs:=[7]) a8 Z (AllB.cons ?_ AllB.nil)
 refine g9 [0] Z Z (d6 G 2 Z Z Z Z Z (b4 ⟨Z,?_⟩))
 refine b7 (rs:=[8]) a8 Z (AllB.cons ?_ AllB.nil)
 refine g9 [0] Z Z (a7X 38 Z (λ_=>Z) λv38=>f6 G Z Z Z Z Z Z Z Z Z Z Z (b4 ⟨Z,?_⟩))
 refine H8 ?_
 refine W8 ?_
 refine zcd (λh5=>?_) (λh5=>?_)
 ·have hO:=hA.trans (b7v h4 (b2H.mp h5))
  refine vm3 ?_
  refine d3 3 Z Z Z (ArgsOK.of Z) (X1 (m.cp.getD (l.getD ((0:Int)).toNat default).toNat default).qu hI.qu) Z Z ?_
  refine zcl (a1b (E6 (m.cp.getD (l.getD ((0:Int)).toNat default).toNat default).qu) J (c0D hI.qu)) ?_
  exact a6E
 have k5:=mt b2H.mpr h5
 refine W8 ?_
 refine zcd (λh6=>?_) (λh6=>?_)
 ·have hO:=hA.trans (b7w h4 (b2I.mp h6))
  refine zcl (a1b (m.cp.getD (l.getD ((0:Int)).toNat default).toNat default).st J (c0E hI)) ?_
  exact a6E
 have k6:=mt b2I.mpr h6
 refine W8 ?_
 refine zcd (λh7=>?_) (λh7=>?_)
 ·have hO:=hA.trans (b5d h4 (a8M.mp h7))
  refine zcl (a83 (m.cp.getD (l.getD ((0:Int)).toNat default).toNat default).qu.sl hI.qu.sl) ?_
  exact a6E
 have k7:=mt a8M.mpr h7
 have k8:o7 w=10:=c2V hl k1 k2 hkn k5 k6 k7
 refine zgn ?_
 refine t8 (t8 (j7 9 [0,1] mixed a8 Z Z (λr0=>?_) (λ_ h=>h)))
 refine zsa 0 ?_
 refine zsa 1 ?_
 refine zsa 2 ?_
 refine a8V ?_
 refine b7 (rs:=[3]) a8 Z (AllB.cons ?_ AllB.nil)
 refine g9 [0,1] Z Z (d3 7 Z Z Z (ArgsOK.of Z) (a5V m hG hs) Z Z (b4 ⟨Z,?_⟩))
 refine b7 (rs:=[7]) a8 Z (AllB.cons ?_ AllB.nil)
 refine g9 [0,1] Z Z (b5 Z Z (i7 Z (ArgsOK.of Z) cN Z) (b4 ⟨Z,?_⟩))
 refine zsa 8 ?_
 refine H8 ?_
 refine zcd (λh8=>?_) (λh8=>?_)
 ·have hO:=hA.trans (b2L h4 k8 h8)
  refine zcl (E7 (B8 m.rs (y9 m) (l.getD ((0:Int)).toNat default).toNat) J J) ?_
  exact a6E
 have hO:=hA.trans (b2K h4 k8 h8)
 exact a6E
theorem b1v (m:Mach) (w:ByteArray) (c:Int) (hs:SmallM m) (hM:W0 m=true):Ctr Tryz.prog 127 [.agg [.lst 2 (m.rs.map p5),.lst 1 (m.en.map m9),.lst 1 (m.ra.map m9),.nst none 4 (m.cp.map (s2 104 76))],.v (.string w),.v (.int .i64 c)] (.one (.v (.string (a41 m (o7 w) c)))):=by
 have hG:=(maF hM).g
 have hcp:=hs.cp
 refine Ctr.of (n:=57) G Tryz.func127 Z a8 Z Z Z (λw0=>?_)
 refine n9 0 Z (λ_=>Z) (λu0=>?_)
 refine vm1 ?_
 refine b38 ?_
 refine zcd (λh1=>?_) (λh1=>?_)
 ·have hO:=c7q (k:=o7 w) h1
  exact b1h
 have hin:=v6.mp h1
 have hcl:(c).toNat < m.cp.length:=J
 have hI:=(hG.ok _ hcl).f
 have hsn:=hI.sn
 have hpl:=a3k hI.qu
 have hnx:=@b0R m.rs (y9 m) (c).toNat
 have cN:=b1t m.rs (y9 m) (c).toNat (c0t hG) (by rw [b7x];exact hcl)
 rw [Int.toNat_of_nonneg J] at cN
 refine W8 ?_
 refine zcd (λh2=>?_) (λh2=>?_)
 ·have hO:=c7r h1 (b2H.mp h2)
  refine vm3 ?_
  refine b34 ?_
  refine vm3 ?_
  refine d3 2 Z Z Z (ArgsOK.of Z) (a0C (m.cp.getD (c).toNat default).qu hI.qu) Z Z ?_
  refine zcl (a13 (E6 (m.cp.getD (c).toNat default).qu) J (c0D hI.qu)) ?_
  exact b1h
 have k2:=mt b2H.mpr h2
 refine W8 ?_
 refine zcd (λh3=>?_) (λh3=>?_)
 ·have hO:=c7s h1 (b2I.mp h3)
  refine vm3 ?_
  refine b34 ?_
  refine r6 ?_
  refine b8R ?_
  refine zcl (a13 (m.cp.getD (c).toNat default).st J (c0E hI)) ?_
  exact b1h
 have k3:=mt b2I.mpr h3
 refine W8 ?_
 refine zcd (λh4=>?_) (λh4=>?_)
 ·have k4:=b3O.mp h4
  refine t8 (t8 (j7 7 [0] mixed a8 Z Z (λr0=>?_) (λ_ h=>h)))
  refine b8U ?_
  refine b7 (rs:=[3]) a8 Z (AllB.cons ?_ AllB.nil)
  refine g9 [0] Z Z (d3 6 Z Z Z (ArgsOK.of Z) (b1u m hG hs) Z Z (b4 ⟨Z,?_⟩))
  refine b7 (rs:=[5]) a8 Z (AllB.cons ?_ AllB.nil)
  refine g9 [0] Z Z (b5 Z Z (i7 Z (ArgsOK.of Z) cN Z) (b4 ⟨Z,?_⟩))
  refine zsa 6 ?_
  refine H8 ?_
  refine zcd (λh5=>?_) (λh5=>?_)
  ·have hO:=c0S h1 k4 J
   refine zcl (A1 (B8 m.rs (y9 m) (c).toNat) J J) ?_
   exact b1h
  have hO:=c0R h1 k4 J
  exact b1h
 have k4:=mt b3O.mpr h4
 refine W8 ?_
 refine zcd (λh6=>?_) (λh6=>?_)
 ·have hO:=c22 h1 (a8M.mp h6)
  refine vm3 ?_
  refine b34 ?_
  refine r6 ?_
  refine b34 ?_
  refine r6 ?_
  refine b8R ?_
  refine zcl (b1U (m.cp.getD (c).toNat default).qu.sl hI.qu.sl) ?_
  exact b1h
 have hO:=c0T (m:=m) (c:=c) k2 k3 (mt a8M.mpr h6) k4
 exact b1h
theorem a5i (m:Mach) (x:Lg) (hs:SmallM m) (hx:x.d.size+x.p.size<=1048576):Ctr Tryz.prog 33 [.agg [.lst 2 (m.rs.map p5),.lst 1 (m.en.map m9),.lst 1 (m.ra.map m9),.nst none 4 (m.cp.map (s2 104 76)),.v (.string x.d),.v (.string x.p),.v (.int .i64 x.n)]] (.one (.v (.bool (okCo m x)))):=by
 refine Ctr.of (n:=11) G Tryz.func33 Z a8 Z Z Z (λw0=>?_)
 refine n9 0 Z (λ_=>Z) (λu0=>?_)
 refine vm1 ?_
 refine zcl (a5h m hs) ?_
 refine zcd (λh1=>?_) (λh1=>?_)
 ·refine zcl (U6 x hx) ?_
  exact b7W
 exact b7W
theorem a4o (m:Mach) (x:Lg) (hs:SmallM m) (hx:x.d.size+x.p.size<=1048576):Ctr Tryz.prog 17 [.agg [.lst 2 (m.rs.map p5),.lst 1 (m.en.map m9),.lst 1 (m.ra.map m9),.nst none 4 (m.cp.map (s2 104 76)),.v (.string x.d),.v (.string x.p),.v (.int .i64 x.n)]] (.one (.v (.bool (okCo m x)))):=by
 refine Ctr.of (n:=11) G Tryz.func17 Z a8 Z Z Z (λw0=>?_)
 refine n9 0 Z (λ_=>Z) (λu0=>?_)
 refine vm1 ?_
 refine zcl (a0D m hs) ?_
 refine zcd (λh1=>?_) (λh1=>?_)
 ·refine zcl (P6 x hx) ?_
  exact b7W
 exact b7W
theorem a9V (m:Mach) (hs:SmallM m):Ctr Tryz.prog 79 [.agg [.lst 2 (m.rs.map p5),.lst 1 (m.en.map m9),.lst 1 (m.ra.map m9),.nst none 4 (m.cp.map (s2 104 76))]] (.shp true [some 4] [.fr 132 2 (m.rs.map p5),.fr 4 1 (m.en.map m9),.fr 4 1 (m.ra.map m9),.ne 74 4 (m.cp.map (s2 104 76))]):=by
 have z0:=hs.rs
 have z1:=hs.en
 have z2:=hs.ra
 have z3:=hs.cp
 refine Ctr.of (n:=38) G Tryz.func79 Z a8 Z Z Z (λw0=>?_)
 refine n9 0 Z (λ_=>Z) (λu0=>?_)
 refine vm1 ?_
 refine vm9 ?_
 refine zgn ?_
 refine t8 (j7 16 [0,1] mixed a8 Z Z (λr0=>?_) (λ_ h=>h))
 refine zsa 1 ?_
 refine zsa 2 ?_
 refine zsa 5 ?_
 refine zsa 6 ?_
 refine zsa 9 ?_
 refine zsa 10 ?_
 refine A7 (N:=7) Z (s8 (fuel:=5) [⟨0,5,2,false,.row 132 2 []⟩,⟨4,9,3,false,.row 4 1 []⟩,⟨8,13,4,false,.row 4 1 []⟩,⟨12,17,5,false,.row 74 4 []⟩,⟨14,3,6,true,.box (avR [.slice none 0 0,.slice none 0 0,.slice none 0 0,.slice none 0 0] [])⟩] (AllVOK.cons (VOK.lit G Z Z Z Z Z) (AllVOK.cons (VOK.lit G Z Z Z Z Z) (AllVOK.cons (VOK.lit G Z Z Z Z Z) (AllVOK.cons (VOK.lit G Z Z Z Z Z) (AllVOK.cons (VOK.boxS G Z Z Z Z Z) (AllVOK.nil)))))) (λhok=>?_))
 refine m6 [(3,[0])] a8 a8 (λe he=>hok e he) a8 (AllVS.cons ?_ AllVS.nil)
 refine VStep.mk1 [0,1] 5 (.own 2) 2 (.row 132 2 []) [⟨4,9,3,false,.row 4 1 []⟩,⟨8,13,4,false,.row 4 1 []⟩,⟨12,17,5,false,.row 74 4 []⟩,⟨14,3,6,true,.box (avR [.slice none 0 0,.slice none 0 0,.slice none 0 0,.slice none 0 0] [])⟩] Z Z Z Z Z (λb1 _ hbn=>l2 G U5 Z Z Z Z Z Z Z Z Z N6 Z Z (b4 Z)) a8 a8 a8 a8 (m6 [(7,[4])] a8 a8 (λe he=>hok e (vin (is:=[0]) Z he)) a8 (AllVS.cons ?_ AllVS.nil))
 refine VStep.mk1 [0,1] 9 (.own 3) 3 (.row 4 1 []) [⟨8,13,4,false,.row 4 1 []⟩,⟨12,17,5,false,.row 74 4 []⟩,⟨14,3,6,true,.box (avR [.slice none 0 0,.slice none 0 0,.slice none 0 0,.slice none 0 0] [])⟩] Z Z Z Z Z (λb1 _ hbn=>l2 G U5 Z Z Z Z Z Z Z Z Z N6 Z Z (b4 Z)) a8 a8 a8 a8 (m6 [(11,[8])] a8 a8 (λe he=>hok e (vin (is:=[0,4]) Z he)) a8 (AllVS.cons ?_ AllVS.nil))
 refine VStep.mk1 [0,1] 13 (.own 4) 4 (.row 4 1 []) [⟨12,17,5,false,.row 74 4 []⟩,⟨14,3,6,true,.box (avR [.slice none 0 0,.slice none 0 0,.slice none 0 0,.slice none 0 0] [])⟩] Z Z Z Z Z (λb1 _ hbn=>l2 G U5 Z Z Z Z Z Z Z Z Z N6 Z Z (b4 Z)) a8 a8 a8 a8 (m6 [(13,[12])] a8 a8 (λe he=>hok e (vin (is:=[0,4,8]) Z he)) a8 (AllVS.cons ?_ AllVS.nil))
 refine VStep.mk1 [0,1] 17 (.own 5) 5 (.row 74 4 []) [⟨14,3,6,true,.box (avR [.slice none 0 0,.slice none 0 0,.slice none 0 0,.slice none 0 0] [])⟩] Z Z Z Z Z (λb1 _ hbn=>b5 Z Z (u3 G Z Z Z Z) (b4 Z)) a8 a8 a8 a8 (m6 [(15,[14])] a8 a8 (λe he=>hok e (vin (is:=[0,4,8,12]) Z he)) a8 (AllVS.cons ?_ AllVS.nil))
 refine c8b ?_
 clear hok
 refine c8l ?_
 refine i6 [1,2,3] [0,1,2,3,4,6] (λ(k:Nat)=>[(4,.v (.int .i64 (k:Int)))]) (λ(k:Nat)=>[(5,some (.nest 74 4 ((m.cp.take k).map (s2 104 76)) []))]) (λ(k:Nat)=>k<=m.cp.length) (λ(k:Nat)=>m.cp.length - k) 0 Z Z ?_ ?_ ?_ ?_
 ·exact P9
 ·exact a6F
 ·exact a1U
 intro k hk
 have hkl:((m.cp.take k).map (s2 104 76)).length=k:=c1p
 refine vm2 ?_
 refine zcd (λh1=>?_) (λh1=>?_)
 ·have g0:=hs.allI (i:=k) J
  unfold szI at g0
  exact d0l
 obtain rfl:k=m.cp.length:=J
 refine zgo ?_
 refine d7 (p7 Z Z Z Z (b3 (c7 Z ?_) (b3 (c7 Z ?_) (b3 (c7 Z ?_) (b3 (B2 Z ?_) d9)))))
 all_goals exact c78
theorem a5W (m:Mach) (hs:SmallM m):Ctr Tryz.prog 70 [.agg [.lst 2 (m.rs.map p5),.lst 1 (m.en.map m9),.lst 1 (m.ra.map m9),.nst none 4 (m.cp.map (s2 104 76))]] (.shp true [some 4] [.fr 132 2 (m.rs.map p5),.fr 4 1 (m.en.map m9),.fr 4 1 (m.ra.map m9),.ne 74 4 (m.cp.map (s2 104 76))]):=by
 have z0:=hs.rs
 have z1:=hs.en
 have z2:=hs.ra
 have z3:=hs.cp
 refine Ctr.of (n:=36) G Tryz.func70 Z a8 Z Z Z (λw0=>?_)
 refine n9 0 Z (λ_=>Z) (λu0=>?_)
 refine vm1 ?_
 refine vm9 ?_
 refine zgn ?_
 refine t8 (j7 16 [0,1] mixed a8 Z Z (λr0=>?_) (λ_ h=>h))
 refine zsa 1 ?_
 refine zsa 2 ?_
 refine zsa 5 ?_
 refine zsa 6 ?_
 refine zsa 9 ?_
 refine zsa 10 ?_
 refine A7 (N:=7) Z (s8 (fuel:=5) [⟨0,6,2,false,.row 132 2 []⟩,⟨4,10,3,false,.row 4 1 []⟩,⟨8,14,4,false,.row 4 1 []⟩,⟨12,18,5,false,.row 74 4 []⟩,⟨14,3,6,true,.box (avR [.slice none 0 0,.slice none 0 0,.slice none 0 0,.slice none 0 0] [])⟩] (AllVOK.cons (VOK.lit G Z Z Z Z Z) (AllVOK.cons (VOK.lit G Z Z Z Z Z) (AllVOK.cons (VOK.lit G Z Z Z Z Z) (AllVOK.cons (VOK.lit G Z Z Z Z Z) (AllVOK.cons (VOK.boxS G Z Z Z Z Z) (AllVOK.nil)))))) (λhok=>?_))
 refine m6 [(3,[0])] a8 a8 (λe he=>hok e he) a8 (AllVS.cons ?_ AllVS.nil)
 refine VStep.mk1 [0,1] 6 (.own 2) 2 (.row 132 2 []) [⟨4,10,3,false,.row 4 1 []⟩,⟨8,14,4,false,.row 4 1 []⟩,⟨12,18,5,false,.row 74 4 []⟩,⟨14,3,6,true,.box (avR [.slice none 0 0,.slice none 0 0,.slice none 0 0,.slice none 0 0] [])⟩] Z Z Z Z Z (λb1 _ hbn=>l2 G U5 Z Z Z Z Z Z Z Z Z N6 Z Z (b4 Z)) a8 a8 a8 a8 (m6 [(7,[4])] a8 a8 (λe he=>hok e (vin (is:=[0]) Z he)) a8 (AllVS.cons ?_ AllVS.nil))
 refine VStep.mk1 [0,1] 10 (.own 3) 3 (.row 4 1 []) [⟨8,14,4,false,.row 4 1 []⟩,⟨12,18,5,false,.row 74 4 []⟩,⟨14,3,6,true,.box (avR [.slice none 0 0,.slice none 0 0,.slice none 0 0,.slice none 0 0] [])⟩] Z Z Z Z Z (λb1 _ hbn=>l2 G U5 Z Z Z Z Z Z Z Z Z N6 Z Z (b4 Z)) a8 a8 a8 a8 (m6 [(11,[8])] a8 a8 (λe he=>hok e (vin (is:=[0,4]) Z he)) a8 (AllVS.cons ?_ AllVS.nil))
 refine VStep.mk1 [0,1] 14 (.own 4) 4 (.row 4 1 []) [⟨12,18,5,false,.row 74 4 []⟩,⟨14,3,6,true,.box (avR [.slice none 0 0,.slice none 0 0,.slice none 0 0,.slice none 0 0] [])⟩] Z Z Z Z Z (λb1 _ hbn=>l2 G U5 Z Z Z Z Z Z Z Z Z N6 Z Z (b4 Z)) a8 a8 a8 a8 (m6 [(13,[12])] a8 a8 (λe he=>hok e (vin (is:=[0,4,8]) Z he)) a8 (AllVS.cons ?_ AllVS.nil))
 refine VStep.mk1 [0,1] 18 (.own 5) 5 (.row 74 4 []) [⟨14,3,6,true,.box (avR [.slice none 0 0,.slice none 0 0,.slice none 0 0,.slice none 0 0] [])⟩] Z Z Z Z Z (λb1 _ hbn=>b5 Z Z (u3 G Z Z Z Z) (b4 Z)) a8 a8 a8 a8 (m6 [(15,[14])] a8 a8 (λe he=>hok e (vin (is:=[0,4,8,12]) Z he)) a8 (AllVS.cons ?_ AllVS.nil))
 refine c8b ?_
 clear hok
 refine c8l ?_
 refine i6 [2,3,21,22] [1,2,3,4,6] (λ(k:Nat)=>[(23,.v (.int .i64 (k:Int)))]) (λ(k:Nat)=>[(5,some (.nest 74 4 ((m.cp.take k).map (s2 104 76)) []))]) (λ(k:Nat)=>k<=m.cp.length) (λ(k:Nat)=>m.cp.length - k) 0 Z Z ?_ ?_ ?_ ?_
 ·exact P9
 ·exact a6F
 ·exact a1U
 intro k hk
 have hkl:((m.cp.take k).map (s2 104 76)).length=k:=c1p
 refine vm2 ?_
 refine zcd (λh1=>?_) (λh1=>?_)
 ·have g0:=hs.allI (i:=k) J
  unfold szI at g0
  refine vm3 ?_
  refine b36 ?_
  refine r6 ?_
  refine a7X 26 Z (λ_=>Z) λv26=>f6 G Z Z Z Z Z Z Z Z Z Z Z ?_
  refine zgo ?_
  apply C4 [2,3,21,22,23] [1,2,3,4,6,12] 13 8 [1,2,3,4,7] mixed a8 Z Z (λ_ h=>znk h)
  ·intro r0
   refine zsa 0 ?_
   refine zsa 2 ?_
   refine b7 (rs:=[1,3]) a8 Z (AllB.cons ?_ (AllB.cons ?_ AllB.nil))
   ·refine g9 [1,2,3,4,7] Z Z ?_
    refine R9 ?_
    refine b7 (rs:=[3]) a8 Z (AllB.cons ?_ AllB.nil)
    refine g9 [1,2,3,4,7] Z Z (d3 11 Z Z Z (ArgsOK.of Z) (G2 (m.cp.getD k default) J J J) Z Z (b4 ⟨Z,?_⟩))
    exact c6c
   refine g9 [1,2,3,4,7] Z Z (d3 11 Z Z Z (ArgsOK.of Z) (G2 (m.cp.getD k default) J J J) Z Z (b4 ⟨Z,?_⟩))
   refine b7 (rs:=[1,4]) a8 Z (AllB.cons ?_ (AllB.cons ?_ AllB.nil))
   ·refine g9 [1,2,3,4,7] Z Z ?_
    refine R9 ?_
    exact c6c
   refine g9 [1,2,3,4,7] Z Z (A4 G 12 Z Z Z Z Z Z Z Z (.v Z (.own Z (.own Z (.own Z .nil)))) Z Z Z Z (b4 ⟨Z,?_⟩))
   refine b7 (rs:=[1]) a8 Z (AllB.cons ?_ AllB.nil)
   refine g9 [1,2,3,4,7] Z Z ?_
   refine R9 ?_
   exact c5F
  refine b6 ?_
  refine a3q ?_
  refine r4 (Gh.sub 12 5 np Z Z Z) (b4 ⟨(k+1),?_,?_,⟨⟨_,Z,by rfl⟩,Z,trivial⟩,⟨⟨_,Z,by (exact congrArg (λz=>Row.nest _ _ z []) (b2v J Z))⟩,Z,Z,trivial⟩,Z,Z,Z⟩)
  ·omega
  omega
 obtain rfl:k=m.cp.length:=J
 refine zgo ?_
 refine d7 (p7 Z Z Z Z (b3 (c7 Z ?_) (b3 (c7 Z ?_) (b3 (c7 Z ?_) (b3 (B2 Z ?_) d9)))))
 all_goals exact c78
theorem w8 (m:Mach) (x:Lg) (hs:SmallM m) (hx:x.d.size+x.p.size<=1048576):Ctr Tryz.prog 46 [.agg [.lst 2 (m.rs.map p5),.lst 1 (m.en.map m9),.lst 1 (m.ra.map m9),.nst none 4 (m.cp.map (s2 104 76)),.v (.string x.d),.v (.string x.p),.v (.int .i64 x.n)]] (.shp true [some 7] [.fr 132 2 (m.rs.map p5),.fr 4 1 (m.en.map m9),.fr 4 1 (m.ra.map m9),.ne 74 4 (m.cp.map (s2 104 76)),.v (.string x.d),.v (.string x.p),.v (.int .i64 x.n)]):=by
 refine Ctr.of (n:=9) G Tryz.func46 Z a8 Z Z Z (λw0=>?_)
 refine n9 0 Z (λ_=>Z) (λu0=>?_)
 refine vm1 ?_
 refine vm9 ?_
 refine zgn ?_
 refine t8 (j7 7 [0] mixed a8 Z Z (λr0=>?_) (λ_ h=>h))
 refine zsa 0 ?_
 refine zsa 1 ?_
 refine zsa 3 ?_
 refine zsa 4 ?_
 refine b7 (rs:=[2]) a8 Z (AllB.cons ?_ AllB.nil)
 refine g9 [0] Z Z (d3 6 Z Z Z (ArgsOK.of Z) (a9V m hs) Z Z (b4 ⟨Z,?_⟩))
 exact d0O
theorem a2p (m:Mach) (x:Lg) (hs:SmallM m) (hx:x.d.size+x.p.size<=1048576):Ctr Tryz.prog 42 [.agg [.lst 2 (m.rs.map p5),.lst 1 (m.en.map m9),.lst 1 (m.ra.map m9),.nst none 4 (m.cp.map (s2 104 76)),.v (.string x.d),.v (.string x.p),.v (.int .i64 x.n)]] (.shp true [some 7] [.fr 132 2 (m.rs.map p5),.fr 4 1 (m.en.map m9),.fr 4 1 (m.ra.map m9),.ne 74 4 (m.cp.map (s2 104 76)),.v (.string x.d),.v (.string x.p),.v (.int .i64 x.n)]):=by
 refine Ctr.of (n:=9) G Tryz.func42 Z a8 Z Z Z (λw0=>?_)
 refine n9 0 Z (λ_=>Z) (λu0=>?_)
 refine vm1 ?_
 refine vm9 ?_
 refine zgn ?_
 refine t8 (j7 7 [0] mixed a8 Z Z (λr0=>?_) (λ_ h=>h))
 refine zsa 0 ?_
 refine zsa 1 ?_
 refine zsa 3 ?_
 refine zsa 4 ?_
 refine b7 (rs:=[2]) a8 Z (AllB.cons ?_ AllB.nil)
 refine g9 [0] Z Z (d3 6 Z Z Z (ArgsOK.of Z) (a5W m hs) Z Z (b4 ⟨Z,?_⟩))
 exact d0O
end Go.Proofs.YtdhckhjphmjniaaGreatDoor
