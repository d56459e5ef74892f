/- Texts merged into one: Q1, F1, W4, M18, Q5, Q7, M20, C1, Q2. -/
import Derived.Test.YtdhckhjphmjniaaGreatDoorPFnConsoleG
set_option maxHeartbeats 4000000
set_option linter.unusedSimpArgs false
set_option linter.unusedVariables false
set_option maxRecDepth 20000
namespace Go.Proofs.YtdhckhjphmjniaaGreatDoor
open Go Go.Rf
theorem a9t (s:ByteArray) (hs:s.size<=9223372036854775807):Ctr Tryz.prog 82 [.v (.string s)] (.many [.v (.int .i64 (nmN s)),.v (.bool (nmK s))]):=by
 refine Ctr.of (n:=8) G Tryz.func82 Z a8 Z Z Z (λw0=>?_)
 refine zcl (b1j s hs) ?_
 refine zgo ?_
 refine d8 (s1 Z Z Z Z (b3 (j4 ?_) (b3 (j4 ?_) d9)))
 all_goals (rfl)
theorem a6x (w:ByteArray):Ctr Tryz.prog 73 [.v (.string w)] (.one (.v (.int .i64 (a2p (m9 w))))):=by
 refine Ctr.of (n:=20) G Tryz.func73 Z a8 Z Z Z (λw0=>?_)
 refine W3 ?_
 refine zcd (λh1=>?_) (λh1=>?_)
 ·have k1:=b11.mp h1
  exact a5S
 have k1:=mt b11.mpr h1
 refine W3 ?_
 refine zcd (λh2=>?_) (λh2=>?_)
 ·have k2:=b12.mp h2
  exact a5S
 have k2:=mt b12.mpr h2
 refine W3 ?_
 refine zcd (λh3=>?_) (λh3=>?_)
 ·have k3:=b13.mp h3
  exact c0C
 have k3:=mt b13.mpr h3
 refine W3 ?_
 refine zcd (λh4=>?_) (λh4=>?_)
 ·have k4:=b14.mp h4
  exact a5S
 have k4:=mt b14.mpr h4
 refine W3 ?_
 refine zcd (λh5=>?_) (λh5=>?_)
 ·have k5:=b15.mp h5
  exact a5S
 have k5:=mt b15.mpr h5
 refine W3 ?_
 refine zcd (λh6=>?_) (λh6=>?_)
 ·have k6:=b16.mp h6
  exact a5S
 have k6:=mt b16.mpr h6
 refine W3 ?_
 refine zcd (λh7=>?_) (λh7=>?_)
 ·have k7:=b17.mp h7
  exact a5S
 have k7:=mt b17.mpr h7
 refine W3 ?_
 refine zcd (λh8=>?_) (λh8=>?_)
 ·have k8:=b18.mp h8
  exact a5S
 have k8:=mt b18.mpr h8
 refine W3 ?_
 refine zcd (λh9=>?_) (λh9=>?_)
 ·have k9:=b19.mp h9
  exact a5S
 have k9:=mt b19.mpr h9
 refine W3 ?_
 refine zcd (λh10=>?_) (λh10=>?_)
 ·have k10:=b2a.mp h10
  exact a5S
 have k10:=mt b2a.mpr h10
 refine W3 ?_
 refine zcd (λh11=>?_) (λh11=>?_)
 ·have k11:=b3e.mp h11
  exact a5S
 have k11:=mt b3e.mpr h11
 refine W3 ?_
 refine zcd (λh12=>?_) (λh12=>?_)
 ·have k12:=a8l.mp h12
  exact c0C
 have k12:=mt a8l.mpr h12
 refine W3 ?_
 refine zcd (λh13=>?_) (λh13=>?_)
 ·have k13:=a8m.mp h13
  exact c0C
 have k13:=mt a8m.mpr h13
 exact c0C
theorem b1k (w:ByteArray) (l:List Int) (hl:a2p (m9 w)=l.length):Ctr Tryz.prog 75 [.v (.string w),.lst 1 (l.map Rf.r5)] (.many [.v (b6k (a0E (m9 w) l).1),.v (.bool (a0E (m9 w) l).2)]):=by
 refine Ctr.of (n:=50) G Tryz.func75 Z a8 Z Z Z (λw0=>?_)
 refine a4Q ?_
 refine W3 ?_
 refine zcd (λh1=>?_) (λh1=>?_)
 ·have k1:=b14.mp h1
  exact b4S
 have k1:=mt b14.mpr h1
 refine W3 ?_
 refine zcd (λh2=>?_) (λh2=>?_)
 ·have k2:=b15.mp h2
  exact b4S
 have k2:=mt b15.mpr h2
 refine W3 ?_
 refine zcd (λh3=>?_) (λh3=>?_)
 ·have k3:=b16.mp h3
  exact b4S
 have k3:=mt b16.mpr h3
 refine W3 ?_
 refine zcd (λh4=>?_) (λh4=>?_)
 ·have k4:=b11.mp h4
  refine zgo ?_
  exact c2B
 have k4:=mt b11.mpr h4
 refine W3 ?_
 refine zcd (λh5=>?_) (λh5=>?_)
 ·have k5:=b17.mp h5
  exact b4S
 have k5:=mt b17.mpr h5
 refine W3 ?_
 refine zcd (λh6=>?_) (λh6=>?_)
 ·have k6:=b18.mp h6
  exact b4S
 have k6:=mt b18.mpr h6
 refine W3 ?_
 refine zcd (λh7=>?_) (λh7=>?_)
 ·have k7:=a8m.mp h7
  have hn:=a8n (k:=m9 w) J
  rw [hl] at hn
  refine s5 (l1 9 [] mixed a8 Z Z (λr0=>?_) (λ_ h=>h))
  refine a06 ?_
  refine a8t ?_
  refine b6 (rs:=[7]) a8 Z (AllB.cons ?_ AllB.nil)
  refine f8 [] Z Z ?_
  refine R9 ?_
  refine zsa 8 ?_
  refine G9 ?_
  exact c2B
 have k7:=mt a8m.mpr h7
 refine zgo ?_
 exact c2B
theorem a0Q (l:List Int) (hl:l.length<=1048576) (hn:∀i,i < l.length→a1v (l.getD i default)):Ctr Tryz.prog 36 [.lst 1 (l.map Rf.r5)] (.one (.v (.string (a4G l)))):=by
 refine Ctr.of (n:=24) G Tryz.func36 Z a8 Z Z Z (λw0=>?_)
 refine zcd (λh1=>?_) (λh1=>?_)
 ·exact c4w
 have hJ:=c5Z (l:=l) J
 refine b1c ?_
 refine zgo ?_
 refine g9 [10,11] [] (λ(i:Nat)=>[(3,.own 0),(12,.v (.int .i64 (i:Int)))]) (λ(i:Nat)=>[(0,some (.row 9 1 ((b0A l i).map a4r)))]) (λ(i:Nat)=>i<=l.length) (λ(i:Nat)=>l.length - i) 0 Z Z ?_ ?_ ?_ ?_
 ·exact R3
 ·exact Y2
 ·exact a1M
 intro i hi
 have hpl:=@b4v l i
 refine vm2 ?_
 refine zcd (λh2=>?_) (λh2=>?_)
 ·obtain ⟨hn1,hn2⟩:=hn i J
  refine zcl (D0 (l.getD i default) J J) ?_
  refine p6 ?_
  refine b4J ?_
  refine p6 ?_
  refine vm6 ?_
  refine zgo ?_
  refine ⟨(i+1),?_,?_,⟨⟨_,Z,by rfl⟩,Z,⟨⟨_,Z,by rfl⟩,Z,trivial⟩⟩,⟨⟨_,Z,by (rw [b7R J,List.map_append];rfl)⟩,Z,Z,trivial⟩,Z,Z,Z⟩
  ·omega
  omega
 obtain rfl:i=l.length:=J
 refine zcl (a4R (b0A l l.length) (Nat.le_trans b4v hl) (c1O hl hn)) ?_
 refine zf1 ?_
 all_goals (first | (rw [hE];rfl) | (rw [hJ];done))
theorem a1J (l:List Int) (hl:l.length<=1048576) (hn:∀i,i < l.length→a1v (l.getD i default)):Ctr Tryz.prog 39 [.lst 1 (l.map Rf.r5)] (.one (.v (.string (a4G l)))):=by
 refine Ctr.of (n:=27) G Tryz.func39 Z a8 Z Z Z (λw0=>?_)
 refine zcd (λh1=>?_) (λh1=>?_)
 ·exact c4w
 have hJ:=b9D (l:=l) J
 obtain ⟨hn1,hn2⟩:=hn 0 J
 refine zcl (y8 (l.getD 0 default) J J) ?_
 refine zgo ?_
 refine g9 [0] [] (λ(i:Nat)=>[(3,.v (.string (jnS (b3a l) i))),(4,.v (.int .i64 (i:Int)))]) (λ(i:Nat)=>[]) (λ(i:Nat)=>1<=i/\i<=l.length) (λ(i:Nat)=>l.length - i) 1 Z Z ?_ ?_ ?_ ?_
 ·exact ⟨Nat.le_refl _,by omega⟩
 ·exact ⟨⟨_,Z,by (first | rfl | (rw [b6E,a1u J];first | done | rfl))⟩,Z,⟨⟨_,Z,by (first | rfl | (rw [b6E,a1u J];first | done | rfl))⟩,Z,trivial⟩⟩
 ·exact trivial
 intro i hi
 refine vm2 ?_
 refine zcd (λh2=>?_) (λh2=>?_)
 ·obtain ⟨hn3,hn4⟩:=hn i J
  have hz:=b1Y hn i J
  have hzn:=y7 (n:=l.getD i default) J hn4
  refine vm3 ?_
  refine b4I ?_
  refine zcl (y8 (l.getD i default) J J) ?_
  refine p6 ?_
  refine b4I ?_
  refine zgo ?_
  refine ⟨(i+1),?_,?_,⟨⟨_,Z,by (first | rfl | (rw [a7s J,a1u J];first | done | rfl))⟩,Z,⟨⟨_,Z,by (first | rfl | (rw [a7s J,a1u J];first | done | rfl))⟩,Z,trivial⟩⟩,trivial,Z,Z,Z⟩
  ·exact ⟨by omega,by omega⟩
  omega
 obtain rfl:i=l.length:=J
 refine zf1 ?_
 all_goals (first | (rw [hE];rfl) | (rw [hJ];done))
theorem a8B (sl:List Slot) (hF:SlF sl):Ctr Tryz.prog 35 [.lst 3 (sl.map g8)] (.one (.v (.string (a4H sl)))):=by
 have hl4:=hF.len
 have hcs:(⟨#[45,112,97,98]⟩:ByteArray).size=4:=rfl
 refine Ctr.of (n:=40) G Tryz.func35 Z a8 Z Z Z (λw0=>?_)
 refine b1c ?_
 refine zgo ?_
 refine g9 [8,9] [] (λ(i:Nat)=>[(3,.own 0),(10,.v (.int .i64 (i:Int)))]) (λ(i:Nat)=>[(0,some (.row 9 1 ((a7u sl i).map a4r)))]) (λ(i:Nat)=>i<=sl.length) (λ(i:Nat)=>sl.length - i) 0 Z Z ?_ ?_ ?_ ?_
 ·exact R3
 ·exact Y2
 ·exact a1M
 intro i hi
 have hpl:=@b4w sl i
 refine vm2 ?_
 refine zcd (λh1=>?_) (λh1=>?_)
 ·have hs3:=hF.s03 (i:=i) J
  have hlb:=@a8k (sl.getD i default).s
  rw [a6i] at hlb
  refine b4L ?_
  refine c2s ?_
  refine zcd (λh2=>?_) (λh2=>?_)
  ·have hnm:=hF.nums (i:=i) J J
   refine zgd ?_
   refine zcl (D0 (sl.getD i default).q J J) ?_
   refine b71 ?_
   refine zcl (D0 (sl.getD i default).p J J) ?_
   refine b71 ?_
   refine b71 ?_
   exact c9v
  exact c9v
 obtain rfl:i=sl.length:=J
 have hJ:=@b9E sl
 refine zcl (a4R (a7u sl sl.length) (Nat.le_trans b4w J) (c1P J (c26 hF))) ?_
 refine zf1 ?_
 all_goals (first | (rw [hJ];done))
theorem b1l (sl:List Slot) (hF:SlF sl):Ctr Tryz.prog 38 [.lst 3 (sl.map g8)] (.one (.v (.string (a4H sl)))):=by
 have hl4:=hF.len
 have hcs:(⟨#[45,112,97,98]⟩:ByteArray).size=4:=rfl
 refine Ctr.of (n:=46) G Tryz.func38 Z a8 Z Z Z (λw0=>?_)
 refine zgo ?_
 refine g9 [0] [] (λ(i:Nat)=>[(3,.v (.string (jnS (a3H sl) i))),(4,.v (.int .i64 (i:Int)))]) (λ(i:Nat)=>[]) (λ(i:Nat)=>i<=sl.length) (λ(i:Nat)=>sl.length - i) 0 Z Z ?_ ?_ ?_ ?_
 ·exact R3
 ·exact Y2
 ·exact trivial
 intro i hi
 refine vm2 ?_
 refine zcd (λh1=>?_) (λh1=>?_)
 ·have hs3:=hF.s03 (i:=i) J
  have hlb:=@a8k (sl.getD i default).s
  rw [a6i] at hlb
  have hz:=b1Z (c26 hF) i J
  refine zcd (λh2=>?_) (λh2=>?_)
  ·refine vm3 ?_
   refine b4I ?_
   exact c9g
  exact c9g
 obtain rfl:i=sl.length:=J
 have hJ:jnS (a3H sl) sl.length=a4H sl:=(by rw [a4H,jnA,a0D])
 refine zf1 ?_
 all_goals (first | (rw [hJ];done))
theorem a8C (rs:List Route) (a:Abs) (c:Nat) (hF:AbsF rs a) (hc:c < a.ma.length):Ctr Tryz.prog 118 [.lst 2 (rs.map p8),.agg [.lst 1 (a.en.map n7),.lst 1 (a.ra.map n7),.lst 1 (a.po.map n7),.lst 1 (a.ma.map Rf.r5),.nst none 1 (a.st.map a69)],.v (.int .i64 (c:Int))] (.one (.v (.int .i64 (A5 rs a c)))):=by
 have f0:=hF.n
 have f1:=hF.rn
 have f2:=hF.st
 have f3:=hF.en
 have f4:=hF.ra
 have f5:=hF.po
 have fl:=hF.len c hc
 have fe:=hF.el c hc
 have fm:=hF.rt
 have ftn:(((a.st.getD c default).length:Int) - 1).toNat=(a.st.getD c default).length - 1:=J
 have ft:0 < (a.st.getD c default).length→0<=(a.st.getD c default).getD (((a.st.getD c default).length:Int) - 1).toNat default/\(a.st.getD c default).getD (((a.st.getD c default).length:Int) - 1).toNat default<=7:=λh0=>(by rw [ftn];exact fe _ J)
 refine Ctr.of (n:=69) G Tryz.func118 Z a8 Z Z Z (λw0=>?_)
 refine m7 1 Z (λ_=>Z) (λu1=>?_)
 refine vm1 ?_
 refine zgd ?_
 refine zgo ?_
 refine d4 Z (l2 Z Z (U7 G Z Z Z Z) ?_)
 refine zcd (λh1=>?_) (λh1=>?_)
 ·refine zf1 ?_
  all_goals exact c3A
 refine zcd (λh2=>?_) (λh2=>?_)
 ·refine vm3 ?_
  refine b5 Z Z (b8m Z Z Z) ?_
  exact c4G
 exact c4G
theorem b0V (rs:List Route) (a:Abs) (c:Nat) (hF:AbsF rs a) (hc:c < a.ma.length):Ctr Tryz.prog 185 [.lst 2 (rs.map p8),.agg [.lst 1 (a.en.map n7),.lst 1 (a.ra.map n7),.lst 1 (a.po.map n7),.lst 1 (a.ma.map Rf.r5),.nst none 1 (a.st.map a69)],.v (.int .i64 (c:Int))] (.one (.v (.int .i64 (A5 rs a c)))):=by
 have f0:=hF.n
 have f1:=hF.rn
 have f2:=hF.st
 have f3:=hF.en
 have f4:=hF.ra
 have f5:=hF.po
 have fl:=hF.len c hc
 have fe:=hF.el c hc
 have fm:=hF.rt
 have ftn:(((a.st.getD c default).length:Int) - 1).toNat=(a.st.getD c default).length - 1:=J
 have ft:0 < (a.st.getD c default).length→0<=(a.st.getD c default).getD (((a.st.getD c default).length:Int) - 1).toNat default/\(a.st.getD c default).getD (((a.st.getD c default).length:Int) - 1).toNat default<=7:=λh0=>(by rw [ftn];exact fe _ J)
 refine Ctr.of (n:=97) G Tryz.func185 Z a8 Z Z Z (λw0=>?_)
 refine m7 1 Z (λ_=>Z) (λu1=>?_)
 refine vm1 ?_
 refine zgo ?_
 refine g9 [0,2,4] [0] (λ(i:Nat)=>[(7,.v (.int .i64 (u4 rs a c i))),(8,.v (.int .i64 (i:Int)))]) (λ(i:Nat)=>[]) (λ(i:Nat)=>i<=8) (λ(i:Nat)=>8 - i) 0 Z Z ?_ ?_ ?_ ?_
 ·exact R3
 ·exact c4p
 ·exact trivial
 intro i hinv
 have hbl:=@a2T rs a c i
 refine vm2 ?_
 refine zcd (λh1=>?_) (λh1=>?_)
 ·refine zgd ?_
  refine zcd (λh2=>?_) (λh2=>?_)
  ·refine zcd (λh3=>?_) (λh3=>?_)
   ·refine zcd (λh4=>?_) (λh4=>?_)
    ·refine zwt ?_
     exact c0A
    refine zcd (λh5=>?_) (λh5=>?_)
    ·exact c0A
    exact c0A
   refine zwf ?_
   exact c0A
  refine zwf ?_
  exact c0A
 refine vm3 ?_
 refine b74 ?_
 refine zgd ?_
 refine zcd (λh6=>?_) (λh6=>?_)
 ·refine zwt ?_
  exact c0D
 refine zcd (λh7=>?_) (λh7=>?_)
 ·refine zwt ?_
  exact c0D
 refine zcd (λh8=>?_) (λh8=>?_)
 ·refine zwt ?_
  exact c0D
 refine zcd (λh9=>?_) (λh9=>?_)
 ·refine zgo ?_
  refine b1d ?_
  refine l2 Z Z (U7 G Z Z Z Z) ?_
  refine zcd (λh10=>?_) (λh10=>?_)
  ·exact c0D
  exact c0D
 refine zwf ?_
 refine zf1 ?_
 all_goals exact c3v
theorem b0W (m:Mach) (hM:MaG m) (hs:SmallM m):Ctr Tryz.prog 186 [.agg [.lst 2 (m.rs.map p8),.lst 1 (m.en.map n7),.lst 1 (m.ra.map n7),.nst none 4 (m.cp.map (r4 104 76))]] (.shp true [some 5] [.fr 4 1 ((w9 m).en.map n7),.fr 4 1 ((w9 m).ra.map n7),.fr 4 1 ((w9 m).po.map n7),.fr 3 1 ((w9 m).ma.map Rf.r5),.ne 68 1 ((w9 m).st.map a69)]):=by
 have f1:=hM.n
 have f2:=hM.en
 have f3:=hM.ra
 have f4:=hM.rn
 refine Ctr.of (n:=70) G Tryz.func186 Z a8 Z Z Z (λw0=>?_)
 refine m7 0 Z (λ_=>Z) (λu0=>?_)
 refine vm1 ?_
 refine vm9 ?_
 refine zgn ?_
 refine s5 (l1 14 [0,1] mixed a8 Z Z (λr0=>?_) (λ_ h=>h))
 refine zsa 1 ?_
 refine zsa 2 ?_
 refine zsa 5 ?_
 refine zsa 6 ?_
 refine A4 (N:=8) Z (s7 (fuel:=4) [⟨0,7,2,false,.row 4 1 []⟩,⟨4,11,3,false,.row 4 1 []⟩,⟨8,15,4,false,.row 4 1 (List.replicate 8 [.bool false])⟩,⟨9,16,5,false,.row 3 1 []⟩,⟨10,17,6,false,.row 68 1 []⟩,⟨12,3,7,true,.box (avR [.slice none 0 0,.slice none 0 0,.slice none 0 0,.slice none 0 0,.slice none 0 0] [])⟩] (AllVOK.cons (VOK.lit G Z Z Z Z Z) (AllVOK.cons (VOK.lit G Z Z Z Z Z) (AllVOK.cons (VOK.make (n:=8) G Z Z Z Z Z (by decide) (by decide)) (AllVOK.cons (VOK.lit G Z Z Z Z Z) (AllVOK.cons (VOK.lit G Z Z Z Z Z) (AllVOK.cons (VOK.boxS G Z Z Z Z Z) (AllVOK.nil))))))) (λhok=>?_))
 refine n6 [(3,[0])] a8 a8 (λe he=>hok e he) a8 (AllVS.cons ?_ AllVS.nil)
 refine VStep.mk1 [0,1] 7 (.own 2) 2 (.row 4 1 []) [⟨4,11,3,false,.row 4 1 []⟩,⟨8,15,4,false,.row 4 1 (List.replicate 8 [.bool false])⟩,⟨9,16,5,false,.row 3 1 []⟩,⟨10,17,6,false,.row 68 1 []⟩,⟨12,3,7,true,.box (avR [.slice none 0 0,.slice none 0 0,.slice none 0 0,.slice none 0 0,.slice none 0 0] [])⟩] Z Z Z Z Z (λb1 _ hbn=>j8 G S8 Z Z Z Z Z Z Z Z Z J9 Z Z (b4 Z)) a8 a8 a8 a8 (n6 [(7,[4])] a8 a8 (λe he=>hok e (vin (is:=[0]) Z he)) a8 (AllVS.cons ?_ AllVS.nil))
 refine VStep.mk1 [0,1] 11 (.own 3) 3 (.row 4 1 []) [⟨8,15,4,false,.row 4 1 (List.replicate 8 [.bool false])⟩,⟨9,16,5,false,.row 3 1 []⟩,⟨10,17,6,false,.row 68 1 []⟩,⟨12,3,7,true,.box (avR [.slice none 0 0,.slice none 0 0,.slice none 0 0,.slice none 0 0,.slice none 0 0] [])⟩] Z Z Z Z Z (λb1 _ hbn=>j8 G S8 Z Z Z Z Z Z Z Z Z J9 Z Z (b4 Z)) a8 a8 a8 a8 (n6 [(11,[8,9,10])] a8 a8 (λe he=>hok e (vin (is:=[0,4]) Z he)) a8 (AllVS.cons ?_ AllVS.nil))
 refine VStep.mk3 [0,1] 15 (.own 4) 4 (.row 4 1 (List.replicate 8 [.bool false])) 16 (.own 5) 5 (.row 3 1 []) 17 (.own 6) 6 (.row 68 1 []) [⟨12,3,7,true,.box (avR [.slice none 0 0,.slice none 0 0,.slice none 0 0,.slice none 0 0,.slice none 0 0] [])⟩] Z Z Z Z Z (λb1 _ hbn=>b5 Z Z (w3 G Z Z Z Z) (b4 Z)) a8 a8 a8 a8 (n6 [(13,[12])] a8 a8 (λe he=>hok e (vin (is:=[0,4,8,9,10]) Z he)) a8 (AllVS.cons ?_ AllVS.nil))
 refine VStep.mk1 [0,1] 3 (.ptr 7 0) 7 (.box (avR [.slice none 0 0,.slice none 0 0,.slice none 0 0,.slice none 0 0,.slice none 0 0] [])) [] Z Z Z Z Z (λb1 _ hbn=>e9 G Z Z Z Z Z Z Z Z Z Z Z (b4 Z)) a8 a8 a8 a8 (G7 ?_)
 clear hok
 refine a3T (Gh.nest (id:=6) (yss:=[]) Z Z (by intro _ _ _ h;simp at h)) ?_
 refine G9 ?_
 refine zgo ?_
 refine g9 [1,2,3] [0,1,2,3,7] (λ(k:Nat)=>[(4,.v (.int .i64 (k:Int)))]) (λ(k:Nat)=>[(4,some (.row 4 1 ((poN m k).map n7))),(5,some (.row 3 1 (((m.cp.map (λx=>x.ma)).take k).map Rf.r5))),(6,some (.nest 68 1 (((m.cp.map (λx=>x.st)).take k).map a69) []))]) (λ(k:Nat)=>k<=m.cp.length) (λ(k:Nat)=>m.cp.length - k) 0 Z Z ?_ ?_ ?_ ?_
 ·exact R3
 ·exact a88
 ·exact c4r
 intro k hk
 have hp8:=@A7 m k
 have hm1:(m.cp.map (λx=>x.ma)).length=m.cp.length:=List.length_map _
 have hm2:(m.cp.map (λx=>x.st)).length=m.cp.length:=List.length_map _
 refine vm2 ?_
 refine zcd (λh1=>?_) (λh1=>?_)
 ·have hI:=(hM.ok k J).f
  have hsn:=hI.sn
  have hpl:=a22 hI.qu
  refine vm3 ?_
  refine b3q ?_
  refine vm3 ?_
  refine d3 9 Z Z Z (ArgsOK.of Z) (a0p (m.cp.getD k default).qu hI.qu) Z Z ?_
  refine zgo ?_
  refine g9 [1,2,3,4,5] [0,1,2,3,5,6,7,8] (λ(i:Nat)=>[(6,.v (.int .i64 (i:Int)))]) (λ(i:Nat)=>[(4,some (.row 4 1 ((b29 (poN m k) (C9 (m.cp.getD k default).qu) i).map n7)))]) (λ(i:Nat)=>i<=(C9 (m.cp.getD k default).qu).length) (λ(i:Nat)=>(C9 (m.cp.getD k default).qu).length - i) 0 Z Z ?_ ?_ ?_ ?_
  ·exact R3
  ·exact a88
  ·exact a1M
  intro i hi
  have hbp:=λh=>a9I hI.qu (i:=i) h
  have hpo:=@I9 (poN m k) (C9 (m.cp.getD k default).qu) i
  have hp8:=@A7 m k
  refine vm2 ?_
  refine zcd (λh2=>?_) (λh2=>?_)
  ·have hbq:=hbp J
   refine zgn ?_
   refine s5 (r9 (l1 8 [0,1,2,3,5,6,7,8] mixed a8 Z Z (λr0=>?_) (λ_ h=>h)))
   refine a06 ?_
   first | refine d7 4 Z a8 a8 Z Z Z Z (c8 G Z Z Z Z Z J Y0) ?_ | refine d7 4 Z a8 a8 Z Z Z Z (c8 G Z Z Z Z Z J (by rw [List.length_map,I9,A7];omega)) ?_ | refine d7 4 Z a8 a8 Z Z Z Z (c8 G Z Z Z Z Z J m8) ?_ | refine d7 4 Z a8 a8 Z Z Z Z (c8 G Z Z Z Z Z J J) ?_
   first | refine d7 5 Z a8 a8 Z Z Z Z (j9 G Z Z Z Z Z (a2D J) Z) ?_ | refine d7 5 Z a8 a8 Z Z Z Z (j9 G Z Z Z Z Z (B6 J (by rw [I9,A7];omega)) Z) ?_ | refine d7 5 Z a8 a8 Z Z Z Z (j9 G Z Z Z Z Z (B6 J J) Z) ?_
   refine b6 (rs:=[6]) a8 Z (AllB.cons ?_ AllB.nil)
   first | refine f7 [0,1,2,3,5,6,7,8] Z Z (b5 Z Z (c8 G Z Z Z Z Z J Y0) (b4 ⟨Z,?_⟩)) | refine f7 [0,1,2,3,5,6,7,8] Z Z (b5 Z Z (c8 G Z Z Z Z Z J (by rw [List.length_map,I9,A7];omega)) (b4 ⟨Z,?_⟩)) | refine f7 [0,1,2,3,5,6,7,8] Z Z (b5 Z Z (c8 G Z Z Z Z Z J m8) (b4 ⟨Z,?_⟩)) | refine f7 [0,1,2,3,5,6,7,8] Z Z (b5 Z Z (c8 G Z Z Z Z Z J J) (b4 ⟨Z,?_⟩))
   refine b6 (rs:=[7]) a8 Z (AllB.cons ?_ AllB.nil)
   first | refine f7 [0,1,2,3,5,6,7,8] Z Z (l8 G Z Z Z Z Z (a2D J) Z Z Z Z Z (Nat.le_of_ble_eq_true Z) Z (b4 ⟨Z,?_⟩)) | refine f7 [0,1,2,3,5,6,7,8] Z Z (l8 G Z Z Z Z Z (B6 J (by rw [I9,A7];omega)) Z Z Z Z Z (Nat.le_of_ble_eq_true Z) Z (b4 ⟨Z,?_⟩)) | refine f7 [0,1,2,3,5,6,7,8] Z Z (l8 G Z Z Z Z Z (B6 J J) Z Z Z Z Z (Nat.le_of_ble_eq_true Z) Z (b4 ⟨Z,?_⟩))
   refine G9 ?_
   refine zgo ?_
   refine ⟨(i+1),?_,?_,⟨⟨_,Z,by rfl⟩,Z,trivial⟩,⟨⟨_,Z,by (first | rfl | (exact congrArg (λz=>Row.row _ _ z) (a14 J)) | (exact congrArg (λz=>Row.nest _ _ z []) (a15 J Z)) | (exact congrArg (λz=>Row.row _ _ z) b69) | (obtain rfl:i=(C9 (m.cp.getD k default).qu).length:=J;rfl))⟩,Z,Z,trivial⟩,Z,Z,Z⟩
   ·omega
   omega
  refine zgo ?_
  apply C6 [1,2,3,4] [0,1,2,3,4,6,7,10] 11 12 [0,1,2,3,4,6,8] mixed a8 Z Z (λ_ h=>znk h)
  ·intro r0
   refine zsa 0 ?_
   refine zsa 2 ?_
   refine zsa 3 ?_
   refine zsa 4 ?_
   refine zsa 5 ?_
   refine d7 6 Z a8 a8 Z Z Z Z (a0Z G Z Z Z Z) (d7 7 Z a8 a8 Z Z Z Z (U7 G Z Z Z Z) (b6 (rs:=[1,8]) a8 Z (AllB.cons ?_ (AllB.cons ?_ AllB.nil))))
   ·refine f8 [0,1,2,3,4,6,8] Z Z ?_
    refine R9 ?_
    refine b6 (rs:=[8]) a8 Z (AllB.cons ?_ AllB.nil)
    refine f8 [0,1,2,3,4,6,8] Z Z (o8 G 10 Z Z Z Z Z Z Z Z (b4 ⟨Z,?_⟩))
    exact c4K
   refine f8 [0,1,2,3,4,6,8] Z Z (o8 G 10 Z Z Z Z Z Z Z Z (b4 ⟨Z,?_⟩))
   refine b6 (rs:=[1]) a8 Z (AllB.cons ?_ AllB.nil)
   refine f8 [0,1,2,3,4,6,8] Z Z ?_
   refine R9 ?_
   exact c4K
  apply C6 [1,2,3,4] [0,1,2,3,4,7,10,13] 14 13 [0,1,2,3,4,10] mixed a8 Z Z (λ_ h=>znk h)
  ·intro r0
   refine zsa 0 ?_
   refine zsa 2 ?_
   refine zsa 3 ?_
   refine zsa 4 ?_
   refine zsa 5 ?_
   refine d7 6 Z a8 a8 Z Z Z Z (a0Z G Z Z Z Z) (d7 7 Z a8 a8 Z Z Z Z (U7 G Z Z Z Z) (b6 (rs:=[1,8]) a8 Z (AllB.cons ?_ (AllB.cons ?_ AllB.nil))))
   ·refine f8 [0,1,2,3,4,10] Z Z ?_
    refine R9 ?_
    refine b6 (rs:=[8]) a8 Z (AllB.cons ?_ AllB.nil)
    refine f8 [0,1,2,3,4,10] Z Z (d3 12 Z Z Z (ArgsOK.of Z) (H8 _ J) Z Z (b4 ⟨Z,?_⟩))
    exact c5c
   refine f8 [0,1,2,3,4,10] Z Z (d3 12 Z Z Z (ArgsOK.of Z) (H8 _ J) Z Z (b4 ⟨Z,?_⟩))
   refine b6 (rs:=[1,9]) a8 Z (AllB.cons ?_ (AllB.cons ?_ AllB.nil))
   ·refine f8 [0,1,2,3,4,10] Z Z ?_
    refine R9 ?_
    exact c5c
   refine f8 [0,1,2,3,4,10] Z Z (A9 G 13 Z Z Z Z Z Z Z Z (.own Z .nil) Z Z Z Z (b4 ⟨Z,?_⟩))
   refine b6 (rs:=[1]) a8 Z (AllB.cons ?_ AllB.nil)
   refine f8 [0,1,2,3,4,10] Z Z ?_
   refine R9 ?_
   exact c4E
  refine a3K ?_
  refine s6 (Gh.sub 10 5 np Z Z Z) (s6 (Gh.sub 13 6 np Z Z Z) (b4 ⟨(k+1),?_,?_,⟨⟨_,Z,by rfl⟩,Z,trivial⟩,⟨⟨_,Z,by (first | rfl | (exact congrArg (λz=>Row.row _ _ z) (a14 J)) | (exact congrArg (λz=>Row.nest _ _ z []) (a15 J Z)) | (exact congrArg (λz=>Row.row _ _ z) b69) | (obtain rfl:i=(C9 (m.cp.getD k default).qu).length:=J;rfl))⟩,Z,Z,⟨⟨_,Z,by (first | rfl | (exact congrArg (λz=>Row.row _ _ z) (a14 J)) | (exact congrArg (λz=>Row.nest _ _ z []) (a15 J Z)) | (exact congrArg (λz=>Row.row _ _ z) b69) | (obtain rfl:i=(C9 (m.cp.getD k default).qu).length:=J;rfl))⟩,Z,Z,⟨⟨_,Z,by (first | rfl | (exact congrArg (λz=>Row.row _ _ z) (a14 J)) | (exact congrArg (λz=>Row.nest _ _ z []) (a15 J Z)) | (exact congrArg (λz=>Row.row _ _ z) b69) | (obtain rfl:i=(C9 (m.cp.getD k default).qu).length:=J;rfl))⟩,Z,Z,trivial⟩⟩⟩,Z,Z,Z⟩))
  ·omega
  omega
 refine zgo ?_
 refine d8 (p4 Z Z Z Z (b3 (c7 Z ?_) (b3 (c7 Z ?_) (b3 (c7 Z ?_) (b3 (c7 Z ?_) (b3 (A1 Z ?_) d9))))))
 all_goals (first | rfl | (obtain rfl:k=m.cp.length:=J;first | rfl | (rw [b4r (Nat.le_refl _)];rfl)) | simp)
theorem a5E (m:Mach) (hM:MaG m) (hs:SmallM m):Ctr Tryz.prog 119 [.agg [.lst 2 (m.rs.map p8),.lst 1 (m.en.map n7),.lst 1 (m.ra.map n7),.nst none 4 (m.cp.map (r4 104 76))]] (.shp true [some 5] [.fr 4 1 ((w9 m).en.map n7),.fr 4 1 ((w9 m).ra.map n7),.fr 4 1 ((w9 m).po.map n7),.fr 3 1 ((w9 m).ma.map Rf.r5),.ne 68 1 ((w9 m).st.map a69)]):=by
 have f1:=hM.n
 have f2:=hM.en
 have f3:=hM.ra
 have f4:=hM.rn
 refine Ctr.of (n:=57) G Tryz.func119 Z Y Z Z Z (λw0=>?_)
 refine m7 0 Z (λ_=>Z) (λu0=>?_)
 refine c6 (λK1 hK1=>?_)
 refine b7 (a7 Z (B1 1 Z Z Z Z Z Z Z (a7 Z (d6 G 2 Z Z Z Z Z (b4 (hK1 _ ?_))))))
 clear hK1 K1
 refine c6 (λK2 hK2=>?_)
 refine l1 14 [0,1] mixed Y Z Z (λr0=>?_) (λ_ h=>h)
 refine d7 1 Z Y Y Z Z Z Z (d5 G Z Z Z Z) (d7 2 Z Y Y Z Z Z Z (a62 (i8 G Z Z Z Z Z Z Z)) (d7 5 Z Y Y Z Z Z Z (d5 G Z Z Z Z) (d7 6 Z Y Y Z Z Z Z (a62 (i8 G Z Z Z Z Z Z Z)) ?_)))
 refine A4 (N:=8) Z (s7 (fuel:=4) [⟨0,8,2,false,.row 4 1 []⟩,⟨4,12,3,false,.row 4 1 []⟩,⟨8,16,4,false,.row 4 1 (List.replicate 8 [.bool false])⟩,⟨9,17,5,false,.row 3 1 []⟩,⟨10,18,6,false,.row 68 1 []⟩,⟨12,3,7,true,.box (avR [.slice none 0 0,.slice none 0 0,.slice none 0 0,.slice none 0 0,.slice none 0 0] [])⟩] (AllVOK.cons (VOK.lit G Z Z Z Z Z) (AllVOK.cons (VOK.lit G Z Z Z Z Z) (AllVOK.cons (VOK.make (n:=8) G Z Z Z Z Z (by decide) (by decide)) (AllVOK.cons (VOK.lit G Z Z Z Z Z) (AllVOK.cons (VOK.lit G Z Z Z Z Z) (AllVOK.cons (VOK.boxS G Z Z Z Z Z) (AllVOK.nil))))))) (λhok=>?_))
 refine n6 [(3,[0])] Y Y (λe he=>hok e he) Y (AllVS.cons ?_ AllVS.nil)
 refine VStep.mk1 [0,1] 8 (.own 2) 2 (.row 4 1 []) [⟨4,12,3,false,.row 4 1 []⟩,⟨8,16,4,false,.row 4 1 (List.replicate 8 [.bool false])⟩,⟨9,17,5,false,.row 3 1 []⟩,⟨10,18,6,false,.row 68 1 []⟩,⟨12,3,7,true,.box (avR [.slice none 0 0,.slice none 0 0,.slice none 0 0,.slice none 0 0,.slice none 0 0] [])⟩] Z Z Z Z Z (λb1 _ hbn=>j8 G (by rw [hbn];exact Nat.le_of_ble_eq_true Z) Z Z Z Z Z Z Z Z Z (by first | (simp only [List.length_map,List.length_cons,List.length_nil];omega) | (simp;omega)) Z Z (b4 Z)) Y Y Y Y ?_
 refine n6 [(7,[4])] Y Y (λe he=>hok e (vin (is:=[0]) Z he)) Y (AllVS.cons ?_ AllVS.nil)
 refine VStep.mk1 [0,1] 12 (.own 3) 3 (.row 4 1 []) [⟨8,16,4,false,.row 4 1 (List.replicate 8 [.bool false])⟩,⟨9,17,5,false,.row 3 1 []⟩,⟨10,18,6,false,.row 68 1 []⟩,⟨12,3,7,true,.box (avR [.slice none 0 0,.slice none 0 0,.slice none 0 0,.slice none 0 0,.slice none 0 0] [])⟩] Z Z Z Z Z (λb1 _ hbn=>j8 G (by rw [hbn];exact Nat.le_of_ble_eq_true Z) Z Z Z Z Z Z Z Z Z (by first | (simp only [List.length_map,List.length_cons,List.length_nil];omega) | (simp;omega)) Z Z (b4 Z)) Y Y Y Y ?_
 refine n6 [(11,[8,9,10])] Y Y (λe he=>hok e (vin (is:=[0,4]) Z he)) Y (AllVS.cons ?_ AllVS.nil)
 refine VStep.mk3 [0,1] 16 (.own 4) 4 (.row 4 1 (List.replicate 8 [.bool false])) 17 (.own 5) 5 (.row 3 1 []) 18 (.own 6) 6 (.row 68 1 []) [⟨12,3,7,true,.box (avR [.slice none 0 0,.slice none 0 0,.slice none 0 0,.slice none 0 0,.slice none 0 0] [])⟩] Z Z Z Z Z (λb1 _ hbn=>b5 Z Z (w3 G Z Z Z Z) (b4 Z)) Y Y Y Y ?_
 refine n6 [(13,[12])] Y Y (λe he=>hok e (vin (is:=[0,4,8,9,10]) Z he)) Y (AllVS.cons ?_ AllVS.nil)
 refine VStep.mk1 [0,1] 3 (.ptr 7 0) 7 (.box (avR [.slice none 0 0,.slice none 0 0,.slice none 0 0,.slice none 0 0,.slice none 0 0] [])) [] Z Z Z Z Z (λb1 _ hbn=>e9 G Z Z Z Z Z Z Z Z Z Z Z (b4 Z)) Y Y Y Y (G7 ?_)
 clear hok
 refine a3T (Gh.nest (id:=6) (yss:=[]) Z Z (by intro _ _ _ h;simp at h)) (E5 Y (hK2 _ ?_))
 clear hK2 K2
 refine c6 (λK3 hK3=>?_)
 refine c6 (λK4 hK4=>?_)
 refine b7 (a7 Z (b5 Z Z (d5 G Z Z Z Z) (a7 Z (b5 Z Z (b8E (i8 G Z Z Z Z Z Z Z)) (a7 Z ?_)))))
 first | refine b5 Z Z (R6 G Z Z Z Z (List.length_map _)) ?_ | refine b5 Z Z (a0T G Z Z Z Z) ?_
 refine a7 Z (b5 Z Z (b8 Z Z) (b4 (hK4 _ ?_)))
 clear hK4 K4
 refine r9 ?_
 refine g9 [2,3,21,22] [1,2,3,7] (λ(k:Nat)=>[(23,.v (.int .i64 (k:Int)))]) (λ(k:Nat)=>[(4,some (.row 4 1 ((poN m k).map n7))),(5,some (.row 3 1 (((m.cp.map (λx=>x.ma)).take k).map Rf.r5))),(6,some (.nest 68 1 (((m.cp.map (λx=>x.st)).take k).map a69) []))]) (λ(k:Nat)=>k<=m.cp.length) (λ(k:Nat)=>m.cp.length - k) 0 Z Z ?_ ?_ ?_ ?_
 ·exact R3
 ·exact a88
 ·exact c4r
 ·intro k hk
  have hp8:=@A7 m k
  have hm1:(m.cp.map (λx=>x.ma)).length=m.cp.length:=List.length_map _
  have hm2:(m.cp.map (λx=>x.st)).length=m.cp.length:=List.length_map _
  simp only [List.cons_append,List.nil_append]
  refine c6 (λK5 hK5=>?_)
  refine b7 (a7 Z (b5 Z Z (w4 Z Z Z Z) (b4 (hK5 _ ?_))))
  clear hK5 K5
  refine c6 (λK6 hK6=>?_)
  refine l4 Z (λh1=>?_) (λh1=>?_)
  ·try rw [h1]
   try simp only [rfb] at h1
   have hI:=(hM.ok k J).f
   have hsn:=hI.sn
   have hpl:=a22 hI.qu
   refine r8 (hK6 _ ?_)
   clear hK6 K6
   refine c6 (λK7 hK7=>?_)
   refine r9 ?_
   refine c6 (λK8 hK8=>?_)
   refine b7 (a7 Z ?_)
   first | refine b5 Z Z (H6 G Z Z Z Z J (a2D J) Z) ?_ | refine b5 Z Z (H6 G Z Z Z Z J (F9 J J) Z) ?_ | refine b5 Z Z (H6 G Z Z Z Z J (B6 J J) Z) ?_
   refine a7 Z (b5 Z Z (T7 G Z Z Z Z) (a7 Z (d6 G 9 Z Z Z Z Z (a7 Z (a7B 26 Z (λ_=>Z) λv26=>e9 G Z Z Z Z Z Z Z Z Z Z Z (b4 (hK8 _ ?_)))))))
   clear hK8 K8
   refine c6 (λK9 hK9=>?_)
   refine b7 (a7 Z (b5 Z Z (d5 G Z Z Z Z) (a7 Z (b5 Z Z (i8 G Z Z Z Z Z Z Z) (a7 Z (b5 Z Z (d5 G Z Z Z Z) (a7 Z (b5 Z Z (i8 G Z Z Z Z Z Z Z) (a7 Z (o8 G 10 Z Z Z Z Z Z Z Z (a7 Z ?_)))))))))))
   refine I3 (Gh.forget (id:=7) (k:=3) Z Z)<|I3 (Gh.keep [1,2,3,4,5,6,7,8,9] Z)<|j8 G np rfl rfl rfl rfl rfl rfl rfl rfl rfl (by first | (simp only [List.length_map,List.length_cons,List.length_nil];omega) | (simp;omega)) rfl rfl ?_
   refine a7 Z (b5 Z Z (d5 G Z Z Z Z) (a7 Z (e9 G Z Z Z Z Z Z Z Z Z Z Z (b4 (hK9 _ ?_)))))
   clear hK9 K9
   refine c6 (λK10 hK10=>?_)
   apply C6 [2,3,5,21,22,23] [1,2,3,4,5,7,8,12] 13 9 [1,2,3,4,5,8,9] mixed Y Z Z hK10
   ·intro r0
    refine d7 0 Z Y Y Z Z Z Z (d5 G Z Z Z Z) (d7 2 Z Y Y Z Z Z Z (d5 G Z Z Z Z) (d7 3 Z Y Y Z Z Z Z (a62 (i8 G Z Z Z Z Z Z Z)) ?_))
    refine b6 (rs:=[1,4]) Y Z (AllB.cons ?_ (AllB.cons ?_ AllB.nil))
    ·refine f7 [1,2,3,4,5,8,9] Z Z (b5 Z Z (i8 G Z Z Z Z Z Z Z) (b4 ⟨Z,?_⟩))
     refine b6 (rs:=[4]) Y Z (AllB.cons ?_ AllB.nil)
     refine f7 [1,2,3,4,5,8,9] Z Z (d3 11 Z Z Z (ArgsOK.of Z) (E9 _ J) Z Z (b4 ⟨Z,?_⟩))
     exact c5b
    ·refine f7 [1,2,3,4,5,8,9] Z Z (d3 11 Z Z Z (ArgsOK.of Z) (E9 _ J) Z Z (b4 ⟨Z,?_⟩))
     refine b6 (rs:=[1,5]) Y Z (AllB.cons ?_ (AllB.cons ?_ AllB.nil))
     ·refine f7 [1,2,3,4,5,8,9] Z Z (b5 Z Z (i8 G Z Z Z Z Z Z Z) (b4 ⟨Z,?_⟩))
      exact c5b
     ·refine f7 [1,2,3,4,5,8,9] Z Z (A9 G 12 Z Z Z Z Z Z Z Z (.own Z .nil) Z Z Z Z (b4 ⟨Z,?_⟩))
      refine b6 (rs:=[1]) Y Z (AllB.cons ?_ AllB.nil)
      refine f7 [1,2,3,4,5,8,9] Z Z (b5 Z Z (i8 G Z Z Z Z Z Z Z) (b4 ⟨Z,?_⟩))
      exact c4B
   ·clear hK10 K10
    refine c6 (λK11 hK11=>?_)
    refine b7 (a7 Z (b5 Z Z (d5 G Z Z Z Z) (a7 Z (b5 Z Z (c1 G Z Z Z Z Z Z) (a7 Z (d3 14 Z Z Z (ArgsOK.of Z) (U5 (m.cp.getD k default).qu hI.qu) Z Z (a7 Z ?_)))))))
    first | refine b5 Z Z (R6 G Z Z Z Z (List.length_map _)) ?_ | refine b5 Z Z (a0T G Z Z Z Z) ?_
    refine a7 Z (b5 Z Z (b8 Z Z) (b4 (hK11 _ ?_)))
    clear hK11 K11
    refine r9 ?_
    refine g9 [2,3,21,22,23,44,45] [1,2,3,5,7,12,13] (λ(i:Nat)=>[(46,.v (.int .i64 (i:Int)))]) (λ(i:Nat)=>[(4,some (.row 4 1 ((b29 (poN m k) (C9 (m.cp.getD k default).qu) i).map n7)))]) (λ(i:Nat)=>i<=(C9 (m.cp.getD k default).qu).length) (λ(i:Nat)=>(C9 (m.cp.getD k default).qu).length - i) 0 Z Z ?_ ?_ ?_ ?_
    ·exact R3
    ·exact a88
    ·exact a1M
    ·intro i hi
     have hbp:=λh=>a9I hI.qu (i:=i) h
     have hpo:=@I9 (poN m k) (C9 (m.cp.getD k default).qu) i
     have hp8:=@A7 m k
     simp only [List.cons_append,List.nil_append]
     refine c6 (λK12 hK12=>?_)
     refine b7 (a7 Z (b5 Z Z (w4 Z Z Z Z) (b4 (hK12 _ ?_))))
     clear hK12 K12
     refine c6 (λK13 hK13=>?_)
     refine l4 Z (λh2=>?_) (λh2=>?_)
     ·try rw [h2]
      try simp only [rfb] at h2
      have hbq:=hbp J
      refine r8 (hK13 _ ?_)
      clear hK13 K13
      refine c6 (λK14 hK14=>?_)
      refine r9 ?_
      refine c6 (λK15 hK15=>?_)
      refine b7 (a7 Z ?_)
      first | refine b5 Z Z (c8 G Z Z Z Z Z J (by rw [List.length_map];omega)) ?_ | refine b5 Z Z (c8 G Z Z Z Z Z J (by rw [List.length_map,I9,A7];omega)) ?_ | refine b5 Z Z (c8 G Z Z Z Z Z J (by simp;omega)) ?_ | refine b5 Z Z (c8 G Z Z Z Z Z J J) ?_
      refine a7 Z ?_
      first | refine b5 Z Z (j9 G Z Z Z Z Z (a2D J) Z) ?_ | refine b5 Z Z (j9 G Z Z Z Z Z (B6 J (by rw [I9,A7];omega)) Z) ?_ | refine b5 Z Z (j9 G Z Z Z Z Z (B6 J J) Z) ?_
      refine a7 Z (b5 Z Z (b9 Z Z) (b4 (hK15 _ ?_)))
      clear hK15 K15
      refine b7 (a7 Z (b5 Z Z (d5 G Z Z Z Z) (a7 Z (b5 Z Z (i8 G Z Z Z Z Z Z Z) (a7 Z (b5 Z Z (b8 Z Z) (a7 Z ?_)))))))
      first | refine b5 Z Z (c8 G Z Z Z Z Z J (by rw [List.length_map];omega)) ?_ | refine b5 Z Z (c8 G Z Z Z Z Z J (by rw [List.length_map,I9,A7];omega)) ?_ | refine b5 Z Z (c8 G Z Z Z Z Z J (by simp;omega)) ?_ | refine b5 Z Z (c8 G Z Z Z Z Z J J) ?_
      refine a7 Z ?_
      first | refine l8 G Z Z Z Z Z (a2D J) Z Z Z Z Z (Nat.le_of_ble_eq_true Z) Z ?_ | refine l8 G Z Z Z Z Z (B6 J (by rw [I9,A7];omega)) Z Z Z Z Z (Nat.le_of_ble_eq_true Z) Z ?_ | refine l8 G Z Z Z Z Z (B6 J J) Z Z Z Z Z (Nat.le_of_ble_eq_true Z) Z ?_
      refine b4 (hK14 _ ?_)
      clear hK14 K14
      refine b7 (a7 Z ?_)
      first | refine b5 Z Z (r3 Z Z Z Z J J) ?_ | refine b5 Z Z (t7 Z Z Z Z) ?_
      refine a7 Z (b5 Z Z (b8 Z Z) ?_)
      refine b4 ⟨(i+1),?_,?_,⟨⟨_,Z,by rfl⟩,Z,trivial⟩,⟨⟨_,Z,by (first | rfl | (exact congrArg (λz=>Row.row _ _ z) (a14 J)) | (exact congrArg (λz=>Row.nest _ _ z []) (a15 J Z)) | (exact congrArg (λz=>Row.row _ _ z) (by rw [a0k,List.map_set];rfl)) | (obtain rfl:i=(C9 (m.cp.getD k default).qu).length:=J;rfl))⟩,Z,Z,trivial⟩,Z,Z,Z⟩
      ·omega
      ·omega
     ·try rw [h2]
      try simp only [rfb] at h2
      refine R5 (hK7 _ ?_)
      clear hK13 K13 hK7 K7
      refine b7 (a7 Z ?_)
      first | refine b5 Z Z (r3 Z Z Z Z J J) ?_ | refine b5 Z Z (t7 Z Z Z Z) ?_
      refine a7 Z (b5 Z Z (b8 Z Z) (s6 (Gh.sub 12 6 np Z Z Z) ?_))
      refine b4 ⟨(k+1),?_,?_,⟨⟨_,Z,by rfl⟩,Z,trivial⟩,⟨⟨_,Z,by (first | rfl | (exact congrArg (λz=>Row.row _ _ z) (a14 J)) | (exact congrArg (λz=>Row.nest _ _ z []) (a15 J Z)) | (exact congrArg (λz=>Row.row _ _ z) (by rw [a0k,List.map_set];rfl)) | (obtain rfl:i=(C9 (m.cp.getD k default).qu).length:=J;rfl))⟩,Z,Z,⟨⟨_,Z,by (first | rfl | (exact congrArg (λz=>Row.row _ _ z) (a14 J)) | (exact congrArg (λz=>Row.nest _ _ z []) (a15 J Z)) | (exact congrArg (λz=>Row.row _ _ z) (by rw [a0k,List.map_set];rfl)) | (obtain rfl:i=(C9 (m.cp.getD k default).qu).length:=J;rfl))⟩,Z,Z,⟨⟨_,Z,by (first | rfl | (exact congrArg (λz=>Row.row _ _ z) (a14 J)) | (exact congrArg (λz=>Row.nest _ _ z []) (a15 J Z)) | (exact congrArg (λz=>Row.row _ _ z) (by rw [a0k,List.map_set];rfl)) | (obtain rfl:i=(C9 (m.cp.getD k default).qu).length:=J;rfl))⟩,Z,Z,trivial⟩⟩⟩,Z,Z,Z⟩
      ·omega
      ·omega
  ·try rw [h1]
   try simp only [rfb] at h1
   refine R5 (hK3 _ ?_)
   clear hK6 K6 hK3 K3
   refine c6 (λK16 hK16=>?_)
   refine b7 (a7 Z (b5 Z Z (c1 G Z Z Z Z Z Z) (a7 Z (e9 G Z Z Z Z Z Z Z Z Z Z Z (b4 (hK16 _ ?_))))))
   clear hK16 K16
   refine d8 (p4 Z Z Z Z (b3 (c7 Z ?_) (b3 (c7 Z ?_) (b3 (c7 Z ?_) (b3 (c7 Z ?_) (b3 (A1 Z ?_) d9))))))
   all_goals (first | rfl | (obtain rfl:k=m.cp.length:=J;first | rfl | (rw [b4r (Nat.le_refl _)];rfl)) | simp)
theorem b3A (m:Mach) (w:ByteArray) (l:List Int) (hs:SmallM m) (hM:W0 m=true) (hl:a2p (m9 w)=l.length) (hk:(a0E (m9 w) l).2=false):Ctr Tryz.prog 76 [.agg [.lst 2 (m.rs.map p8),.lst 1 (m.en.map n7),.lst 1 (m.ra.map n7),.nst none 4 (m.cp.map (r4 104 76))],.v (.string w),.lst 1 (l.map Rf.r5)] (.many [.v (.string (a4K m (m9 w) l).1),.v (.bool (a4K m (m9 w) l).2)]):=by
 have hG:=(maF hM).g
 have hra:=hG.ra
 have hcp:=hs.cp
 have hrl:=@a7w (λi=>m.ra.getD i default) 8
 have hkn:=c6h hk
 refine Ctr.of (n:=69) G Tryz.func76 Z a8 Z Z Z (λw0=>?_)
 refine m7 0 Z (λ_=>Z) (λu0=>?_)
 refine vm1 ?_
 refine W3 ?_
 refine zcd (λh1=>?_) (λh1=>?_)
 ·have k1:=b12.mp h1
  have hO:=b9Q (m:=m) (l:=l) k1
  refine vm3 ?_
  refine b5 Z Z (a9Y Z Z) ?_
  refine p6 ?_
  refine d3 2 Z Z Z (ArgsOK.of Z) (a8A 114 m (λi=>m.ra.getD i default) (λi hi=>b0T (i:Int) m J)) Z Z ?_
  refine zcl (a0Q (raN m) (by unfold raN;omega) (b9O J)) ?_
  exact b3t
 have k1:=mt b12.mpr h1
 refine W3 ?_
 refine zcd (λh2=>?_) (λh2=>?_)
 ·have k2:=b13.mp h2
  refine zcl (b1i m hs hM) ?_
  refine zcd (λh3=>?_) (λh3=>?_)
  ·have hO:=b6M (l:=l) k2 h3
   exact b3t
  have hO:=b6N (l:=l) k2 h3
  exact b3t
 have k2:=mt b13.mpr h2
 have hA:=b9R (m:=m) (l:=l) k1 k2
 have hl1:l.length=1:=c10 hl k1 k2 hkn
 refine zgd ?_
 refine zcl (J0 m (l.getD ((0:Int)).toNat default) hcp) ?_
 refine zcd (λh4=>?_) (λh4=>?_)
 ·have hO:=hA.trans (b6O h4)
  exact b3t
 have hin:=v7.mp h4
 have hcl:(l.getD ((0:Int)).toNat default).toNat < m.cp.length:=J
 have hI:=(hG.ok _ hcl).f
 have hsn:=hI.sn
 have hpl:=a22 hI.qu
 have hnx:=@b0m m.rs (w9 m) (l.getD ((0:Int)).toNat default).toNat
 have cN:=a8C m.rs (w9 m) (l.getD ((0:Int)).toNat default).toNat (b9I hG) (by rw [b6R];exact hcl)
 rw [Int.toNat_of_nonneg J] at cN
 refine zgn ?_
 refine s5 (l1 9 [0] mixed a8 Z Z (λr0=>?_) (λ_ h=>h))
 refine a06 ?_
 refine a8t ?_
 refine b6 (rs:=[7]) a8 Z (AllB.cons ?_ AllB.nil)
 refine f8 [0] Z Z (d6 G 2 Z Z Z Z Z (b4 ⟨Z,?_⟩))
 refine b6 (rs:=[8]) a8 Z (AllB.cons ?_ AllB.nil)
 refine f8 [0] Z Z (a7B 38 Z (λ_=>Z) λv38=>e9 G Z Z Z Z Z Z Z Z Z Z Z (b4 ⟨Z,?_⟩))
 refine G9 ?_
 refine W3 ?_
 refine zcd (λh5=>?_) (λh5=>?_)
 ·have hO:=hA.trans (b6P h4 (b19.mp h5))
  refine vm3 ?_
  refine d3 3 Z Z Z (ArgsOK.of Z) (U5 (m.cp.getD (l.getD ((0:Int)).toNat default).toNat default).qu hI.qu) Z Z ?_
  refine zcl (a0Q (C9 (m.cp.getD (l.getD ((0:Int)).toNat default).toNat default).qu) J (b9S hI.qu)) ?_
  exact b3t
 have k5:=mt b19.mpr h5
 refine W3 ?_
 refine zcd (λh6=>?_) (λh6=>?_)
 ·have hO:=hA.trans (b6Q h4 (b2a.mp h6))
  refine zcl (a0Q (m.cp.getD (l.getD ((0:Int)).toNat default).toNat default).st J (b9T hI)) ?_
  exact b3t
 have k6:=mt b2a.mpr h6
 refine W3 ?_
 refine zcd (λh7=>?_) (λh7=>?_)
 ·have hO:=hA.trans (b4y h4 (a8l.mp h7))
  refine zcl (a8B (m.cp.getD (l.getD ((0:Int)).toNat default).toNat default).qu.sl hI.qu.sl) ?_
  exact b3t
 have k7:=mt a8l.mpr h7
 have k8:m9 w=10:=c11 hl k1 k2 hkn k5 k6 k7
 refine zgn ?_
 refine s5 (s5 (l1 9 [0,1] mixed a8 Z Z (λr0=>?_) (λ_ h=>h)))
 refine zsa 0 ?_
 refine zsa 1 ?_
 refine zsa 2 ?_
 refine a8t ?_
 refine b6 (rs:=[3]) a8 Z (AllB.cons ?_ AllB.nil)
 refine f8 [0,1] Z Z (d3 7 Z Z Z (ArgsOK.of Z) (a5E m hG hs) Z Z (b4 ⟨Z,?_⟩))
 refine b6 (rs:=[7]) a8 Z (AllB.cons ?_ AllB.nil)
 refine f8 [0,1] Z Z (b5 Z Z (i7 Z (ArgsOK.of Z) cN Z) (b4 ⟨Z,?_⟩))
 refine zsa 8 ?_
 refine G9 ?_
 refine zcd (λh8=>?_) (λh8=>?_)
 ·have hO:=hA.trans (b2d h4 k8 h8)
  refine zcl (D0 (A5 m.rs (w9 m) (l.getD ((0:Int)).toNat default).toNat) J J) ?_
  exact b3t
 have hO:=hA.trans (b2c h4 k8 h8)
 exact b3t
theorem b0X (m:Mach) (w:ByteArray) (c:Int) (hs:SmallM m) (hM:W0 m=true):Ctr Tryz.prog 127 [.agg [.lst 2 (m.rs.map p8),.lst 1 (m.en.map n7),.lst 1 (m.ra.map n7),.nst none 4 (m.cp.map (r4 104 76))],.v (.string w),.v (.int .i64 c)] (.one (.v (.string (a4N m (m9 w) c)))):=by
 have hG:=(maF hM).g
 have hcp:=hs.cp
 refine Ctr.of (n:=57) G Tryz.func127 Z a8 Z Z Z (λw0=>?_)
 refine m7 0 Z (λ_=>Z) (λu0=>?_)
 refine vm1 ?_
 refine b3s ?_
 refine zcd (λh1=>?_) (λh1=>?_)
 ·have hO:=c6o (k:=m9 w) h1
  exact b0J
 have hin:=v7.mp h1
 have hcl:(c).toNat < m.cp.length:=J
 have hI:=(hG.ok _ hcl).f
 have hsn:=hI.sn
 have hpl:=a22 hI.qu
 have hnx:=@b0m m.rs (w9 m) (c).toNat
 have cN:=b0V m.rs (w9 m) (c).toNat (b9I hG) (by rw [b6R];exact hcl)
 rw [Int.toNat_of_nonneg J] at cN
 refine W3 ?_
 refine zcd (λh2=>?_) (λh2=>?_)
 ·have hO:=c6p h1 (b19.mp h2)
  refine vm3 ?_
  refine b3q ?_
  refine vm3 ?_
  refine d3 2 Z Z Z (ArgsOK.of Z) (a0p (m.cp.getD (c).toNat default).qu hI.qu) Z Z ?_
  refine zcl (a1J (C9 (m.cp.getD (c).toNat default).qu) J (b9S hI.qu)) ?_
  exact b0J
 have k2:=mt b19.mpr h2
 refine W3 ?_
 refine zcd (λh3=>?_) (λh3=>?_)
 ·have hO:=c6q h1 (b2a.mp h3)
  refine vm3 ?_
  refine b3q ?_
  refine p6 ?_
  refine b74 ?_
  refine zcl (a1J (m.cp.getD (c).toNat default).st J (b9T hI)) ?_
  exact b0J
 have k3:=mt b2a.mpr h3
 refine W3 ?_
 refine zcd (λh4=>?_) (λh4=>?_)
 ·have k4:=b3e.mp h4
  refine s5 (s5 (l1 7 [0] mixed a8 Z Z (λr0=>?_) (λ_ h=>h)))
  refine b77 ?_
  refine b6 (rs:=[3]) a8 Z (AllB.cons ?_ AllB.nil)
  refine f8 [0] Z Z (d3 6 Z Z Z (ArgsOK.of Z) (b0W m hG hs) Z Z (b4 ⟨Z,?_⟩))
  refine b6 (rs:=[5]) a8 Z (AllB.cons ?_ AllB.nil)
  refine f8 [0] Z Z (b5 Z Z (i7 Z (ArgsOK.of Z) cN Z) (b4 ⟨Z,?_⟩))
  refine zsa 6 ?_
  refine G9 ?_
  refine zcd (λh5=>?_) (λh5=>?_)
  ·have hO:=b96 h1 k4 J
   refine zcl (y8 (A5 m.rs (w9 m) (c).toNat) J J) ?_
   exact b0J
  have hO:=b95 h1 k4 J
  exact b0J
 have k4:=mt b3e.mpr h4
 refine W3 ?_
 refine zcd (λh6=>?_) (λh6=>?_)
 ·have hO:=c17 h1 (a8l.mp h6)
  refine vm3 ?_
  refine b3q ?_
  refine p6 ?_
  refine b3q ?_
  refine p6 ?_
  refine b74 ?_
  refine zcl (b1l (m.cp.getD (c).toNat default).qu.sl hI.qu.sl) ?_
  exact b0J
 have hO:=b97 (m:=m) (c:=c) k2 k3 (mt a8l.mpr h6) k4
 exact b0J
theorem a1K (m:Mach) (x:Lg) (hs:SmallM m) (hx:x.d.size+x.p.size<=1048576):Ctr Tryz.prog 33 [.agg [.lst 2 (m.rs.map p8),.lst 1 (m.en.map n7),.lst 1 (m.ra.map n7),.nst none 4 (m.cp.map (r4 104 76)),.v (.string x.d),.v (.string x.p),.v (.int .i64 x.n)]] (.one (.v (.bool (okCo m x)))):=by
 refine Ctr.of (n:=11) G Tryz.func33 Z a8 Z Z Z (λw0=>?_)
 refine m7 0 Z (λ_=>Z) (λu0=>?_)
 refine vm1 ?_
 refine zcl (a43 m hs) ?_
 refine zcd (λh1=>?_) (λh1=>?_)
 ·refine zcl (a2t x hx) ?_
  exact c0G
 exact c0G
theorem N9 (m:Mach) (x:Lg) (hs:SmallM m) (hx:x.d.size+x.p.size<=1048576):Ctr Tryz.prog 17 [.agg [.lst 2 (m.rs.map p8),.lst 1 (m.en.map n7),.lst 1 (m.ra.map n7),.nst none 4 (m.cp.map (r4 104 76)),.v (.string x.d),.v (.string x.p),.v (.int .i64 x.n)]] (.one (.v (.bool (okCo m x)))):=by
 refine Ctr.of (n:=11) G Tryz.func17 Z a8 Z Z Z (λw0=>?_)
 refine m7 0 Z (λ_=>Z) (λu0=>?_)
 refine vm1 ?_
 refine zcl (a0q m hs) ?_
 refine zcd (λh1=>?_) (λh1=>?_)
 ·refine zcl (Y7 x hx) ?_
  exact c0G
 exact c0G
theorem a9u (m:Mach) (hs:SmallM m):Ctr Tryz.prog 79 [.agg [.lst 2 (m.rs.map p8),.lst 1 (m.en.map n7),.lst 1 (m.ra.map n7),.nst none 4 (m.cp.map (r4 104 76))]] (.shp true [some 4] [.fr 132 2 (m.rs.map p8),.fr 4 1 (m.en.map n7),.fr 4 1 (m.ra.map n7),.ne 74 4 (m.cp.map (r4 104 76))]):=by
 have z0:=hs.rs
 have z1:=hs.en
 have z2:=hs.ra
 have z3:=hs.cp
 refine Ctr.of (n:=38) G Tryz.func79 Z a8 Z Z Z (λw0=>?_)
 refine m7 0 Z (λ_=>Z) (λu0=>?_)
 refine vm1 ?_
 refine vm9 ?_
 refine zgn ?_
 refine s5 (l1 16 [0,1] mixed a8 Z Z (λr0=>?_) (λ_ h=>h))
 refine zsa 1 ?_
 refine zsa 2 ?_
 refine zsa 5 ?_
 refine zsa 6 ?_
 refine zsa 9 ?_
 refine zsa 10 ?_
 refine A4 (N:=7) Z (s7 (fuel:=5) [⟨0,5,2,false,.row 132 2 []⟩,⟨4,9,3,false,.row 4 1 []⟩,⟨8,13,4,false,.row 4 1 []⟩,⟨12,17,5,false,.row 74 4 []⟩,⟨14,3,6,true,.box (avR [.slice none 0 0,.slice none 0 0,.slice none 0 0,.slice none 0 0] [])⟩] (AllVOK.cons (VOK.lit G Z Z Z Z Z) (AllVOK.cons (VOK.lit G Z Z Z Z Z) (AllVOK.cons (VOK.lit G Z Z Z Z Z) (AllVOK.cons (VOK.lit G Z Z Z Z Z) (AllVOK.cons (VOK.boxS G Z Z Z Z Z) (AllVOK.nil)))))) (λhok=>?_))
 refine n6 [(3,[0])] a8 a8 (λe he=>hok e he) a8 (AllVS.cons ?_ AllVS.nil)
 refine VStep.mk1 [0,1] 5 (.own 2) 2 (.row 132 2 []) [⟨4,9,3,false,.row 4 1 []⟩,⟨8,13,4,false,.row 4 1 []⟩,⟨12,17,5,false,.row 74 4 []⟩,⟨14,3,6,true,.box (avR [.slice none 0 0,.slice none 0 0,.slice none 0 0,.slice none 0 0] [])⟩] Z Z Z Z Z (λb1 _ hbn=>j8 G S8 Z Z Z Z Z Z Z Z Z J9 Z Z (b4 Z)) a8 a8 a8 a8 (n6 [(7,[4])] a8 a8 (λe he=>hok e (vin (is:=[0]) Z he)) a8 (AllVS.cons ?_ AllVS.nil))
 refine VStep.mk1 [0,1] 9 (.own 3) 3 (.row 4 1 []) [⟨8,13,4,false,.row 4 1 []⟩,⟨12,17,5,false,.row 74 4 []⟩,⟨14,3,6,true,.box (avR [.slice none 0 0,.slice none 0 0,.slice none 0 0,.slice none 0 0] [])⟩] Z Z Z Z Z (λb1 _ hbn=>j8 G S8 Z Z Z Z Z Z Z Z Z J9 Z Z (b4 Z)) a8 a8 a8 a8 (n6 [(11,[8])] a8 a8 (λe he=>hok e (vin (is:=[0,4]) Z he)) a8 (AllVS.cons ?_ AllVS.nil))
 refine VStep.mk1 [0,1] 13 (.own 4) 4 (.row 4 1 []) [⟨12,17,5,false,.row 74 4 []⟩,⟨14,3,6,true,.box (avR [.slice none 0 0,.slice none 0 0,.slice none 0 0,.slice none 0 0] [])⟩] Z Z Z Z Z (λb1 _ hbn=>j8 G S8 Z Z Z Z Z Z Z Z Z J9 Z Z (b4 Z)) a8 a8 a8 a8 (n6 [(13,[12])] a8 a8 (λe he=>hok e (vin (is:=[0,4,8]) Z he)) a8 (AllVS.cons ?_ AllVS.nil))
 refine VStep.mk1 [0,1] 17 (.own 5) 5 (.row 74 4 []) [⟨14,3,6,true,.box (avR [.slice none 0 0,.slice none 0 0,.slice none 0 0,.slice none 0 0] [])⟩] Z Z Z Z Z (λb1 _ hbn=>b5 Z Z (w3 G Z Z Z Z) (b4 Z)) a8 a8 a8 a8 (n6 [(15,[14])] a8 a8 (λe he=>hok e (vin (is:=[0,4,8,12]) Z he)) a8 (AllVS.cons ?_ AllVS.nil))
 refine c61 ?_
 clear hok
 refine c7b ?_
 refine g9 [1,2,3] [0,1,2,3,4,6] (λ(k:Nat)=>[(4,.v (.int .i64 (k:Int)))]) (λ(k:Nat)=>[(5,some (.nest 74 4 ((m.cp.take k).map (r4 104 76)) []))]) (λ(k:Nat)=>k<=m.cp.length) (λ(k:Nat)=>m.cp.length - k) 0 Z Z ?_ ?_ ?_ ?_
 ·exact R3
 ·exact a88
 ·exact a1M
 intro k hk
 have hkl:((m.cp.take k).map (r4 104 76)).length=k:=c0u
 refine vm2 ?_
 refine zcd (λh1=>?_) (λh1=>?_)
 ·have g0:=hs.allI (i:=k) J
  unfold szI at g0
  exact c9c
 obtain rfl:k=m.cp.length:=J
 refine zgo ?_
 refine d8 (p4 Z Z Z Z (b3 (c7 Z ?_) (b3 (c7 Z ?_) (b3 (c7 Z ?_) (b3 (A1 Z ?_) d9)))))
 all_goals exact c6Y
theorem a5F (m:Mach) (hs:SmallM m):Ctr Tryz.prog 70 [.agg [.lst 2 (m.rs.map p8),.lst 1 (m.en.map n7),.lst 1 (m.ra.map n7),.nst none 4 (m.cp.map (r4 104 76))]] (.shp true [some 4] [.fr 132 2 (m.rs.map p8),.fr 4 1 (m.en.map n7),.fr 4 1 (m.ra.map n7),.ne 74 4 (m.cp.map (r4 104 76))]):=by
 have z0:=hs.rs
 have z1:=hs.en
 have z2:=hs.ra
 have z3:=hs.cp
 refine Ctr.of (n:=36) G Tryz.func70 Z a8 Z Z Z (λw0=>?_)
 refine m7 0 Z (λ_=>Z) (λu0=>?_)
 refine vm1 ?_
 refine vm9 ?_
 refine zgn ?_
 refine s5 (l1 16 [0,1] mixed a8 Z Z (λr0=>?_) (λ_ h=>h))
 refine zsa 1 ?_
 refine zsa 2 ?_
 refine zsa 5 ?_
 refine zsa 6 ?_
 refine zsa 9 ?_
 refine zsa 10 ?_
 refine A4 (N:=7) Z (s7 (fuel:=5) [⟨0,6,2,false,.row 132 2 []⟩,⟨4,10,3,false,.row 4 1 []⟩,⟨8,14,4,false,.row 4 1 []⟩,⟨12,18,5,false,.row 74 4 []⟩,⟨14,3,6,true,.box (avR [.slice none 0 0,.slice none 0 0,.slice none 0 0,.slice none 0 0] [])⟩] (AllVOK.cons (VOK.lit G Z Z Z Z Z) (AllVOK.cons (VOK.lit G Z Z Z Z Z) (AllVOK.cons (VOK.lit G Z Z Z Z Z) (AllVOK.cons (VOK.lit G Z Z Z Z Z) (AllVOK.cons (VOK.boxS G Z Z Z Z Z) (AllVOK.nil)))))) (λhok=>?_))
 refine n6 [(3,[0])] a8 a8 (λe he=>hok e he) a8 (AllVS.cons ?_ AllVS.nil)
 refine VStep.mk1 [0,1] 6 (.own 2) 2 (.row 132 2 []) [⟨4,10,3,false,.row 4 1 []⟩,⟨8,14,4,false,.row 4 1 []⟩,⟨12,18,5,false,.row 74 4 []⟩,⟨14,3,6,true,.box (avR [.slice none 0 0,.slice none 0 0,.slice none 0 0,.slice none 0 0] [])⟩] Z Z Z Z Z (λb1 _ hbn=>j8 G S8 Z Z Z Z Z Z Z Z Z J9 Z Z (b4 Z)) a8 a8 a8 a8 (n6 [(7,[4])] a8 a8 (λe he=>hok e (vin (is:=[0]) Z he)) a8 (AllVS.cons ?_ AllVS.nil))
 refine VStep.mk1 [0,1] 10 (.own 3) 3 (.row 4 1 []) [⟨8,14,4,false,.row 4 1 []⟩,⟨12,18,5,false,.row 74 4 []⟩,⟨14,3,6,true,.box (avR [.slice none 0 0,.slice none 0 0,.slice none 0 0,.slice none 0 0] [])⟩] Z Z Z Z Z (λb1 _ hbn=>j8 G S8 Z Z Z Z Z Z Z Z Z J9 Z Z (b4 Z)) a8 a8 a8 a8 (n6 [(11,[8])] a8 a8 (λe he=>hok e (vin (is:=[0,4]) Z he)) a8 (AllVS.cons ?_ AllVS.nil))
 refine VStep.mk1 [0,1] 14 (.own 4) 4 (.row 4 1 []) [⟨12,18,5,false,.row 74 4 []⟩,⟨14,3,6,true,.box (avR [.slice none 0 0,.slice none 0 0,.slice none 0 0,.slice none 0 0] [])⟩] Z Z Z Z Z (λb1 _ hbn=>j8 G S8 Z Z Z Z Z Z Z Z Z J9 Z Z (b4 Z)) a8 a8 a8 a8 (n6 [(13,[12])] a8 a8 (λe he=>hok e (vin (is:=[0,4,8]) Z he)) a8 (AllVS.cons ?_ AllVS.nil))
 refine VStep.mk1 [0,1] 18 (.own 5) 5 (.row 74 4 []) [⟨14,3,6,true,.box (avR [.slice none 0 0,.slice none 0 0,.slice none 0 0,.slice none 0 0] [])⟩] Z Z Z Z Z (λb1 _ hbn=>b5 Z Z (w3 G Z Z Z Z) (b4 Z)) a8 a8 a8 a8 (n6 [(15,[14])] a8 a8 (λe he=>hok e (vin (is:=[0,4,8,12]) Z he)) a8 (AllVS.cons ?_ AllVS.nil))
 refine c61 ?_
 clear hok
 refine c7b ?_
 refine g9 [2,3,21,22] [1,2,3,4,6] (λ(k:Nat)=>[(23,.v (.int .i64 (k:Int)))]) (λ(k:Nat)=>[(5,some (.nest 74 4 ((m.cp.take k).map (r4 104 76)) []))]) (λ(k:Nat)=>k<=m.cp.length) (λ(k:Nat)=>m.cp.length - k) 0 Z Z ?_ ?_ ?_ ?_
 ·exact R3
 ·exact a88
 ·exact a1M
 intro k hk
 have hkl:((m.cp.take k).map (r4 104 76)).length=k:=c0u
 refine vm2 ?_
 refine zcd (λh1=>?_) (λh1=>?_)
 ·have g0:=hs.allI (i:=k) J
  unfold szI at g0
  refine vm3 ?_
  refine b4M ?_
  refine p6 ?_
  refine a7B 26 Z (λ_=>Z) λv26=>e9 G Z Z Z Z Z Z Z Z Z Z Z ?_
  refine zgo ?_
  apply C6 [2,3,21,22,23] [1,2,3,4,6,12] 13 8 [1,2,3,4,7] mixed a8 Z Z (λ_ h=>znk h)
  ·intro r0
   refine zsa 0 ?_
   refine zsa 2 ?_
   refine b6 (rs:=[1,3]) a8 Z (AllB.cons ?_ (AllB.cons ?_ AllB.nil))
   ·refine f8 [1,2,3,4,7] Z Z ?_
    refine R9 ?_
    refine b6 (rs:=[3]) a8 Z (AllB.cons ?_ AllB.nil)
    refine f8 [1,2,3,4,7] Z Z (d3 11 Z Z Z (ArgsOK.of Z) (F3 (m.cp.getD k default) J J J) Z Z (b4 ⟨Z,?_⟩))
    exact c49
   refine f8 [1,2,3,4,7] Z Z (d3 11 Z Z Z (ArgsOK.of Z) (F3 (m.cp.getD k default) J J J) Z Z (b4 ⟨Z,?_⟩))
   refine b6 (rs:=[1,4]) a8 Z (AllB.cons ?_ (AllB.cons ?_ AllB.nil))
   ·refine f8 [1,2,3,4,7] Z Z ?_
    refine R9 ?_
    exact c49
   refine f8 [1,2,3,4,7] Z Z (A9 G 12 Z Z Z Z Z Z Z Z (.v Z (.own Z (.own Z (.own Z .nil)))) Z Z Z Z (b4 ⟨Z,?_⟩))
   refine b6 (rs:=[1]) a8 Z (AllB.cons ?_ AllB.nil)
   refine f8 [1,2,3,4,7] Z Z ?_
   refine R9 ?_
   exact c4F
  refine b7 ?_
  refine a3L ?_
  refine s6 (Gh.sub 12 5 np Z Z Z) (b4 ⟨(k+1),?_,?_,⟨⟨_,Z,by rfl⟩,Z,trivial⟩,⟨⟨_,Z,by (exact congrArg (λz=>Row.nest _ _ z []) (b1X J Z))⟩,Z,Z,trivial⟩,Z,Z,Z⟩)
  ·omega
  omega
 obtain rfl:k=m.cp.length:=J
 refine zgo ?_
 refine d8 (p4 Z Z Z Z (b3 (c7 Z ?_) (b3 (c7 Z ?_) (b3 (c7 Z ?_) (b3 (A1 Z ?_) d9)))))
 all_goals exact c6Y
theorem w6 (m:Mach) (x:Lg) (hs:SmallM m) (hx:x.d.size+x.p.size<=1048576):Ctr Tryz.prog 46 [.agg [.lst 2 (m.rs.map p8),.lst 1 (m.en.map n7),.lst 1 (m.ra.map n7),.nst none 4 (m.cp.map (r4 104 76)),.v (.string x.d),.v (.string x.p),.v (.int .i64 x.n)]] (.shp true [some 7] [.fr 132 2 (m.rs.map p8),.fr 4 1 (m.en.map n7),.fr 4 1 (m.ra.map n7),.ne 74 4 (m.cp.map (r4 104 76)),.v (.string x.d),.v (.string x.p),.v (.int .i64 x.n)]):=by
 refine Ctr.of (n:=9) G Tryz.func46 Z a8 Z Z Z (λw0=>?_)
 refine m7 0 Z (λ_=>Z) (λu0=>?_)
 refine vm1 ?_
 refine vm9 ?_
 refine zgn ?_
 refine s5 (l1 7 [0] mixed a8 Z Z (λr0=>?_) (λ_ h=>h))
 refine zsa 0 ?_
 refine zsa 1 ?_
 refine zsa 3 ?_
 refine zsa 4 ?_
 refine b6 (rs:=[2]) a8 Z (AllB.cons ?_ AllB.nil)
 refine f8 [0] Z Z (d3 6 Z Z Z (ArgsOK.of Z) (a9u m hs) Z Z (b4 ⟨Z,?_⟩))
 exact c9D
theorem a19 (m:Mach) (x:Lg) (hs:SmallM m) (hx:x.d.size+x.p.size<=1048576):Ctr Tryz.prog 42 [.agg [.lst 2 (m.rs.map p8),.lst 1 (m.en.map n7),.lst 1 (m.ra.map n7),.nst none 4 (m.cp.map (r4 104 76)),.v (.string x.d),.v (.string x.p),.v (.int .i64 x.n)]] (.shp true [some 7] [.fr 132 2 (m.rs.map p8),.fr 4 1 (m.en.map n7),.fr 4 1 (m.ra.map n7),.ne 74 4 (m.cp.map (r4 104 76)),.v (.string x.d),.v (.string x.p),.v (.int .i64 x.n)]):=by
 refine Ctr.of (n:=9) G Tryz.func42 Z a8 Z Z Z (λw0=>?_)
 refine m7 0 Z (λ_=>Z) (λu0=>?_)
 refine vm1 ?_
 refine vm9 ?_
 refine zgn ?_
 refine s5 (l1 7 [0] mixed a8 Z Z (λr0=>?_) (λ_ h=>h))
 refine zsa 0 ?_
 refine zsa 1 ?_
 refine zsa 3 ?_
 refine zsa 4 ?_
 refine b6 (rs:=[2]) a8 Z (AllB.cons ?_ AllB.nil)
 refine f8 [0] Z Z (d3 6 Z Z Z (ArgsOK.of Z) (a5F m hs) Z Z (b4 ⟨Z,?_⟩))
 exact c9D
end Go.Proofs.YtdhckhjphmjniaaGreatDoor
