/- Texts merged into one: Q1, F1, W4, M18, Q5, Q7, M20, C1, Q2. -/
import Derived.Test.YtdhckhjphmjniaaGreatDoorPFnScriptG
set_option maxHeartbeats 4000000
set_option linter.unusedSimpArgs false
set_option linter.unusedVariables false
set_option maxRecDepth 20000
namespace Go.Proofs.YtdhckhjphmjniaaGreatDoor
open Go Go.Rf
theorem a9p (s:ByteArray) (hs:s.size<=9223372036854775807):Ctr Tryz.prog 82 [.v (.string s)] (.many [.v (.int .i64 (nmN s)),.v (.bool (nmK s))]):=by
 refine Ctr.of (n:=8) G Tryz.func82 Z a8 Z Z Z (λw0=>?_)
 refine zcl (b08 s hs) ?_
 refine zgo ?_
 refine d8 (r4 Z Z Z Z (b3 (j8 ?_) (b3 (j8 ?_) d9)))
 all_goals (rfl)
theorem a6s (w:ByteArray):Ctr Tryz.prog 73 [.v (.string w)] (.one (.v (.int .i64 (a2j (m9 w))))):=by
 refine Ctr.of (n:=20) G Tryz.func73 Z a8 Z Z Z (λw0=>?_)
 refine X0 ?_
 refine zcd (λh1=>?_) (λh1=>?_)
 ·have k1:=b1P.mp h1
  exact a5I
 have k1:=mt b1P.mpr h1
 refine X0 ?_
 refine zcd (λh2=>?_) (λh2=>?_)
 ·have k2:=b1Q.mp h2
  exact a5I
 have k2:=mt b1Q.mpr h2
 refine X0 ?_
 refine zcd (λh3=>?_) (λh3=>?_)
 ·have k3:=b1R.mp h3
  exact c0f
 have k3:=mt b1R.mpr h3
 refine X0 ?_
 refine zcd (λh4=>?_) (λh4=>?_)
 ·have k4:=b1S.mp h4
  exact a5I
 have k4:=mt b1S.mpr h4
 refine X0 ?_
 refine zcd (λh5=>?_) (λh5=>?_)
 ·have k5:=b1T.mp h5
  exact a5I
 have k5:=mt b1T.mpr h5
 refine X0 ?_
 refine zcd (λh6=>?_) (λh6=>?_)
 ·have k6:=b1U.mp h6
  exact a5I
 have k6:=mt b1U.mpr h6
 refine X0 ?_
 refine zcd (λh7=>?_) (λh7=>?_)
 ·have k7:=b1V.mp h7
  exact a5I
 have k7:=mt b1V.mpr h7
 refine X0 ?_
 refine zcd (λh8=>?_) (λh8=>?_)
 ·have k8:=b1W.mp h8
  exact a5I
 have k8:=mt b1W.mpr h8
 refine X0 ?_
 refine zcd (λh9=>?_) (λh9=>?_)
 ·have k9:=b1X.mp h9
  exact a5I
 have k9:=mt b1X.mpr h9
 refine X0 ?_
 refine zcd (λh10=>?_) (λh10=>?_)
 ·have k10:=b1Y.mp h10
  exact a5I
 have k10:=mt b1Y.mpr h10
 refine X0 ?_
 refine zcd (λh11=>?_) (λh11=>?_)
 ·have k11:=b2Y.mp h11
  exact a5I
 have k11:=mt b2Y.mpr h11
 refine X0 ?_
 refine zcd (λh12=>?_) (λh12=>?_)
 ·have k12:=a8i.mp h12
  exact c0f
 have k12:=mt a8i.mpr h12
 refine X0 ?_
 refine zcd (λh13=>?_) (λh13=>?_)
 ·have k13:=a8j.mp h13
  exact c0f
 have k13:=mt a8j.mpr h13
 exact c0f
theorem b09 (w:ByteArray) (l:List Int) (hl:a2j (m9 w)=l.length):Ctr Tryz.prog 75 [.v (.string w),.lst 1 (l.map Rf.r7)] (.many [.v (b5S (a0D (m9 w) l).1),.v (.bool (a0D (m9 w) l).2)]):=by
 refine Ctr.of (n:=50) G Tryz.func75 Z a8 Z Z Z (λw0=>?_)
 refine a4y ?_
 refine X0 ?_
 refine zcd (λh1=>?_) (λh1=>?_)
 ·have k1:=b1S.mp h1
  exact b4w
 have k1:=mt b1S.mpr h1
 refine X0 ?_
 refine zcd (λh2=>?_) (λh2=>?_)
 ·have k2:=b1T.mp h2
  exact b4w
 have k2:=mt b1T.mpr h2
 refine X0 ?_
 refine zcd (λh3=>?_) (λh3=>?_)
 ·have k3:=b1U.mp h3
  exact b4w
 have k3:=mt b1U.mpr h3
 refine X0 ?_
 refine zcd (λh4=>?_) (λh4=>?_)
 ·have k4:=b1P.mp h4
  refine zgo ?_
  exact c15
 have k4:=mt b1P.mpr h4
 refine X0 ?_
 refine zcd (λh5=>?_) (λh5=>?_)
 ·have k5:=b1V.mp h5
  exact b4w
 have k5:=mt b1V.mpr h5
 refine X0 ?_
 refine zcd (λh6=>?_) (λh6=>?_)
 ·have k6:=b1W.mp h6
  exact b4w
 have k6:=mt b1W.mpr h6
 refine X0 ?_
 refine zcd (λh7=>?_) (λh7=>?_)
 ·have k7:=a8j.mp h7
  have hn:=a8k (k:=m9 w) J
  rw [hl] at hn
  refine s9 (l2 9 [] mixed a8 Z Z (λr0=>?_) (λ_ h=>h))
  refine a06 ?_
  refine a8r ?_
  refine b7 (rs:=[7]) a8 Z (AllB.cons ?_ AllB.nil)
  refine g9 [] Z Z ?_
  refine N8 ?_
  refine zsa 8 ?_
  refine F3 ?_
  exact c15
 have k7:=mt a8j.mpr h7
 refine zgo ?_
 exact c15
theorem U3 (l:List Int) (hl:l.length<=1048576) (hn:∀i,i < l.length→X8 (l.getD i default)):Ctr Tryz.prog 36 [.lst 1 (l.map Rf.r7)] (.one (.v (.string (a3D l)))):=by
 refine Ctr.of (n:=24) G Tryz.func36 Z a8 Z Z Z (λw0=>?_)
 refine zcd (λh1=>?_) (λh1=>?_)
 ·exact c35
 have hJ:=c5A (l:=l) J
 refine b01 ?_
 refine zgo ?_
 refine i7 [10,11] [] (λ(i:Nat)=>[(3,.own 0),(12,.v (.int .i64 (i:Int)))]) (λ(i:Nat)=>[(0,some (.row 9 1 ((b0u l i).map a0M)))]) (λ(i:Nat)=>i<=l.length) (λ(i:Nat)=>l.length - i) 0 Z Z ?_ ?_ ?_ ?_
 ·exact R9
 ·exact a0O
 ·exact a07
 intro i hi
 have hpl:=@b4d l i
 refine vm2 ?_
 refine zcd (λh2=>?_) (λh2=>?_)
 ·obtain ⟨hn1,hn2⟩:=hn i J
  refine zcl (y8 (l.getD i default) J J) ?_
  refine p6 ?_
  refine b3b ?_
  refine p6 ?_
  refine vm4 ?_
  refine zgo ?_
  refine ⟨(i+1),?_,?_,⟨⟨_,Z,by rfl⟩,Z,⟨⟨_,Z,by rfl⟩,Z,trivial⟩⟩,⟨⟨_,Z,by (rw [b7p J,List.map_append];rfl)⟩,Z,Z,trivial⟩,Z,Z,Z⟩
  ·omega
  omega
 obtain rfl:i=l.length:=J
 refine zcl (a4A (b0u l l.length) (Nat.le_trans b4d hl) (c1p hl hn)) ?_
 refine zf1 ?_
 all_goals (first | (rw [hE];rfl) | (rw [hJ];done))
theorem Y7 (l:List Int) (hl:l.length<=1048576) (hn:∀i,i < l.length→X8 (l.getD i default)):Ctr Tryz.prog 39 [.lst 1 (l.map Rf.r7)] (.one (.v (.string (a3D l)))):=by
 refine Ctr.of (n:=27) G Tryz.func39 Z a8 Z Z Z (λw0=>?_)
 refine zcd (λh1=>?_) (λh1=>?_)
 ·exact c35
 have hJ:=b5m (l:=l) J
 obtain ⟨hn1,hn2⟩:=hn 0 J
 refine zcl (u7 (l.getD 0 default) J J) ?_
 refine zgo ?_
 refine i7 [0] [] (λ(i:Nat)=>[(3,.v (.string (jnS (b2U l) i))),(4,.v (.int .i64 (i:Int)))]) (λ(i:Nat)=>[]) (λ(i:Nat)=>1<=i/\i<=l.length) (λ(i:Nat)=>l.length - i) 1 Z Z ?_ ?_ ?_ ?_
 ·exact ⟨Nat.le_refl _,by omega⟩
 ·exact ⟨⟨_,Z,by (first | rfl | (rw [b6d,a2T J];first | done | rfl))⟩,Z,⟨⟨_,Z,by (first | rfl | (rw [b6d,a2T J];first | done | rfl))⟩,Z,trivial⟩⟩
 ·exact trivial
 intro i hi
 refine vm2 ?_
 refine zcd (λh2=>?_) (λh2=>?_)
 ·obtain ⟨hn3,hn4⟩:=hn i J
  have hz:=a8d hn i J
  have hzn:=w8 (n:=l.getD i default) J hn4
  refine vm3 ?_
  refine b5v ?_
  refine zcl (u7 (l.getD i default) J J) ?_
  refine p6 ?_
  refine b5v ?_
  refine zgo ?_
  refine ⟨(i+1),?_,?_,⟨⟨_,Z,by (first | rfl | (rw [a7k J,a2T J];first | done | rfl))⟩,Z,⟨⟨_,Z,by (first | rfl | (rw [a7k J,a2T J];first | done | rfl))⟩,Z,trivial⟩⟩,trivial,Z,Z,Z⟩
  ·exact ⟨by omega,by omega⟩
  omega
 obtain rfl:i=l.length:=J
 refine zf1 ?_
 all_goals (first | (rw [hE];rfl) | (rw [hJ];done))
theorem a23 (sl:List Slot) (hF:SlF sl):Ctr Tryz.prog 35 [.lst 3 (sl.map j5)] (.one (.v (.string (a1U sl)))):=by
 have hl4:=hF.len
 have hcs:(⟨#[45,112,97,98]⟩:ByteArray).size=4:=rfl
 refine Ctr.of (n:=40) G Tryz.func35 Z a8 Z Z Z (λw0=>?_)
 refine b01 ?_
 refine zgo ?_
 refine i7 [8,9] [] (λ(i:Nat)=>[(3,.own 0),(10,.v (.int .i64 (i:Int)))]) (λ(i:Nat)=>[(0,some (.row 9 1 ((a7m sl i).map a0M)))]) (λ(i:Nat)=>i<=sl.length) (λ(i:Nat)=>sl.length - i) 0 Z Z ?_ ?_ ?_ ?_
 ·exact R9
 ·exact a0O
 ·exact a07
 intro i hi
 have hpl:=@b4e sl i
 refine vm2 ?_
 refine zcd (λh1=>?_) (λh1=>?_)
 ·have hs3:=hF.s03 (i:=i) J
  have hlb:=@a8e (sl.getD i default).s
  rw [a7l] at hlb
  refine b4p ?_
  refine c1V ?_
  refine zcd (λh2=>?_) (λh2=>?_)
  ·have hnm:=hF.nums (i:=i) J J
   refine zgd ?_
   refine zcl (y8 (sl.getD i default).q J J) ?_
   refine b7A ?_
   refine zcl (y8 (sl.getD i default).p J J) ?_
   refine b7A ?_
   refine b7A ?_
   exact c89
  exact c89
 obtain rfl:i=sl.length:=J
 have hJ:=@b9f sl
 refine zcl (a4A (a7m sl sl.length) (Nat.le_trans b4e J) (c1q J (b9e hF))) ?_
 refine zf1 ?_
 all_goals (first | (rw [hJ];done))
theorem a5N (sl:List Slot) (hF:SlF sl):Ctr Tryz.prog 38 [.lst 3 (sl.map j5)] (.one (.v (.string (a1U sl)))):=by
 have hl4:=hF.len
 have hcs:(⟨#[45,112,97,98]⟩:ByteArray).size=4:=rfl
 refine Ctr.of (n:=46) G Tryz.func38 Z a8 Z Z Z (λw0=>?_)
 refine zgo ?_
 refine i7 [0] [] (λ(i:Nat)=>[(3,.v (.string (jnS (a3E sl) i))),(4,.v (.int .i64 (i:Int)))]) (λ(i:Nat)=>[]) (λ(i:Nat)=>i<=sl.length) (λ(i:Nat)=>sl.length - i) 0 Z Z ?_ ?_ ?_ ?_
 ·exact R9
 ·exact a0O
 ·exact trivial
 intro i hi
 refine vm2 ?_
 refine zcd (λh1=>?_) (λh1=>?_)
 ·have hs3:=hF.s03 (i:=i) J
  have hlb:=@a8e (sl.getD i default).s
  rw [a7l] at hlb
  have hz:=a8f (b9e hF) i J
  refine zcd (λh2=>?_) (λh2=>?_)
  ·refine vm3 ?_
   refine b5v ?_
   exact c8S
  exact c8S
 obtain rfl:i=sl.length:=J
 have hJ:jnS (a3E sl) sl.length=a1U sl:=(by rw [a1U,jnA,a0C])
 refine zf1 ?_
 all_goals (first | (rw [hJ];done))
theorem a8z (rs:List Route) (a:Abs) (c:Nat) (hF:AbsF rs a) (hc:c < a.ma.length):Ctr Tryz.prog 118 [.lst 2 (rs.map q9),.agg [.lst 1 (a.en.map m8),.lst 1 (a.ra.map m8),.lst 1 (a.po.map m8),.lst 1 (a.ma.map Rf.r7),.nst none 1 (a.st.map a65)],.v (.int .i64 (c:Int))] (.one (.v (.int .i64 (B8 rs a c)))):=by
 have f0:=hF.n
 have f1:=hF.rn
 have f2:=hF.st
 have f3:=hF.en
 have f4:=hF.ra
 have f5:=hF.po
 have fl:=hF.len c hc
 have fe:=hF.el c hc
 have fm:=hF.rt
 have ftn:(((a.st.getD c default).length:Int) - 1).toNat=(a.st.getD c default).length - 1:=J
 have ft:0 < (a.st.getD c default).length→0<=(a.st.getD c default).getD (((a.st.getD c default).length:Int) - 1).toNat default/\(a.st.getD c default).getD (((a.st.getD c default).length:Int) - 1).toNat default<=7:=λh0=>(by rw [ftn];exact fe _ J)
 refine Ctr.of (n:=69) G Tryz.func118 Z a8 Z Z Z (λw0=>?_)
 refine n8 1 Z (λ_=>Z) (λu1=>?_)
 refine vm1 ?_
 refine zgd ?_
 refine zgo ?_
 refine c6 Z (g8 Z Z (V3 G Z Z Z Z) ?_)
 refine zcd (λh1=>?_) (λh1=>?_)
 ·refine zf1 ?_
  all_goals exact c29
 refine zcd (λh2=>?_) (λh2=>?_)
 ·refine vm3 ?_
  refine b5 Z Z (b7V Z Z Z) ?_
  exact c4g
 exact c4g
theorem b0N (rs:List Route) (a:Abs) (c:Nat) (hF:AbsF rs a) (hc:c < a.ma.length):Ctr Tryz.prog 185 [.lst 2 (rs.map q9),.agg [.lst 1 (a.en.map m8),.lst 1 (a.ra.map m8),.lst 1 (a.po.map m8),.lst 1 (a.ma.map Rf.r7),.nst none 1 (a.st.map a65)],.v (.int .i64 (c:Int))] (.one (.v (.int .i64 (B8 rs a c)))):=by
 have f0:=hF.n
 have f1:=hF.rn
 have f2:=hF.st
 have f3:=hF.en
 have f4:=hF.ra
 have f5:=hF.po
 have fl:=hF.len c hc
 have fe:=hF.el c hc
 have fm:=hF.rt
 have ftn:(((a.st.getD c default).length:Int) - 1).toNat=(a.st.getD c default).length - 1:=J
 have ft:0 < (a.st.getD c default).length→0<=(a.st.getD c default).getD (((a.st.getD c default).length:Int) - 1).toNat default/\(a.st.getD c default).getD (((a.st.getD c default).length:Int) - 1).toNat default<=7:=λh0=>(by rw [ftn];exact fe _ J)
 refine Ctr.of (n:=97) G Tryz.func185 Z a8 Z Z Z (λw0=>?_)
 refine n8 1 Z (λ_=>Z) (λu1=>?_)
 refine vm1 ?_
 refine zgo ?_
 refine i7 [0,2,4] [0] (λ(i:Nat)=>[(7,.v (.int .i64 (t7 rs a c i))),(8,.v (.int .i64 (i:Int)))]) (λ(i:Nat)=>[]) (λ(i:Nat)=>i<=8) (λ(i:Nat)=>8 - i) 0 Z Z ?_ ?_ ?_ ?_
 ·exact R9
 ·exact c3Z
 ·exact trivial
 intro i hinv
 have hbl:=@a2M rs a c i
 refine vm2 ?_
 refine zcd (λh1=>?_) (λh1=>?_)
 ·refine zgd ?_
  refine zcd (λh2=>?_) (λh2=>?_)
  ·refine zcd (λh3=>?_) (λh3=>?_)
   ·refine zcd (λh4=>?_) (λh4=>?_)
    ·refine zwt ?_
     exact c0d
    refine zcd (λh5=>?_) (λh5=>?_)
    ·exact c0d
    exact c0d
   refine zwf ?_
   exact c0d
  refine zwf ?_
  exact c0d
 refine vm3 ?_
 refine b7C ?_
 refine zgd ?_
 refine zcd (λh6=>?_) (λh6=>?_)
 ·refine zwt ?_
  exact c0g
 refine zcd (λh7=>?_) (λh7=>?_)
 ·refine zwt ?_
  exact c0g
 refine zcd (λh8=>?_) (λh8=>?_)
 ·refine zwt ?_
  exact c0g
 refine zcd (λh9=>?_) (λh9=>?_)
 ·refine zgo ?_
  refine b02 ?_
  refine g8 Z Z (V3 G Z Z Z Z) ?_
  refine zcd (λh10=>?_) (λh10=>?_)
  ·exact c0g
  exact c0g
 refine zwf ?_
 refine zf1 ?_
 all_goals exact c24
theorem b0O (m:Mach) (hM:MaG m) (hs:SmallM m):Ctr Tryz.prog 186 [.agg [.lst 2 (m.rs.map q9),.lst 1 (m.en.map m8),.lst 1 (m.ra.map m8),.nst none 4 (m.cp.map (r6 104 76))]] (.shp true [some 5] [.fr 4 1 ((R8 m).en.map m8),.fr 4 1 ((R8 m).ra.map m8),.fr 4 1 ((R8 m).po.map m8),.fr 3 1 ((R8 m).ma.map Rf.r7),.ne 68 1 ((R8 m).st.map a65)]):=by
 have f1:=hM.n
 have f2:=hM.en
 have f3:=hM.ra
 have f4:=hM.rn
 refine Ctr.of (n:=70) G Tryz.func186 Z a8 Z Z Z (λw0=>?_)
 refine n8 0 Z (λ_=>Z) (λu0=>?_)
 refine vm1 ?_
 refine vm9 ?_
 refine zgn ?_
 refine s9 (l2 14 [0,1] mixed a8 Z Z (λr0=>?_) (λ_ h=>h))
 refine zsa 1 ?_
 refine zsa 2 ?_
 refine zsa 5 ?_
 refine zsa 6 ?_
 refine A9 (N:=8) Z (s7 (fuel:=4) [⟨0,7,2,false,.row 4 1 []⟩,⟨4,11,3,false,.row 4 1 []⟩,⟨8,15,4,false,.row 4 1 (List.replicate 8 [.bool false])⟩,⟨9,16,5,false,.row 3 1 []⟩,⟨10,17,6,false,.row 68 1 []⟩,⟨12,3,7,true,.box (avR [.slice none 0 0,.slice none 0 0,.slice none 0 0,.slice none 0 0,.slice none 0 0] [])⟩] (AllVOK.cons (VOK.lit G Z Z Z Z Z) (AllVOK.cons (VOK.lit G Z Z Z Z Z) (AllVOK.cons (VOK.make (n:=8) G Z Z Z Z Z (by decide) (by decide)) (AllVOK.cons (VOK.lit G Z Z Z Z Z) (AllVOK.cons (VOK.lit G Z Z Z Z Z) (AllVOK.cons (VOK.boxS G Z Z Z Z Z) (AllVOK.nil))))))) (λhok=>?_))
 refine n6 [(3,[0])] a8 a8 (λe he=>hok e he) a8 (AllVS.cons ?_ AllVS.nil)
 refine VStep.mk1 [0,1] 7 (.own 2) 2 (.row 4 1 []) [⟨4,11,3,false,.row 4 1 []⟩,⟨8,15,4,false,.row 4 1 (List.replicate 8 [.bool false])⟩,⟨9,16,5,false,.row 3 1 []⟩,⟨10,17,6,false,.row 68 1 []⟩,⟨12,3,7,true,.box (avR [.slice none 0 0,.slice none 0 0,.slice none 0 0,.slice none 0 0,.slice none 0 0] [])⟩] Z Z Z Z Z (λb1 _ hbn=>l1 G T5 Z Z Z Z Z Z Z Z Z M8 Z Z (b4 Z)) a8 a8 a8 a8 (n6 [(7,[4])] a8 a8 (λe he=>hok e (vin (is:=[0]) Z he)) a8 (AllVS.cons ?_ AllVS.nil))
 refine VStep.mk1 [0,1] 11 (.own 3) 3 (.row 4 1 []) [⟨8,15,4,false,.row 4 1 (List.replicate 8 [.bool false])⟩,⟨9,16,5,false,.row 3 1 []⟩,⟨10,17,6,false,.row 68 1 []⟩,⟨12,3,7,true,.box (avR [.slice none 0 0,.slice none 0 0,.slice none 0 0,.slice none 0 0,.slice none 0 0] [])⟩] Z Z Z Z Z (λb1 _ hbn=>l1 G T5 Z Z Z Z Z Z Z Z Z M8 Z Z (b4 Z)) a8 a8 a8 a8 (n6 [(11,[8,9,10])] a8 a8 (λe he=>hok e (vin (is:=[0,4]) Z he)) a8 (AllVS.cons ?_ AllVS.nil))
 refine VStep.mk3 [0,1] 15 (.own 4) 4 (.row 4 1 (List.replicate 8 [.bool false])) 16 (.own 5) 5 (.row 3 1 []) 17 (.own 6) 6 (.row 68 1 []) [⟨12,3,7,true,.box (avR [.slice none 0 0,.slice none 0 0,.slice none 0 0,.slice none 0 0,.slice none 0 0] [])⟩] Z Z Z Z Z (λb1 _ hbn=>b5 Z Z (w9 G Z Z Z Z) (b4 Z)) a8 a8 a8 a8 (n6 [(13,[12])] a8 a8 (λe he=>hok e (vin (is:=[0,4,8,9,10]) Z he)) a8 (AllVS.cons ?_ AllVS.nil))
 refine VStep.mk1 [0,1] 3 (.ptr 7 0) 7 (.box (avR [.slice none 0 0,.slice none 0 0,.slice none 0 0,.slice none 0 0,.slice none 0 0] [])) [] Z Z Z Z Z (λb1 _ hbn=>e9 G Z Z Z Z Z Z Z Z Z Z Z (b4 Z)) a8 a8 a8 a8 (G0 ?_)
 clear hok
 refine a3P (Gh.nest (id:=6) (yss:=[]) Z Z (by intro _ _ _ h;simp at h)) ?_
 refine F3 ?_
 refine zgo ?_
 refine i7 [1,2,3] [0,1,2,3,7] (λ(k:Nat)=>[(4,.v (.int .i64 (k:Int)))]) (λ(k:Nat)=>[(4,some (.row 4 1 ((poN m k).map m8))),(5,some (.row 3 1 (((m.cp.map (λx=>x.ma)).take k).map Rf.r7))),(6,some (.nest 68 1 (((m.cp.map (λx=>x.st)).take k).map a65) []))]) (λ(k:Nat)=>k<=m.cp.length) (λ(k:Nat)=>m.cp.length - k) 0 Z Z ?_ ?_ ?_ ?_
 ·exact R9
 ·exact a84
 ·exact c31
 intro k hk
 have hp8:=@J8 m k
 have hm1:(m.cp.map (λx=>x.ma)).length=m.cp.length:=List.length_map _
 have hm2:(m.cp.map (λx=>x.st)).length=m.cp.length:=List.length_map _
 refine vm2 ?_
 refine zcd (λh1=>?_) (λh1=>?_)
 ·have hI:=(hM.ok k J).f
  have hsn:=hI.sn
  have hpl:=a2S hI.qu
  refine vm3 ?_
  refine b3a ?_
  refine vm3 ?_
  refine d4 9 Z Z Z (ArgsOK.of Z) (a0m (m.cp.getD k default).qu hI.qu) Z Z ?_
  refine zgo ?_
  refine i7 [1,2,3,4,5] [0,1,2,3,5,6,7,8] (λ(i:Nat)=>[(6,.v (.int .i64 (i:Int)))]) (λ(i:Nat)=>[(4,some (.row 4 1 ((b2T (poN m k) (C7 (m.cp.getD k default).qu) i).map m8)))]) (λ(i:Nat)=>i<=(C7 (m.cp.getD k default).qu).length) (λ(i:Nat)=>(C7 (m.cp.getD k default).qu).length - i) 0 Z Z ?_ ?_ ?_ ?_
  ·exact R9
  ·exact a84
  ·exact a07
  intro i hi
  have hbp:=λh=>a9E hI.qu (i:=i) h
  have hpo:=@I8 (poN m k) (C7 (m.cp.getD k default).qu) i
  have hp8:=@J8 m k
  refine vm2 ?_
  refine zcd (λh2=>?_) (λh2=>?_)
  ·have hbq:=hbp J
   refine zgn ?_
   refine s9 (o7 (l2 8 [0,1,2,3,5,6,7,8] mixed a8 Z Z (λr0=>?_) (λ_ h=>h)))
   refine a06 ?_
   first | refine d5 4 Z a8 a8 Z Z Z Z (c7 G Z Z Z Z Z J T6) ?_ | refine d5 4 Z a8 a8 Z Z Z Z (c7 G Z Z Z Z Z J (by rw [List.length_map,I8,J8];omega)) ?_ | refine d5 4 Z a8 a8 Z Z Z Z (c7 G Z Z Z Z Z J m7) ?_ | refine d5 4 Z a8 a8 Z Z Z Z (c7 G Z Z Z Z Z J J) ?_
   first | refine d5 5 Z a8 a8 Z Z Z Z (f8 G Z Z Z Z Z (R1 J) Z) ?_ | refine d5 5 Z a8 a8 Z Z Z Z (f8 G Z Z Z Z Z (A1 J (by rw [I8,J8];omega)) Z) ?_ | refine d5 5 Z a8 a8 Z Z Z Z (f8 G Z Z Z Z Z (A1 J J) Z) ?_
   refine b7 (rs:=[6]) a8 Z (AllB.cons ?_ AllB.nil)
   first | refine f9 [0,1,2,3,5,6,7,8] Z Z (b5 Z Z (c7 G Z Z Z Z Z J T6) (b4 ⟨Z,?_⟩)) | refine f9 [0,1,2,3,5,6,7,8] Z Z (b5 Z Z (c7 G Z Z Z Z Z J (by rw [List.length_map,I8,J8];omega)) (b4 ⟨Z,?_⟩)) | refine f9 [0,1,2,3,5,6,7,8] Z Z (b5 Z Z (c7 G Z Z Z Z Z J m7) (b4 ⟨Z,?_⟩)) | refine f9 [0,1,2,3,5,6,7,8] Z Z (b5 Z Z (c7 G Z Z Z Z Z J J) (b4 ⟨Z,?_⟩))
   refine b7 (rs:=[7]) a8 Z (AllB.cons ?_ AllB.nil)
   first | refine f9 [0,1,2,3,5,6,7,8] Z Z (l8 G Z Z Z Z Z (R1 J) Z Z Z Z Z (Nat.le_of_ble_eq_true Z) Z (b4 ⟨Z,?_⟩)) | refine f9 [0,1,2,3,5,6,7,8] Z Z (l8 G Z Z Z Z Z (A1 J (by rw [I8,J8];omega)) Z Z Z Z Z (Nat.le_of_ble_eq_true Z) Z (b4 ⟨Z,?_⟩)) | refine f9 [0,1,2,3,5,6,7,8] Z Z (l8 G Z Z Z Z Z (A1 J J) Z Z Z Z Z (Nat.le_of_ble_eq_true Z) Z (b4 ⟨Z,?_⟩))
   refine F3 ?_
   refine zgo ?_
   refine ⟨(i+1),?_,?_,⟨⟨_,Z,by rfl⟩,Z,trivial⟩,⟨⟨_,Z,by (first | rfl | (exact congrArg (λz=>Row.row _ _ z) (a1S J)) | (exact congrArg (λz=>Row.nest _ _ z []) (a1T J Z)) | (exact congrArg (λz=>Row.row _ _ z) b6D) | (obtain rfl:i=(C7 (m.cp.getD k default).qu).length:=J;rfl))⟩,Z,Z,trivial⟩,Z,Z,Z⟩
   ·omega
   omega
  refine zgo ?_
  apply C4 [1,2,3,4] [0,1,2,3,4,6,7,10] 11 12 [0,1,2,3,4,6,8] mixed a8 Z Z (λ_ h=>znk h)
  ·intro r0
   refine zsa 0 ?_
   refine zsa 2 ?_
   refine zsa 3 ?_
   refine zsa 4 ?_
   refine zsa 5 ?_
   refine d5 6 Z a8 a8 Z Z Z Z (a0Y G Z Z Z Z) (d5 7 Z a8 a8 Z Z Z Z (V3 G Z Z Z Z) (b7 (rs:=[1,8]) a8 Z (AllB.cons ?_ (AllB.cons ?_ AllB.nil))))
   ·refine g9 [0,1,2,3,4,6,8] Z Z ?_
    refine N8 ?_
    refine b7 (rs:=[8]) a8 Z (AllB.cons ?_ AllB.nil)
    refine g9 [0,1,2,3,4,6,8] Z Z (m5 G 10 Z Z Z Z Z Z Z Z (b4 ⟨Z,?_⟩))
    exact c4k
   refine g9 [0,1,2,3,4,6,8] Z Z (m5 G 10 Z Z Z Z Z Z Z Z (b4 ⟨Z,?_⟩))
   refine b7 (rs:=[1]) a8 Z (AllB.cons ?_ AllB.nil)
   refine g9 [0,1,2,3,4,6,8] Z Z ?_
   refine N8 ?_
   exact c4k
  apply C4 [1,2,3,4] [0,1,2,3,4,7,10,13] 14 13 [0,1,2,3,4,10] mixed a8 Z Z (λ_ h=>znk h)
  ·intro r0
   refine zsa 0 ?_
   refine zsa 2 ?_
   refine zsa 3 ?_
   refine zsa 4 ?_
   refine zsa 5 ?_
   refine d5 6 Z a8 a8 Z Z Z Z (a0Y G Z Z Z Z) (d5 7 Z a8 a8 Z Z Z Z (V3 G Z Z Z Z) (b7 (rs:=[1,8]) a8 Z (AllB.cons ?_ (AllB.cons ?_ AllB.nil))))
   ·refine g9 [0,1,2,3,4,10] Z Z ?_
    refine N8 ?_
    refine b7 (rs:=[8]) a8 Z (AllB.cons ?_ AllB.nil)
    refine g9 [0,1,2,3,4,10] Z Z (d4 12 Z Z Z (ArgsOK.of Z) (H6 _ J) Z Z (b4 ⟨Z,?_⟩))
    exact c4M
   refine g9 [0,1,2,3,4,10] Z Z (d4 12 Z Z Z (ArgsOK.of Z) (H6 _ J) Z Z (b4 ⟨Z,?_⟩))
   refine b7 (rs:=[1,9]) a8 Z (AllB.cons ?_ (AllB.cons ?_ AllB.nil))
   ·refine g9 [0,1,2,3,4,10] Z Z ?_
    refine N8 ?_
    exact c4M
   refine g9 [0,1,2,3,4,10] Z Z (B2 G 13 Z Z Z Z Z Z Z Z (.own Z .nil) Z Z Z Z (b4 ⟨Z,?_⟩))
   refine b7 (rs:=[1]) a8 Z (AllB.cons ?_ AllB.nil)
   refine g9 [0,1,2,3,4,10] Z Z ?_
   refine N8 ?_
   exact c4e
  refine a2m ?_
  refine r9 (Gh.sub 10 5 np Z Z Z) (r9 (Gh.sub 13 6 np Z Z Z) (b4 ⟨(k+1),?_,?_,⟨⟨_,Z,by rfl⟩,Z,trivial⟩,⟨⟨_,Z,by (first | rfl | (exact congrArg (λz=>Row.row _ _ z) (a1S J)) | (exact congrArg (λz=>Row.nest _ _ z []) (a1T J Z)) | (exact congrArg (λz=>Row.row _ _ z) b6D) | (obtain rfl:i=(C7 (m.cp.getD k default).qu).length:=J;rfl))⟩,Z,Z,⟨⟨_,Z,by (first | rfl | (exact congrArg (λz=>Row.row _ _ z) (a1S J)) | (exact congrArg (λz=>Row.nest _ _ z []) (a1T J Z)) | (exact congrArg (λz=>Row.row _ _ z) b6D) | (obtain rfl:i=(C7 (m.cp.getD k default).qu).length:=J;rfl))⟩,Z,Z,⟨⟨_,Z,by (first | rfl | (exact congrArg (λz=>Row.row _ _ z) (a1S J)) | (exact congrArg (λz=>Row.nest _ _ z []) (a1T J Z)) | (exact congrArg (λz=>Row.row _ _ z) b6D) | (obtain rfl:i=(C7 (m.cp.getD k default).qu).length:=J;rfl))⟩,Z,Z,trivial⟩⟩⟩,Z,Z,Z⟩))
  ·omega
  omega
 refine zgo ?_
 refine d8 (o8 Z Z Z Z (b3 (c8 Z ?_) (b3 (c8 Z ?_) (b3 (c8 Z ?_) (b3 (c8 Z ?_) (b3 (A8 Z ?_) d9))))))
 all_goals (first | rfl | (obtain rfl:k=m.cp.length:=J;first | rfl | (rw [b4a (Nat.le_refl _)];rfl)) | simp)
theorem a5u (m:Mach) (hM:MaG m) (hs:SmallM m):Ctr Tryz.prog 119 [.agg [.lst 2 (m.rs.map q9),.lst 1 (m.en.map m8),.lst 1 (m.ra.map m8),.nst none 4 (m.cp.map (r6 104 76))]] (.shp true [some 5] [.fr 4 1 ((R8 m).en.map m8),.fr 4 1 ((R8 m).ra.map m8),.fr 4 1 ((R8 m).po.map m8),.fr 3 1 ((R8 m).ma.map Rf.r7),.ne 68 1 ((R8 m).st.map a65)]):=by
 have f1:=hM.n
 have f2:=hM.en
 have f3:=hM.ra
 have f4:=hM.rn
 refine Ctr.of (n:=57) G Tryz.func119 Z Y Z Z Z (λw0=>?_)
 refine n8 0 Z (λ_=>Z) (λu0=>?_)
 refine c1 (λK1 hK1=>?_)
 refine b6 (a7 Z (B3 1 Z Z Z Z Z Z Z (a7 Z (d7 G 2 Z Z Z Z Z (b4 (hK1 _ ?_))))))
 clear hK1 K1
 refine c1 (λK2 hK2=>?_)
 refine l2 14 [0,1] mixed Y Z Z (λr0=>?_) (λ_ h=>h)
 refine d5 1 Z Y Y Z Z Z Z (d3 G Z Z Z Z) (d5 2 Z Y Y Z Z Z Z (a1K (f7 G Z Z Z Z Z Z Z)) (d5 5 Z Y Y Z Z Z Z (d3 G Z Z Z Z) (d5 6 Z Y Y Z Z Z Z (a1K (f7 G Z Z Z Z Z Z Z)) ?_)))
 refine A9 (N:=8) Z (s7 (fuel:=4) [⟨0,8,2,false,.row 4 1 []⟩,⟨4,12,3,false,.row 4 1 []⟩,⟨8,16,4,false,.row 4 1 (List.replicate 8 [.bool false])⟩,⟨9,17,5,false,.row 3 1 []⟩,⟨10,18,6,false,.row 68 1 []⟩,⟨12,3,7,true,.box (avR [.slice none 0 0,.slice none 0 0,.slice none 0 0,.slice none 0 0,.slice none 0 0] [])⟩] (AllVOK.cons (VOK.lit G Z Z Z Z Z) (AllVOK.cons (VOK.lit G Z Z Z Z Z) (AllVOK.cons (VOK.make (n:=8) G Z Z Z Z Z (by decide) (by decide)) (AllVOK.cons (VOK.lit G Z Z Z Z Z) (AllVOK.cons (VOK.lit G Z Z Z Z Z) (AllVOK.cons (VOK.boxS G Z Z Z Z Z) (AllVOK.nil))))))) (λhok=>?_))
 refine n6 [(3,[0])] Y Y (λe he=>hok e he) Y (AllVS.cons ?_ AllVS.nil)
 refine VStep.mk1 [0,1] 8 (.own 2) 2 (.row 4 1 []) [⟨4,12,3,false,.row 4 1 []⟩,⟨8,16,4,false,.row 4 1 (List.replicate 8 [.bool false])⟩,⟨9,17,5,false,.row 3 1 []⟩,⟨10,18,6,false,.row 68 1 []⟩,⟨12,3,7,true,.box (avR [.slice none 0 0,.slice none 0 0,.slice none 0 0,.slice none 0 0,.slice none 0 0] [])⟩] Z Z Z Z Z (λb1 _ hbn=>l1 G (by rw [hbn];exact Nat.le_of_ble_eq_true Z) Z Z Z Z Z Z Z Z Z (by first | (simp only [List.length_map,List.length_cons,List.length_nil];omega) | (simp;omega)) Z Z (b4 Z)) Y Y Y Y ?_
 refine n6 [(7,[4])] Y Y (λe he=>hok e (vin (is:=[0]) Z he)) Y (AllVS.cons ?_ AllVS.nil)
 refine VStep.mk1 [0,1] 12 (.own 3) 3 (.row 4 1 []) [⟨8,16,4,false,.row 4 1 (List.replicate 8 [.bool false])⟩,⟨9,17,5,false,.row 3 1 []⟩,⟨10,18,6,false,.row 68 1 []⟩,⟨12,3,7,true,.box (avR [.slice none 0 0,.slice none 0 0,.slice none 0 0,.slice none 0 0,.slice none 0 0] [])⟩] Z Z Z Z Z (λb1 _ hbn=>l1 G (by rw [hbn];exact Nat.le_of_ble_eq_true Z) Z Z Z Z Z Z Z Z Z (by first | (simp only [List.length_map,List.length_cons,List.length_nil];omega) | (simp;omega)) Z Z (b4 Z)) Y Y Y Y ?_
 refine n6 [(11,[8,9,10])] Y Y (λe he=>hok e (vin (is:=[0,4]) Z he)) Y (AllVS.cons ?_ AllVS.nil)
 refine VStep.mk3 [0,1] 16 (.own 4) 4 (.row 4 1 (List.replicate 8 [.bool false])) 17 (.own 5) 5 (.row 3 1 []) 18 (.own 6) 6 (.row 68 1 []) [⟨12,3,7,true,.box (avR [.slice none 0 0,.slice none 0 0,.slice none 0 0,.slice none 0 0,.slice none 0 0] [])⟩] Z Z Z Z Z (λb1 _ hbn=>b5 Z Z (w9 G Z Z Z Z) (b4 Z)) Y Y Y Y ?_
 refine n6 [(13,[12])] Y Y (λe he=>hok e (vin (is:=[0,4,8,9,10]) Z he)) Y (AllVS.cons ?_ AllVS.nil)
 refine VStep.mk1 [0,1] 3 (.ptr 7 0) 7 (.box (avR [.slice none 0 0,.slice none 0 0,.slice none 0 0,.slice none 0 0,.slice none 0 0] [])) [] Z Z Z Z Z (λb1 _ hbn=>e9 G Z Z Z Z Z Z Z Z Z Z Z (b4 Z)) Y Y Y Y (G0 ?_)
 clear hok
 refine a3P (Gh.nest (id:=6) (yss:=[]) Z Z (by intro _ _ _ h;simp at h)) (C3 Y (hK2 _ ?_))
 clear hK2 K2
 refine c1 (λK3 hK3=>?_)
 refine c1 (λK4 hK4=>?_)
 refine b6 (a7 Z (b5 Z Z (d3 G Z Z Z Z) (a7 Z (b5 Z Z (b1v (f7 G Z Z Z Z Z Z Z)) (a7 Z ?_)))))
 first | refine b5 Z Z (E1 G Z Z Z Z (List.length_map _)) ?_ | refine b5 Z Z (K0 G Z Z Z Z) ?_
 refine a7 Z (b5 Z Z (b9 Z Z) (b4 (hK4 _ ?_)))
 clear hK4 K4
 refine o7 ?_
 refine i7 [2,3,21,22] [1,2,3,7] (λ(k:Nat)=>[(23,.v (.int .i64 (k:Int)))]) (λ(k:Nat)=>[(4,some (.row 4 1 ((poN m k).map m8))),(5,some (.row 3 1 (((m.cp.map (λx=>x.ma)).take k).map Rf.r7))),(6,some (.nest 68 1 (((m.cp.map (λx=>x.st)).take k).map a65) []))]) (λ(k:Nat)=>k<=m.cp.length) (λ(k:Nat)=>m.cp.length - k) 0 Z Z ?_ ?_ ?_ ?_
 ·exact R9
 ·exact a84
 ·exact c31
 ·intro k hk
  have hp8:=@J8 m k
  have hm1:(m.cp.map (λx=>x.ma)).length=m.cp.length:=List.length_map _
  have hm2:(m.cp.map (λx=>x.st)).length=m.cp.length:=List.length_map _
  simp only [List.cons_append,List.nil_append]
  refine c1 (λK5 hK5=>?_)
  refine b6 (a7 Z (b5 Z Z (t8 Z Z Z Z) (b4 (hK5 _ ?_))))
  clear hK5 K5
  refine c1 (λK6 hK6=>?_)
  refine l4 Z (λh1=>?_) (λh1=>?_)
  ·try rw [h1]
   try simp only [rfb] at h1
   have hI:=(hM.ok k J).f
   have hsn:=hI.sn
   have hpl:=a2S hI.qu
   refine p8 (hK6 _ ?_)
   clear hK6 K6
   refine c1 (λK7 hK7=>?_)
   refine o7 ?_
   refine c1 (λK8 hK8=>?_)
   refine b6 (a7 Z ?_)
   first | refine b5 Z Z (y7 G Z Z Z Z J (R1 J) Z) ?_ | refine b5 Z Z (y7 G Z Z Z Z J (A7 J J) Z) ?_ | refine b5 Z Z (y7 G Z Z Z Z J (A1 J J) Z) ?_
   refine a7 Z (b5 Z Z (F5 G Z Z Z Z) (a7 Z (d7 G 9 Z Z Z Z Z (a7 Z (a3H 26 Z (λ_=>Z) λv26=>e9 G Z Z Z Z Z Z Z Z Z Z Z (b4 (hK8 _ ?_)))))))
   clear hK8 K8
   refine c1 (λK9 hK9=>?_)
   refine b6 (a7 Z (b5 Z Z (d3 G Z Z Z Z) (a7 Z (b5 Z Z (f7 G Z Z Z Z Z Z Z) (a7 Z (b5 Z Z (d3 G Z Z Z Z) (a7 Z (b5 Z Z (f7 G Z Z Z Z Z Z Z) (a7 Z (m5 G 10 Z Z Z Z Z Z Z Z (a7 Z ?_)))))))))))
   refine I0 (Gh.forget (id:=7) (k:=3) Z Z)<|I0 (Gh.keep [1,2,3,4,5,6,7,8,9] Z)<|l1 G np rfl rfl rfl rfl rfl rfl rfl rfl rfl (by first | (simp only [List.length_map,List.length_cons,List.length_nil];omega) | (simp;omega)) rfl rfl ?_
   refine a7 Z (b5 Z Z (d3 G Z Z Z Z) (a7 Z (e9 G Z Z Z Z Z Z Z Z Z Z Z (b4 (hK9 _ ?_)))))
   clear hK9 K9
   refine c1 (λK10 hK10=>?_)
   apply C4 [2,3,5,21,22,23] [1,2,3,4,5,7,8,12] 13 9 [1,2,3,4,5,8,9] mixed Y Z Z hK10
   ·intro r0
    refine d5 0 Z Y Y Z Z Z Z (d3 G Z Z Z Z) (d5 2 Z Y Y Z Z Z Z (d3 G Z Z Z Z) (d5 3 Z Y Y Z Z Z Z (a1K (f7 G Z Z Z Z Z Z Z)) ?_))
    refine b7 (rs:=[1,4]) Y Z (AllB.cons ?_ (AllB.cons ?_ AllB.nil))
    ·refine f9 [1,2,3,4,5,8,9] Z Z (b5 Z Z (f7 G Z Z Z Z Z Z Z) (b4 ⟨Z,?_⟩))
     refine b7 (rs:=[4]) Y Z (AllB.cons ?_ AllB.nil)
     refine f9 [1,2,3,4,5,8,9] Z Z (d4 11 Z Z Z (ArgsOK.of Z) (E5 _ J) Z Z (b4 ⟨Z,?_⟩))
     exact c4L
    ·refine f9 [1,2,3,4,5,8,9] Z Z (d4 11 Z Z Z (ArgsOK.of Z) (E5 _ J) Z Z (b4 ⟨Z,?_⟩))
     refine b7 (rs:=[1,5]) Y Z (AllB.cons ?_ (AllB.cons ?_ AllB.nil))
     ·refine f9 [1,2,3,4,5,8,9] Z Z (b5 Z Z (f7 G Z Z Z Z Z Z Z) (b4 ⟨Z,?_⟩))
      exact c4L
     ·refine f9 [1,2,3,4,5,8,9] Z Z (B2 G 12 Z Z Z Z Z Z Z Z (.own Z .nil) Z Z Z Z (b4 ⟨Z,?_⟩))
      refine b7 (rs:=[1]) Y Z (AllB.cons ?_ AllB.nil)
      refine f9 [1,2,3,4,5,8,9] Z Z (b5 Z Z (f7 G Z Z Z Z Z Z Z) (b4 ⟨Z,?_⟩))
      exact c4b
   ·clear hK10 K10
    refine c1 (λK11 hK11=>?_)
    refine b6 (a7 Z (b5 Z Z (d3 G Z Z Z Z) (a7 Z (b5 Z Z (d1 G Z Z Z Z Z Z) (a7 Z (d4 14 Z Z Z (ArgsOK.of Z) (V0 (m.cp.getD k default).qu hI.qu) Z Z (a7 Z ?_)))))))
    first | refine b5 Z Z (E1 G Z Z Z Z (List.length_map _)) ?_ | refine b5 Z Z (K0 G Z Z Z Z) ?_
    refine a7 Z (b5 Z Z (b9 Z Z) (b4 (hK11 _ ?_)))
    clear hK11 K11
    refine o7 ?_
    refine i7 [2,3,21,22,23,44,45] [1,2,3,5,7,12,13] (λ(i:Nat)=>[(46,.v (.int .i64 (i:Int)))]) (λ(i:Nat)=>[(4,some (.row 4 1 ((b2T (poN m k) (C7 (m.cp.getD k default).qu) i).map m8)))]) (λ(i:Nat)=>i<=(C7 (m.cp.getD k default).qu).length) (λ(i:Nat)=>(C7 (m.cp.getD k default).qu).length - i) 0 Z Z ?_ ?_ ?_ ?_
    ·exact R9
    ·exact a84
    ·exact a07
    ·intro i hi
     have hbp:=λh=>a9E hI.qu (i:=i) h
     have hpo:=@I8 (poN m k) (C7 (m.cp.getD k default).qu) i
     have hp8:=@J8 m k
     simp only [List.cons_append,List.nil_append]
     refine c1 (λK12 hK12=>?_)
     refine b6 (a7 Z (b5 Z Z (t8 Z Z Z Z) (b4 (hK12 _ ?_))))
     clear hK12 K12
     refine c1 (λK13 hK13=>?_)
     refine l4 Z (λh2=>?_) (λh2=>?_)
     ·try rw [h2]
      try simp only [rfb] at h2
      have hbq:=hbp J
      refine p8 (hK13 _ ?_)
      clear hK13 K13
      refine c1 (λK14 hK14=>?_)
      refine o7 ?_
      refine c1 (λK15 hK15=>?_)
      refine b6 (a7 Z ?_)
      first | refine b5 Z Z (c7 G Z Z Z Z Z J (by rw [List.length_map];omega)) ?_ | refine b5 Z Z (c7 G Z Z Z Z Z J (by rw [List.length_map,I8,J8];omega)) ?_ | refine b5 Z Z (c7 G Z Z Z Z Z J (by simp;omega)) ?_ | refine b5 Z Z (c7 G Z Z Z Z Z J J) ?_
      refine a7 Z ?_
      first | refine b5 Z Z (f8 G Z Z Z Z Z (R1 J) Z) ?_ | refine b5 Z Z (f8 G Z Z Z Z Z (A1 J (by rw [I8,J8];omega)) Z) ?_ | refine b5 Z Z (f8 G Z Z Z Z Z (A1 J J) Z) ?_
      refine a7 Z (b5 Z Z (b8 Z Z) (b4 (hK15 _ ?_)))
      clear hK15 K15
      refine b6 (a7 Z (b5 Z Z (d3 G Z Z Z Z) (a7 Z (b5 Z Z (f7 G Z Z Z Z Z Z Z) (a7 Z (b5 Z Z (b9 Z Z) (a7 Z ?_)))))))
      first | refine b5 Z Z (c7 G Z Z Z Z Z J (by rw [List.length_map];omega)) ?_ | refine b5 Z Z (c7 G Z Z Z Z Z J (by rw [List.length_map,I8,J8];omega)) ?_ | refine b5 Z Z (c7 G Z Z Z Z Z J (by simp;omega)) ?_ | refine b5 Z Z (c7 G Z Z Z Z Z J J) ?_
      refine a7 Z ?_
      first | refine l8 G Z Z Z Z Z (R1 J) Z Z Z Z Z (Nat.le_of_ble_eq_true Z) Z ?_ | refine l8 G Z Z Z Z Z (A1 J (by rw [I8,J8];omega)) Z Z Z Z Z (Nat.le_of_ble_eq_true Z) Z ?_ | refine l8 G Z Z Z Z Z (A1 J J) Z Z Z Z Z (Nat.le_of_ble_eq_true Z) Z ?_
      refine b4 (hK14 _ ?_)
      clear hK14 K14
      refine b6 (a7 Z ?_)
      first | refine b5 Z Z (p5 Z Z Z Z J J) ?_ | refine b5 Z Z (s3 Z Z Z Z) ?_
      refine a7 Z (b5 Z Z (b9 Z Z) ?_)
      refine b4 ⟨(i+1),?_,?_,⟨⟨_,Z,by rfl⟩,Z,trivial⟩,⟨⟨_,Z,by (first | rfl | (exact congrArg (λz=>Row.row _ _ z) (a1S J)) | (exact congrArg (λz=>Row.nest _ _ z []) (a1T J Z)) | (exact congrArg (λz=>Row.row _ _ z) (by rw [a0g,List.map_set];rfl)) | (obtain rfl:i=(C7 (m.cp.getD k default).qu).length:=J;rfl))⟩,Z,Z,trivial⟩,Z,Z,Z⟩
      ·omega
      ·omega
     ·try rw [h2]
      try simp only [rfb] at h2
      refine G2 (hK7 _ ?_)
      clear hK13 K13 hK7 K7
      refine b6 (a7 Z ?_)
      first | refine b5 Z Z (p5 Z Z Z Z J J) ?_ | refine b5 Z Z (s3 Z Z Z Z) ?_
      refine a7 Z (b5 Z Z (b9 Z Z) (r9 (Gh.sub 12 6 np Z Z Z) ?_))
      refine b4 ⟨(k+1),?_,?_,⟨⟨_,Z,by rfl⟩,Z,trivial⟩,⟨⟨_,Z,by (first | rfl | (exact congrArg (λz=>Row.row _ _ z) (a1S J)) | (exact congrArg (λz=>Row.nest _ _ z []) (a1T J Z)) | (exact congrArg (λz=>Row.row _ _ z) (by rw [a0g,List.map_set];rfl)) | (obtain rfl:i=(C7 (m.cp.getD k default).qu).length:=J;rfl))⟩,Z,Z,⟨⟨_,Z,by (first | rfl | (exact congrArg (λz=>Row.row _ _ z) (a1S J)) | (exact congrArg (λz=>Row.nest _ _ z []) (a1T J Z)) | (exact congrArg (λz=>Row.row _ _ z) (by rw [a0g,List.map_set];rfl)) | (obtain rfl:i=(C7 (m.cp.getD k default).qu).length:=J;rfl))⟩,Z,Z,⟨⟨_,Z,by (first | rfl | (exact congrArg (λz=>Row.row _ _ z) (a1S J)) | (exact congrArg (λz=>Row.nest _ _ z []) (a1T J Z)) | (exact congrArg (λz=>Row.row _ _ z) (by rw [a0g,List.map_set];rfl)) | (obtain rfl:i=(C7 (m.cp.getD k default).qu).length:=J;rfl))⟩,Z,Z,trivial⟩⟩⟩,Z,Z,Z⟩
      ·omega
      ·omega
  ·try rw [h1]
   try simp only [rfb] at h1
   refine G2 (hK3 _ ?_)
   clear hK6 K6 hK3 K3
   refine c1 (λK16 hK16=>?_)
   refine b6 (a7 Z (b5 Z Z (d1 G Z Z Z Z Z Z) (a7 Z (e9 G Z Z Z Z Z Z Z Z Z Z Z (b4 (hK16 _ ?_))))))
   clear hK16 K16
   refine d8 (o8 Z Z Z Z (b3 (c8 Z ?_) (b3 (c8 Z ?_) (b3 (c8 Z ?_) (b3 (c8 Z ?_) (b3 (A8 Z ?_) d9))))))
   all_goals (first | rfl | (obtain rfl:k=m.cp.length:=J;first | rfl | (rw [b4a (Nat.le_refl _)];rfl)) | simp)
theorem b3l (m:Mach) (w:ByteArray) (l:List Int) (hs:SmallM m) (hM:a0A m=true) (hl:a2j (m9 w)=l.length) (hk:(a0D (m9 w) l).2=false):Ctr Tryz.prog 76 [.agg [.lst 2 (m.rs.map q9),.lst 1 (m.en.map m8),.lst 1 (m.ra.map m8),.nst none 4 (m.cp.map (r6 104 76))],.v (.string w),.lst 1 (l.map Rf.r7)] (.many [.v (.string (a6e m (m9 w) l).1),.v (.bool (a6e m (m9 w) l).2)]):=by
 have hG:=(maF hM).g
 have hra:=hG.ra
 have hcp:=hs.cp
 have hrl:=@a7q (λi=>m.ra.getD i default) 8
 have hkn:=c5S hk
 refine Ctr.of (n:=69) G Tryz.func76 Z a8 Z Z Z (λw0=>?_)
 refine n8 0 Z (λ_=>Z) (λu0=>?_)
 refine vm1 ?_
 refine X0 ?_
 refine zcd (λh1=>?_) (λh1=>?_)
 ·have k1:=b1Q.mp h1
  have hO:=b9s (m:=m) (l:=l) k1
  refine vm3 ?_
  refine b5 Z Z (a9U Z Z) ?_
  refine p6 ?_
  refine d4 2 Z Z Z (ArgsOK.of Z) (a8y 114 m (λi=>m.ra.getD i default) (λi hi=>b0L (i:Int) m J)) Z Z ?_
  refine zcl (U3 (raN m) (by unfold raN;omega) (b9q J)) ?_
  exact a7z
 have k1:=mt b1Q.mpr h1
 refine X0 ?_
 refine zcd (λh2=>?_) (λh2=>?_)
 ·have k2:=b1R.mp h2
  refine zcl (b07 m hs hM) ?_
  refine zcd (λh3=>?_) (λh3=>?_)
  ·have hO:=b6l (l:=l) k2 h3
   exact a7z
  have hO:=b6m (l:=l) k2 h3
  exact a7z
 have k2:=mt b1R.mpr h2
 have hA:=b9t (m:=m) (l:=l) k1 k2
 have hl1:l.length=1:=c1B hl k1 k2 hkn
 refine zgd ?_
 refine zcl (I9 m (l.getD ((0:Int)).toNat default) hcp) ?_
 refine zcd (λh4=>?_) (λh4=>?_)
 ·have hO:=hA.trans (b6n h4)
  exact a7z
 have hin:=v8.mp h4
 have hcl:(l.getD ((0:Int)).toNat default).toNat < m.cp.length:=J
 have hI:=(hG.ok _ hcl).f
 have hsn:=hI.sn
 have hpl:=a2S hI.qu
 have hnx:=@b0f m.rs (R8 m) (l.getD ((0:Int)).toNat default).toNat
 have cN:=a8z m.rs (R8 m) (l.getD ((0:Int)).toNat default).toNat (b9k hG) (by rw [b6q];exact hcl)
 rw [Int.toNat_of_nonneg J] at cN
 refine zgn ?_
 refine s9 (l2 9 [0] mixed a8 Z Z (λr0=>?_) (λ_ h=>h))
 refine a06 ?_
 refine a8r ?_
 refine b7 (rs:=[7]) a8 Z (AllB.cons ?_ AllB.nil)
 refine g9 [0] Z Z (d7 G 2 Z Z Z Z Z (b4 ⟨Z,?_⟩))
 refine b7 (rs:=[8]) a8 Z (AllB.cons ?_ AllB.nil)
 refine g9 [0] Z Z (a3H 38 Z (λ_=>Z) λv38=>e9 G Z Z Z Z Z Z Z Z Z Z Z (b4 ⟨Z,?_⟩))
 refine F3 ?_
 refine X0 ?_
 refine zcd (λh5=>?_) (λh5=>?_)
 ·have hO:=hA.trans (b6o h4 (b1X.mp h5))
  refine vm3 ?_
  refine d4 3 Z Z Z (ArgsOK.of Z) (V0 (m.cp.getD (l.getD ((0:Int)).toNat default).toNat default).qu hI.qu) Z Z ?_
  refine zcl (U3 (C7 (m.cp.getD (l.getD ((0:Int)).toNat default).toNat default).qu) J (b9u hI.qu)) ?_
  exact a7z
 have k5:=mt b1X.mpr h5
 refine X0 ?_
 refine zcd (λh6=>?_) (λh6=>?_)
 ·have hO:=hA.trans (b6p h4 (b1Y.mp h6))
  refine zcl (U3 (m.cp.getD (l.getD ((0:Int)).toNat default).toNat default).st J (b9v hI)) ?_
  exact a7z
 have k6:=mt b1Y.mpr h6
 refine X0 ?_
 refine zcd (λh7=>?_) (λh7=>?_)
 ·have hO:=hA.trans (b4h h4 (a8i.mp h7))
  refine zcl (a23 (m.cp.getD (l.getD ((0:Int)).toNat default).toNat default).qu.sl hI.qu.sl) ?_
  exact a7z
 have k7:=mt a8i.mpr h7
 have k8:m9 w=10:=c1C hl k1 k2 hkn k5 k6 k7
 refine zgn ?_
 refine s9 (s9 (l2 9 [0,1] mixed a8 Z Z (λr0=>?_) (λ_ h=>h)))
 refine zsa 0 ?_
 refine zsa 1 ?_
 refine zsa 2 ?_
 refine a8r ?_
 refine b7 (rs:=[3]) a8 Z (AllB.cons ?_ AllB.nil)
 refine g9 [0,1] Z Z (d4 7 Z Z Z (ArgsOK.of Z) (a5u m hG hs) Z Z (b4 ⟨Z,?_⟩))
 refine b7 (rs:=[7]) a8 Z (AllB.cons ?_ AllB.nil)
 refine g9 [0,1] Z Z (b5 Z Z (j4 Z (ArgsOK.of Z) cN Z) (b4 ⟨Z,?_⟩))
 refine zsa 8 ?_
 refine F3 ?_
 refine zcd (λh8=>?_) (λh8=>?_)
 ·have hO:=hA.trans (b11 h4 k8 h8)
  refine zcl (y8 (B8 m.rs (R8 m) (l.getD ((0:Int)).toNat default).toNat) J J) ?_
  exact a7z
 have hO:=hA.trans (b10 h4 k8 h8)
 exact a7z
theorem b0P (m:Mach) (w:ByteArray) (c:Int) (hs:SmallM m) (hM:a0A m=true):Ctr Tryz.prog 127 [.agg [.lst 2 (m.rs.map q9),.lst 1 (m.en.map m8),.lst 1 (m.ra.map m8),.nst none 4 (m.cp.map (r6 104 76))],.v (.string w),.v (.int .i64 c)] (.one (.v (.string (a4v m (m9 w) c)))):=by
 have hG:=(maF hM).g
 have hcp:=hs.cp
 refine Ctr.of (n:=57) G Tryz.func127 Z a8 Z Z Z (λw0=>?_)
 refine n8 0 Z (λ_=>Z) (λu0=>?_)
 refine vm1 ?_
 refine b3d ?_
 refine zcd (λh1=>?_) (λh1=>?_)
 ·have hO:=c5Y (k:=m9 w) h1
  exact b0B
 have hin:=v8.mp h1
 have hcl:(c).toNat < m.cp.length:=J
 have hI:=(hG.ok _ hcl).f
 have hsn:=hI.sn
 have hpl:=a2S hI.qu
 have hnx:=@b0f m.rs (R8 m) (c).toNat
 have cN:=b0N m.rs (R8 m) (c).toNat (b9k hG) (by rw [b6q];exact hcl)
 rw [Int.toNat_of_nonneg J] at cN
 refine X0 ?_
 refine zcd (λh2=>?_) (λh2=>?_)
 ·have hO:=c5Z h1 (b1X.mp h2)
  refine vm3 ?_
  refine b3a ?_
  refine vm3 ?_
  refine d4 2 Z Z Z (ArgsOK.of Z) (a0m (m.cp.getD (c).toNat default).qu hI.qu) Z Z ?_
  refine zcl (Y7 (C7 (m.cp.getD (c).toNat default).qu) J (b9u hI.qu)) ?_
  exact b0B
 have k2:=mt b1X.mpr h2
 refine X0 ?_
 refine zcd (λh3=>?_) (λh3=>?_)
 ·have hO:=c50 h1 (b1Y.mp h3)
  refine vm3 ?_
  refine b3a ?_
  refine p6 ?_
  refine b7C ?_
  refine zcl (Y7 (m.cp.getD (c).toNat default).st J (b9v hI)) ?_
  exact b0B
 have k3:=mt b1Y.mpr h3
 refine X0 ?_
 refine zcd (λh4=>?_) (λh4=>?_)
 ·have k4:=b2Y.mp h4
  refine s9 (s9 (l2 7 [0] mixed a8 Z Z (λr0=>?_) (λ_ h=>h)))
  refine b7F ?_
  refine b7 (rs:=[3]) a8 Z (AllB.cons ?_ AllB.nil)
  refine g9 [0] Z Z (d4 6 Z Z Z (ArgsOK.of Z) (b0O m hG hs) Z Z (b4 ⟨Z,?_⟩))
  refine b7 (rs:=[5]) a8 Z (AllB.cons ?_ AllB.nil)
  refine g9 [0] Z Z (b5 Z Z (j4 Z (ArgsOK.of Z) cN Z) (b4 ⟨Z,?_⟩))
  refine zsa 6 ?_
  refine F3 ?_
  refine zcd (λh5=>?_) (λh5=>?_)
  ·have hO:=b9G h1 k4 J
   refine zcl (u7 (B8 m.rs (R8 m) (c).toNat) J J) ?_
   exact b0B
  have hO:=b9F h1 k4 J
  exact b0B
 have k4:=mt b2Y.mpr h4
 refine X0 ?_
 refine zcd (λh6=>?_) (λh6=>?_)
 ·have hO:=c1G h1 (a8i.mp h6)
  refine vm3 ?_
  refine b3a ?_
  refine p6 ?_
  refine b3a ?_
  refine p6 ?_
  refine b7C ?_
  refine zcl (a5N (m.cp.getD (c).toNat default).qu.sl hI.qu.sl) ?_
  exact b0B
 have hO:=b9H (m:=m) (c:=c) k2 k3 (mt a8i.mpr h6) k4
 exact b0B
theorem Y8 (m:Mach) (x:Lg) (hs:SmallM m) (hx:x.d.size+x.p.size<=1048576):Ctr Tryz.prog 33 [.agg [.lst 2 (m.rs.map q9),.lst 1 (m.en.map m8),.lst 1 (m.ra.map m8),.nst none 4 (m.cp.map (r6 104 76)),.v (.string x.d),.v (.string x.p),.v (.int .i64 x.n)]] (.one (.v (.bool (okCo m x)))):=by
 refine Ctr.of (n:=11) G Tryz.func33 Z a8 Z Z Z (λw0=>?_)
 refine n8 0 Z (λ_=>Z) (λu0=>?_)
 refine vm1 ?_
 refine zcl (a4N m hs) ?_
 refine zcd (λh1=>?_) (λh1=>?_)
 ·refine zcl (a2p x hx) ?_
  exact b6H
 exact b6H
theorem O1 (m:Mach) (x:Lg) (hs:SmallM m) (hx:x.d.size+x.p.size<=1048576):Ctr Tryz.prog 17 [.agg [.lst 2 (m.rs.map q9),.lst 1 (m.en.map m8),.lst 1 (m.ra.map m8),.nst none 4 (m.cp.map (r6 104 76)),.v (.string x.d),.v (.string x.p),.v (.int .i64 x.n)]] (.one (.v (.bool (okCo m x)))):=by
 refine Ctr.of (n:=11) G Tryz.func17 Z a8 Z Z Z (λw0=>?_)
 refine n8 0 Z (λ_=>Z) (λu0=>?_)
 refine vm1 ?_
 refine zcl (a0n m hs) ?_
 refine zcd (λh1=>?_) (λh1=>?_)
 ·refine zcl (a11 x hx) ?_
  exact b6H
 exact b6H
theorem a9q (m:Mach) (hs:SmallM m):Ctr Tryz.prog 79 [.agg [.lst 2 (m.rs.map q9),.lst 1 (m.en.map m8),.lst 1 (m.ra.map m8),.nst none 4 (m.cp.map (r6 104 76))]] (.shp true [some 4] [.fr 132 2 (m.rs.map q9),.fr 4 1 (m.en.map m8),.fr 4 1 (m.ra.map m8),.ne 74 4 (m.cp.map (r6 104 76))]):=by
 have z0:=hs.rs
 have z1:=hs.en
 have z2:=hs.ra
 have z3:=hs.cp
 refine Ctr.of (n:=38) G Tryz.func79 Z a8 Z Z Z (λw0=>?_)
 refine n8 0 Z (λ_=>Z) (λu0=>?_)
 refine vm1 ?_
 refine vm9 ?_
 refine zgn ?_
 refine s9 (l2 16 [0,1] mixed a8 Z Z (λr0=>?_) (λ_ h=>h))
 refine zsa 1 ?_
 refine zsa 2 ?_
 refine zsa 5 ?_
 refine zsa 6 ?_
 refine zsa 9 ?_
 refine zsa 10 ?_
 refine A9 (N:=7) Z (s7 (fuel:=5) [⟨0,5,2,false,.row 132 2 []⟩,⟨4,9,3,false,.row 4 1 []⟩,⟨8,13,4,false,.row 4 1 []⟩,⟨12,17,5,false,.row 74 4 []⟩,⟨14,3,6,true,.box (avR [.slice none 0 0,.slice none 0 0,.slice none 0 0,.slice none 0 0] [])⟩] (AllVOK.cons (VOK.lit G Z Z Z Z Z) (AllVOK.cons (VOK.lit G Z Z Z Z Z) (AllVOK.cons (VOK.lit G Z Z Z Z Z) (AllVOK.cons (VOK.lit G Z Z Z Z Z) (AllVOK.cons (VOK.boxS G Z Z Z Z Z) (AllVOK.nil)))))) (λhok=>?_))
 refine n6 [(3,[0])] a8 a8 (λe he=>hok e he) a8 (AllVS.cons ?_ AllVS.nil)
 refine VStep.mk1 [0,1] 5 (.own 2) 2 (.row 132 2 []) [⟨4,9,3,false,.row 4 1 []⟩,⟨8,13,4,false,.row 4 1 []⟩,⟨12,17,5,false,.row 74 4 []⟩,⟨14,3,6,true,.box (avR [.slice none 0 0,.slice none 0 0,.slice none 0 0,.slice none 0 0] [])⟩] Z Z Z Z Z (λb1 _ hbn=>l1 G T5 Z Z Z Z Z Z Z Z Z M8 Z Z (b4 Z)) a8 a8 a8 a8 (n6 [(7,[4])] a8 a8 (λe he=>hok e (vin (is:=[0]) Z he)) a8 (AllVS.cons ?_ AllVS.nil))
 refine VStep.mk1 [0,1] 9 (.own 3) 3 (.row 4 1 []) [⟨8,13,4,false,.row 4 1 []⟩,⟨12,17,5,false,.row 74 4 []⟩,⟨14,3,6,true,.box (avR [.slice none 0 0,.slice none 0 0,.slice none 0 0,.slice none 0 0] [])⟩] Z Z Z Z Z (λb1 _ hbn=>l1 G T5 Z Z Z Z Z Z Z Z Z M8 Z Z (b4 Z)) a8 a8 a8 a8 (n6 [(11,[8])] a8 a8 (λe he=>hok e (vin (is:=[0,4]) Z he)) a8 (AllVS.cons ?_ AllVS.nil))
 refine VStep.mk1 [0,1] 13 (.own 4) 4 (.row 4 1 []) [⟨12,17,5,false,.row 74 4 []⟩,⟨14,3,6,true,.box (avR [.slice none 0 0,.slice none 0 0,.slice none 0 0,.slice none 0 0] [])⟩] Z Z Z Z Z (λb1 _ hbn=>l1 G T5 Z Z Z Z Z Z Z Z Z M8 Z Z (b4 Z)) a8 a8 a8 a8 (n6 [(13,[12])] a8 a8 (λe he=>hok e (vin (is:=[0,4,8]) Z he)) a8 (AllVS.cons ?_ AllVS.nil))
 refine VStep.mk1 [0,1] 17 (.own 5) 5 (.row 74 4 []) [⟨14,3,6,true,.box (avR [.slice none 0 0,.slice none 0 0,.slice none 0 0,.slice none 0 0] [])⟩] Z Z Z Z Z (λb1 _ hbn=>b5 Z Z (w9 G Z Z Z Z) (b4 Z)) a8 a8 a8 a8 (n6 [(15,[14])] a8 a8 (λe he=>hok e (vin (is:=[0,4,8,12]) Z he)) a8 (AllVS.cons ?_ AllVS.nil))
 refine c6z ?_
 clear hok
 refine c6K ?_
 refine i7 [1,2,3] [0,1,2,3,4,6] (λ(k:Nat)=>[(4,.v (.int .i64 (k:Int)))]) (λ(k:Nat)=>[(5,some (.nest 74 4 ((m.cp.take k).map (r6 104 76)) []))]) (λ(k:Nat)=>k<=m.cp.length) (λ(k:Nat)=>m.cp.length - k) 0 Z Z ?_ ?_ ?_ ?_
 ·exact R9
 ·exact a84
 ·exact a07
 intro k hk
 have hkl:((m.cp.take k).map (r6 104 76)).length=k:=b97
 refine vm2 ?_
 refine zcd (λh1=>?_) (λh1=>?_)
 ·have g0:=hs.allI (i:=k) J
  unfold szI at g0
  exact c8O
 obtain rfl:k=m.cp.length:=J
 refine zgo ?_
 refine d8 (o8 Z Z Z Z (b3 (c8 Z ?_) (b3 (c8 Z ?_) (b3 (c8 Z ?_) (b3 (A8 Z ?_) d9)))))
 all_goals exact c6w
theorem a5v (m:Mach) (hs:SmallM m):Ctr Tryz.prog 70 [.agg [.lst 2 (m.rs.map q9),.lst 1 (m.en.map m8),.lst 1 (m.ra.map m8),.nst none 4 (m.cp.map (r6 104 76))]] (.shp true [some 4] [.fr 132 2 (m.rs.map q9),.fr 4 1 (m.en.map m8),.fr 4 1 (m.ra.map m8),.ne 74 4 (m.cp.map (r6 104 76))]):=by
 have z0:=hs.rs
 have z1:=hs.en
 have z2:=hs.ra
 have z3:=hs.cp
 refine Ctr.of (n:=36) G Tryz.func70 Z a8 Z Z Z (λw0=>?_)
 refine n8 0 Z (λ_=>Z) (λu0=>?_)
 refine vm1 ?_
 refine vm9 ?_
 refine zgn ?_
 refine s9 (l2 16 [0,1] mixed a8 Z Z (λr0=>?_) (λ_ h=>h))
 refine zsa 1 ?_
 refine zsa 2 ?_
 refine zsa 5 ?_
 refine zsa 6 ?_
 refine zsa 9 ?_
 refine zsa 10 ?_
 refine A9 (N:=7) Z (s7 (fuel:=5) [⟨0,6,2,false,.row 132 2 []⟩,⟨4,10,3,false,.row 4 1 []⟩,⟨8,14,4,false,.row 4 1 []⟩,⟨12,18,5,false,.row 74 4 []⟩,⟨14,3,6,true,.box (avR [.slice none 0 0,.slice none 0 0,.slice none 0 0,.slice none 0 0] [])⟩] (AllVOK.cons (VOK.lit G Z Z Z Z Z) (AllVOK.cons (VOK.lit G Z Z Z Z Z) (AllVOK.cons (VOK.lit G Z Z Z Z Z) (AllVOK.cons (VOK.lit G Z Z Z Z Z) (AllVOK.cons (VOK.boxS G Z Z Z Z Z) (AllVOK.nil)))))) (λhok=>?_))
 refine n6 [(3,[0])] a8 a8 (λe he=>hok e he) a8 (AllVS.cons ?_ AllVS.nil)
 refine VStep.mk1 [0,1] 6 (.own 2) 2 (.row 132 2 []) [⟨4,10,3,false,.row 4 1 []⟩,⟨8,14,4,false,.row 4 1 []⟩,⟨12,18,5,false,.row 74 4 []⟩,⟨14,3,6,true,.box (avR [.slice none 0 0,.slice none 0 0,.slice none 0 0,.slice none 0 0] [])⟩] Z Z Z Z Z (λb1 _ hbn=>l1 G T5 Z Z Z Z Z Z Z Z Z M8 Z Z (b4 Z)) a8 a8 a8 a8 (n6 [(7,[4])] a8 a8 (λe he=>hok e (vin (is:=[0]) Z he)) a8 (AllVS.cons ?_ AllVS.nil))
 refine VStep.mk1 [0,1] 10 (.own 3) 3 (.row 4 1 []) [⟨8,14,4,false,.row 4 1 []⟩,⟨12,18,5,false,.row 74 4 []⟩,⟨14,3,6,true,.box (avR [.slice none 0 0,.slice none 0 0,.slice none 0 0,.slice none 0 0] [])⟩] Z Z Z Z Z (λb1 _ hbn=>l1 G T5 Z Z Z Z Z Z Z Z Z M8 Z Z (b4 Z)) a8 a8 a8 a8 (n6 [(11,[8])] a8 a8 (λe he=>hok e (vin (is:=[0,4]) Z he)) a8 (AllVS.cons ?_ AllVS.nil))
 refine VStep.mk1 [0,1] 14 (.own 4) 4 (.row 4 1 []) [⟨12,18,5,false,.row 74 4 []⟩,⟨14,3,6,true,.box (avR [.slice none 0 0,.slice none 0 0,.slice none 0 0,.slice none 0 0] [])⟩] Z Z Z Z Z (λb1 _ hbn=>l1 G T5 Z Z Z Z Z Z Z Z Z M8 Z Z (b4 Z)) a8 a8 a8 a8 (n6 [(13,[12])] a8 a8 (λe he=>hok e (vin (is:=[0,4,8]) Z he)) a8 (AllVS.cons ?_ AllVS.nil))
 refine VStep.mk1 [0,1] 18 (.own 5) 5 (.row 74 4 []) [⟨14,3,6,true,.box (avR [.slice none 0 0,.slice none 0 0,.slice none 0 0,.slice none 0 0] [])⟩] Z Z Z Z Z (λb1 _ hbn=>b5 Z Z (w9 G Z Z Z Z) (b4 Z)) a8 a8 a8 a8 (n6 [(15,[14])] a8 a8 (λe he=>hok e (vin (is:=[0,4,8,12]) Z he)) a8 (AllVS.cons ?_ AllVS.nil))
 refine c6z ?_
 clear hok
 refine c6K ?_
 refine i7 [2,3,21,22] [1,2,3,4,6] (λ(k:Nat)=>[(23,.v (.int .i64 (k:Int)))]) (λ(k:Nat)=>[(5,some (.nest 74 4 ((m.cp.take k).map (r6 104 76)) []))]) (λ(k:Nat)=>k<=m.cp.length) (λ(k:Nat)=>m.cp.length - k) 0 Z Z ?_ ?_ ?_ ?_
 ·exact R9
 ·exact a84
 ·exact a07
 intro k hk
 have hkl:((m.cp.take k).map (r6 104 76)).length=k:=b97
 refine vm2 ?_
 refine zcd (λh1=>?_) (λh1=>?_)
 ·have g0:=hs.allI (i:=k) J
  unfold szI at g0
  refine vm3 ?_
  refine b4q ?_
  refine p6 ?_
  refine a3H 26 Z (λ_=>Z) λv26=>e9 G Z Z Z Z Z Z Z Z Z Z Z ?_
  refine zgo ?_
  apply C4 [2,3,21,22,23] [1,2,3,4,6,12] 13 8 [1,2,3,4,7] mixed a8 Z Z (λ_ h=>znk h)
  ·intro r0
   refine zsa 0 ?_
   refine zsa 2 ?_
   refine b7 (rs:=[1,3]) a8 Z (AllB.cons ?_ (AllB.cons ?_ AllB.nil))
   ·refine g9 [1,2,3,4,7] Z Z ?_
    refine N8 ?_
    refine b7 (rs:=[3]) a8 Z (AllB.cons ?_ AllB.nil)
    refine g9 [1,2,3,4,7] Z Z (d4 11 Z Z Z (ArgsOK.of Z) (E8 (m.cp.getD k default) J J J) Z Z (b4 ⟨Z,?_⟩))
    exact c4J
   refine g9 [1,2,3,4,7] Z Z (d4 11 Z Z Z (ArgsOK.of Z) (E8 (m.cp.getD k default) J J J) Z Z (b4 ⟨Z,?_⟩))
   refine b7 (rs:=[1,4]) a8 Z (AllB.cons ?_ (AllB.cons ?_ AllB.nil))
   ·refine g9 [1,2,3,4,7] Z Z ?_
    refine N8 ?_
    exact c4J
   refine g9 [1,2,3,4,7] Z Z (B2 G 12 Z Z Z Z Z Z Z Z (.v Z (.own Z (.own Z (.own Z .nil)))) Z Z Z Z (b4 ⟨Z,?_⟩))
   refine b7 (rs:=[1]) a8 Z (AllB.cons ?_ AllB.nil)
   refine g9 [1,2,3,4,7] Z Z ?_
   refine N8 ?_
   exact c4f
  refine b6 ?_
  refine a2n ?_
  refine r9 (Gh.sub 12 5 np Z Z Z) (b4 ⟨(k+1),?_,?_,⟨⟨_,Z,by rfl⟩,Z,trivial⟩,⟨⟨_,Z,by (exact congrArg (λz=>Row.nest _ _ z []) (b1M J Z))⟩,Z,Z,trivial⟩,Z,Z,Z⟩)
  ·omega
  omega
 obtain rfl:k=m.cp.length:=J
 refine zgo ?_
 refine d8 (o8 Z Z Z Z (b3 (c8 Z ?_) (b3 (c8 Z ?_) (b3 (c8 Z ?_) (b3 (A8 Z ?_) d9)))))
 all_goals exact c6w
theorem w3 (m:Mach) (x:Lg) (hs:SmallM m) (hx:x.d.size+x.p.size<=1048576):Ctr Tryz.prog 46 [.agg [.lst 2 (m.rs.map q9),.lst 1 (m.en.map m8),.lst 1 (m.ra.map m8),.nst none 4 (m.cp.map (r6 104 76)),.v (.string x.d),.v (.string x.p),.v (.int .i64 x.n)]] (.shp true [some 7] [.fr 132 2 (m.rs.map q9),.fr 4 1 (m.en.map m8),.fr 4 1 (m.ra.map m8),.ne 74 4 (m.cp.map (r6 104 76)),.v (.string x.d),.v (.string x.p),.v (.int .i64 x.n)]):=by
 refine Ctr.of (n:=9) G Tryz.func46 Z a8 Z Z Z (λw0=>?_)
 refine n8 0 Z (λ_=>Z) (λu0=>?_)
 refine vm1 ?_
 refine vm9 ?_
 refine zgn ?_
 refine s9 (l2 7 [0] mixed a8 Z Z (λr0=>?_) (λ_ h=>h))
 refine zsa 0 ?_
 refine zsa 1 ?_
 refine zsa 3 ?_
 refine zsa 4 ?_
 refine b7 (rs:=[2]) a8 Z (AllB.cons ?_ AllB.nil)
 refine g9 [0] Z Z (d4 6 Z Z Z (ArgsOK.of Z) (a9q m hs) Z Z (b4 ⟨Z,?_⟩))
 exact c9h
theorem a1Z (m:Mach) (x:Lg) (hs:SmallM m) (hx:x.d.size+x.p.size<=1048576):Ctr Tryz.prog 42 [.agg [.lst 2 (m.rs.map q9),.lst 1 (m.en.map m8),.lst 1 (m.ra.map m8),.nst none 4 (m.cp.map (r6 104 76)),.v (.string x.d),.v (.string x.p),.v (.int .i64 x.n)]] (.shp true [some 7] [.fr 132 2 (m.rs.map q9),.fr 4 1 (m.en.map m8),.fr 4 1 (m.ra.map m8),.ne 74 4 (m.cp.map (r6 104 76)),.v (.string x.d),.v (.string x.p),.v (.int .i64 x.n)]):=by
 refine Ctr.of (n:=9) G Tryz.func42 Z a8 Z Z Z (λw0=>?_)
 refine n8 0 Z (λ_=>Z) (λu0=>?_)
 refine vm1 ?_
 refine vm9 ?_
 refine zgn ?_
 refine s9 (l2 7 [0] mixed a8 Z Z (λr0=>?_) (λ_ h=>h))
 refine zsa 0 ?_
 refine zsa 1 ?_
 refine zsa 3 ?_
 refine zsa 4 ?_
 refine b7 (rs:=[2]) a8 Z (AllB.cons ?_ AllB.nil)
 refine g9 [0] Z Z (d4 6 Z Z Z (ArgsOK.of Z) (a5v m hs) Z Z (b4 ⟨Z,?_⟩))
 exact c9h
end Go.Proofs.YtdhckhjphmjniaaGreatDoor
