/- Texts merged into one: M24, M26, D3, D4, D5. -/
import Derived.Test.YtdhckhjphmjniaaGreatDoorPFnReplayD
set_option maxHeartbeats 4000000
set_option linter.unusedSimpArgs false
set_option linter.unusedVariables false
set_option maxRecDepth 20000
namespace Go.Proofs.YtdhckhjphmjniaaGreatDoor
open Go Go.Rf
theorem b1p (m:Mach) (hM:MaG m):Ctr Tryz.prog 149 [.agg [.lst 2 (m.rs.map p5),.lst 1 (m.en.map m9),.lst 1 (m.ra.map m9),.nst none 4 (m.cp.map (s2 104 76))]] (.shp true [some 4] [.fr 132 2 ((b08 m).rs.map p5),.fr 4 1 ((b08 m).en.map m9),.fr 4 1 ((b08 m).ra.map m9),.ne 74 4 ((b08 m).cp.map (s2 104 76))]):=by
 have f1:=hM.n
 have f2:=hM.en
 have f3:=hM.ra
 have f4:=hM.rn
 refine Ctr.of (n:=63) G Tryz.func149 Z a8 Z Z Z (λw0=>?_)
 refine n9 0 Z (λ_=>Z) (λu0=>?_)
 refine vm1 ?_
 refine vm9 ?_
 refine vm3 ?_
 refine d3 6 Z Z Z (ArgsOK.of Z) (a2O m hM) Z Z ?_
 refine r6 ?_
 refine d6 G 7 Z Z Z Z Z ?_
 refine zgo ?_
 refine i6 [1,2,3] [0,1,2,3,6] (λ(i:Nat)=>[(4,.v (.int .i64 (i:Int)))]) (λ(i:Nat)=>[(4,some (.row 4 1 ((a6z m i).map m9))),(5,some (.nest 74 4 ((R6 m i).map (s2 104 76)) []))]) (λ(i:Nat)=>i<=8) (λ(i:Nat)=>8 - i) 0 Z Z ?_ ?_ ?_ ?_
 ·exact P9
 ·exact a6F
 ·exact b5t
 intro i hi
 have hrl:=@a4W m i
 have hcl:=@I8 m i
 have htg:=λh=>hM.tg (i:=i) h
 refine vm2 ?_
 refine zcd (λh1=>?_) (λh1=>?_)
 ·obtain ⟨hta,htb,htc⟩:=htg J
  obtain ⟨hst,hIG⟩:=a7Q hM (i:=i) (k:=tgM m i) J htb
  have htd:tgM m i < m.cp.length:=htb
  refine zcd (λh2=>?_) (λh2=>?_)
  ·refine zcd (λh3=>?_) (λh3=>?_)
   ·refine zgo ?_
    refine Y5 ?_
    refine b34 ?_
    refine Y5 ?_
    refine b8R ?_
    refine zcl (a36 (m.cp.getD (tgM m i) default).st _ (by have:=(hM.ok _ htd).f.sn;omega)) ?_
    refine zcd (λh4=>?_) (λh4=>?_)
    ·have hcn:=c0u (m:=m) (i:=i) h2 h3 h4
     refine d0b ?_
     refine O6 (Gh.open (id:=5) (i:=(tgM m i)) (k:=1) 8 Z Z (c7m J) Z Z) (O6 (Gh.open (id:=5) (i:=(tgM m i)) (k:=2) 9 Z Z (a3T N7 Z) Z Z) (O6 (Gh.open (id:=5) (i:=(tgM m i)) (k:=3) 10 Z Z (a3T N7 Z) Z Z) (j7 18 [0,1,2,3,4,6,7,8,9] mixed a8 Z Z (λr0=>?_) (λ_ h=>h))))
     refine a1q ?_
     refine zsa 4 ?_
     refine zsa 5 ?_
     refine zsa 8 ?_
     refine zsa 9 ?_
     refine zsa 10 ?_
     refine zsa 11 ?_
     refine zsa 12 ?_
     refine zsa 13 ?_
     refine zsa 14 ?_
     refine b7 (rs:=[6]) a8 Z (AllB.cons ?_ AllB.nil)
     first | refine e9 [0,1,2,3,4,6,7,8,9] Z Z (b5 Z Z (v7 G Z Z Z Z Z J Y4) (b4 ⟨Z,?_⟩)) | refine e9 [0,1,2,3,4,6,7,8,9] Z Z (b5 Z Z (v7 G Z Z Z Z Z J N7) (b4 ⟨Z,?_⟩))
     refine b7 (rs:=[7]) a8 Z (AllB.cons ?_ AllB.nil)
     refine g9 [0,1,2,3,4,6,7,8,9] Z Z (b5 Z Z (V3 G Z Z Z Z (a3T N7 Z) Z (.v (.own a77 (.own a77 (.own a77 .nil))))) (b4 ⟨Z,?_⟩))
     refine b7 (rs:=[15]) a8 Z (AllB.cons ?_ AllB.nil)
     refine g9 [0,1,2,3,4,6,7,8,9] Z Z (d3 13 Z Z Z (ArgsOK.of Z) (V0 ((R6 m i).getD (tgM m i) default) _ _ hIG.f J htc) Z Z (b4 ⟨Z,?_⟩))
     refine a3a (Gh.detach (id:=5) Z) (a3a (Gh.detach (id:=5) Z) (a3a (Gh.detach (id:=5) Z) (b7 (rs:=[16]) a8 Z (AllB.cons ?_ AllB.nil))))
     first | refine e9 [0,1,2,3,4,6,7,8,9] Z Z (b5 Z Z (v7 G Z Z Z Z Z J Y4) (b4 ⟨Z,?_⟩)) | refine e9 [0,1,2,3,4,6,7,8,9] Z Z (b5 Z Z (v7 G Z Z Z Z Z J N7) (b4 ⟨Z,?_⟩))
     refine b7 (rs:=[17]) a8 Z (AllB.cons ?_ AllB.nil)
     refine g9 [0,1,2,3,4,6,7,8,9] Z Z (s5 G Z Z Z Z Z (a3T N7 Z) Z Z (.v Z (.own Z (.own Z (.own Z .nil)))) Z Z Z (Nat.le_of_ble_eq_true Z) (λq h=>by cases h) Z (b4 ⟨Z,?_⟩))
     refine H8 ?_
     exact c3t
    have hcn:=c0x (m:=m) (i:=i) h4
    exact c3t
   have hcn:=c0w (m:=m) (i:=i) h3
   refine zwf ?_
   exact c3t
  have hcn:=c0v (m:=m) (i:=i) h2
  refine zwf ?_
  exact c3t
 obtain rfl:i=8:=J
 refine zgo ?_
 refine d7 (p7 Z Z Z Z (b3 (c7 Z ?_) (b3 (c7 Z ?_) (b3 (c7 Z ?_) (b3 (B2 Z ?_) d9)))))
 all_goals (rfl)
theorem a9O (z:Value) (sl:List Slot) (lim:Int) (hF:SlF sl) (hk:a0u sl lim=false):Ctr Tryz.prog 253 [.pin z 3 (sl.map j4),.v (.int .i64 lim)] (.many [.v z,.v (.int .i64 (-1))]):=by
 have hl4:=hF.len
 have hb:=@a1o sl true
 have hf:=@a1K sl
 have hkk:=a5G.mp hk
 refine Ctr.of (n:=33) G Tryz.func253 Z a8 Z Z Z (λw0=>?_)
 refine zcl (a09 sl J) ?_
 refine zcd (λh1=>?_) (λh1=>?_)
 ·refine zwt ?_
  exact c5v
 refine zgo ?_
 refine Y5 ?_
 first | refine b5 Z Z (a2c G Z Z Z Z J (a2z J)) ?_ | refine b5 Z Z (a2c G Z Z Z Z J (H1 J J)) ?_ | refine b5 Z Z (a2c G Z Z Z Z J (C3 J J)) ?_
 refine zcd (λh2=>?_) (λh2=>?_)
 ·exact c5v
 exfalso;omega
theorem a3u (q:Que) (lim:Int) (hF:QF q) (hk:a0u q.sl lim=false):Ctr Tryz.prog 198 [.agg [.lst 3 (q.sl.map j4),.lst 2 (q.wa.map j8)],.v (.int .i64 lim)] (.shp false [some 2,none] [.fr 104 3 (q.sl.map j4),.fr 76 2 (q.wa.map j8),.v (.int .i64 (-1))]):=by
 have hl4:=hF.sl.len
 have hwn:=hF.wn
 refine Ctr.of (n:=24) G Tryz.func198 Z a8 Z Z Z (λw0=>?_)
 refine n9 0 Z (λ_=>Z) (λu0=>?_)
 refine vm1 ?_
 refine vm9 ?_
 refine zgo ?_
 refine c2X (t:=10) Z (λz10=>?_)
 refine r6 ?_
 refine b5 Z Z (i7 Z (ArgsOK.pin1 Z (ArgsOK.of Z)) (a9O _ q.sl lim hF.sl hk) Z) ?_
 refine zgn ?_
 refine t8 (O6 (Gh.asPin (d:=6) (t:=10) Z Z) (j7 11 [0] mixed a8 Z Z (λr0=>?_) (λ_ h=>h)))
 refine zsa 1 ?_
 refine zsa 4 ?_
 refine zsa 5 ?_
 refine zsa 8 ?_
 refine A7 (N:=4) Z (s8 (fuel:=5) [⟨0,15,2,false,.row 104 3 []⟩,⟨3,18,3,false,.row 76 2 []⟩] (AllVOK.cons (VOK.lit G Z Z Z Z Z) (AllVOK.cons (VOK.lit G Z Z Z Z Z) (AllVOK.nil))) (λhok=>?_))
 refine m6 [(2,[0])] a8 a8 (λe he=>hok e he) a8 (AllVS.cons ?_ AllVS.nil)
 refine VStep.mk1 [0] 15 (.own 2) 2 (.row 104 3 []) [⟨3,18,3,false,.row 76 2 []⟩] Z Z Z Z Z (λb1 _ hbn=>l2 G U5 Z Z Z Z Z Z Z Z Z n8 Z Z (b4 Z)) a8 a8 a8 a8 (m6 [(6,[3])] a8 a8 (λe he=>hok e (vin (is:=[0]) Z he)) a8 (AllVS.cons ?_ AllVS.nil))
 refine VStep.mk1 [0] 18 (.own 3) 3 (.row 76 2 []) [] Z Z Z Z Z (λb1 _ hbn=>l2 G U5 Z Z Z Z Z Z Z Z Z n8 Z Z (b4 Z)) a8 a8 a8 a8 (E1 ?_)
 clear hok
 refine b7 (rs:=[7]) a8 Z (AllB.cons ?_ AllB.nil)
 refine b37 ?_
 refine b7 (rs:=[9]) a8 Z (AllB.cons ?_ AllB.nil)
 refine b37 ?_
 refine zsa 10 ?_
 refine H8 ?_
 refine d7 (p7 Z Z Z Z (b3 (c7 Z ?_) (b3 (c7 Z ?_) (b3 (i8 ?_) d9))))
 all_goals (first | rfl | simp)
theorem a2u (x:Ifc) (hF:IfF x) (hk:okT x=false):Ctr Tryz.prog 150 [.agg [.v (.int .i64 x.ma),.lst 1 (x.st.map Rf.s3),.lst 3 (x.qu.sl.map j4),.lst 2 (x.qu.wa.map j8)]] (.shp false [some 4,none] [.v (.int .i64 x.ma),.fr 3 1 (x.st.map Rf.s3),.fr 104 3 (x.qu.sl.map j4),.fr 76 2 (x.qu.wa.map j8),.v (.int .i64 (-1))]):=by
 have hl4:=hF.qu.sl.len
 have hwn:=hF.qu.wn
 have hsn:=hF.sn
 refine Ctr.of (n:=35) G Tryz.func150 Z a8 Z Z Z (λw0=>?_)
 refine n9 0 Z (λ_=>Z) (λu0=>?_)
 refine vm1 ?_
 refine vm9 ?_
 refine zgn ?_
 refine t8 (j7 14 [0,1] mixed a8 Z Z (λr0=>?_) (λ_ h=>h))
 refine a1q ?_
 refine zsa 4 ?_
 refine A7 (N:=3) Z (s8 (fuel:=8) [⟨11,4,2,true,.box (avR [.slice none 0 0,.slice none 0 0] [])⟩] (AllVOK.cons (VOK.boxS G Z Z Z Z Z) (AllVOK.nil)) (λhok=>?_))
 refine m6 [(5,[])] a8 a8 (λe he=>hok e he) a8 (AllVS.cons ?_ AllVS.nil)
 refine VStep.mk0 [0,1] Z Z (λb1 _ hbn=>b5 Z Z (i7 Z (ArgsOK.of Z) (a2t x hF) Z) (b4 Z)) a8 a8 a8 a8 (m6 [(6,[])] a8 a8 (λe he=>hok e he) a8 (AllVS.cons ?_ AllVS.nil))
 refine VStep.mk0 [0,1] Z Z (λb1 _ hbn=>b5 Z Z (i7 Z (ArgsOK.of Z) (a5a _ _) Z) (b4 Z)) a8 a8 a8 a8 (m6 [(7,[])] a8 a8 (λe he=>hok e he) a8 (AllVS.cons ?_ AllVS.nil))
 refine VStep.mk0 [0,1] Z Z (λb1 _ hbn=>d3 5 Z Z Z (ArgsOK.of Z) (a3u x.qu (b8A x) hF.qu hk) Z Z (b4 Z)) a8 a8 a8 a8 (w6 8 Z a8 Z Z Z Z (b8 Z Z) a8 a8 a8 (w6 9 Z a8 Z Z Z Z (e7 Z Z Z) a8 a8 a8 (w6 10 Z a8 Z Z Z Z (e7 Z Z Z) a8 a8 a8 (m6 [(12,[11])] a8 a8 (λe he=>hok e he) a8 (AllVS.cons ?_ AllVS.nil)))))
 refine d0a ?_
 clear hok
 refine zsa 13 ?_
 refine H8 ?_
 refine t8 (j7 9 [0,1,2,3,4] mixed a8 Z Z (λr0=>?_) (λ_ h=>h))
 refine a1q ?_
 refine zsa 5 ?_
 refine A7 (N:=6) Z (s8 (fuel:=3) [⟨7,6,5,true,.box (avR [.int .i64 0,.slice none 0 0,.slice none 0 0,.slice none 0 0] [])⟩] (AllVOK.cons (VOK.boxS G Z Z Z Z Z) (AllVOK.nil)) (λhok=>?_))
 refine m6 [(4,[])] a8 a8 (λe he=>hok e he) a8 (AllVS.cons ?_ AllVS.nil)
 refine VStep.mk0 [0,1,2,3,4] Z Z (λb1 _ hbn=>d3 7 Z Z Z (ArgsOK.of Z) (I9 x.st J) Z Z (b4 Z)) a8 a8 a8 a8 (m6 [(6,[])] a8 a8 (λe he=>hok e he) a8 (AllVS.cons ?_ AllVS.nil))
 refine VStep.mk0 [0,1,2,3,4] Z Z (λb1 _ hbn=>b5 Z Z (u3 G Z Z Z Z) (b4 Z)) a8 a8 a8 a8 (m6 [(8,[7])] a8 a8 (λe he=>hok e he) a8 (AllVS.cons ?_ AllVS.nil))
 refine c97 ?_
 clear hok
 refine H8 ?_
 refine zcd (λh1=>?_) (λh1=>?_)
 ·exfalso;omega
 refine zgo ?_
 refine d7 (p7 Z Z Z Z (b3 (i8 ?_) (b3 (c7 Z ?_) (b3 (c7 Z ?_) (b3 (c7 Z ?_) (b3 (i8 ?_) d9))))))
 all_goals (rfl)
theorem a6L (x:Ifc) (hn:x.st.length=0):CtrE (α:=Nat→Option Addr×Nat×Nat) Tryz.prog 151 [.agg [.v (.int .i64 x.ma),.lst 1 (x.st.map Rf.s3),.lst 3 (x.qu.sl.map j4),.lst 2 (x.qu.wa.map j8)]] (λy=>(.shp false [some 4,none] [.v (.int .i64 x.ma),.v (.slice (y 1).1 (y 1).2.1 (y 1).2.2),.v (.slice (y 2).1 (y 2).2.1 (y 2).2.2),.v (.slice (y 3).1 (y 3).2.1 (y 3).2.2),.v (.int .i64 (-1))])):=by
 refine CtrE.of (n:=41) G Tryz.func151 Z a8 Z Z Z (λw0=>?_)
 refine c7k 0 Z (λ_=>Z) (λu0=>?_)
 refine vm1 ?_
 refine vm9 ?_
 refine zcd (λh1=>?_) (λh1=>?_)
 ·refine zgo ?_
  refine d7 (c6A (u0) (p7 Z Z Z Z (b3 (i8 ?_) (b3 (b3f ?_) (b3 (b3f ?_) (b3 (b3f ?_) (b3 (i8 ?_) d9)))))))
  all_goals (rfl)
 exfalso;omega
theorem a5c (m:Mach) (sk sq sc sv:Int) (hM:MaG m) (hv:T6 m.cp.length ⟨sk,sq,sc,sv⟩=true) (ho:¬ b1J m ⟨sk,sq,sc,sv⟩):Ctr Tryz.prog 98 [.agg [.lst 2 (m.rs.map p5),.lst 1 (m.en.map m9),.lst 1 (m.ra.map m9),.nst none 4 (m.cp.map (s2 104 76))],.v (.agg ⟨[.int .i64 sk,.int .i64 sq,.int .i64 sc,.int .i64 sv]⟩)] (.shp false [some 4,none,none] [.fr 132 2 ((stM m ⟨sk,sq,sc,sv⟩).1.rs.map p5),.fr 4 1 ((stM m ⟨sk,sq,sc,sv⟩).1.en.map m9),.fr 4 1 ((stM m ⟨sk,sq,sc,sv⟩).1.ra.map m9),.ne 74 4 ((stM m ⟨sk,sq,sc,sv⟩).1.cp.map (s2 104 76)),.v (.int .i64 (stM m ⟨sk,sq,sc,sv⟩).2.1),.v (.bool (stM m ⟨sk,sq,sc,sv⟩).2.2)]):=by
 have f1:=hM.n
 have f2:=hM.en
 have f3:=hM.ra
 have f4:=hM.rn
 refine Ctr.of (n:=107) G Tryz.func98 Z a8 Z Z Z (λw0=>?_)
 refine n9 0 Z (λ_=>Z) (λu0=>?_)
 refine b6E ?_
 refine vm3 ?_
 refine d3 7 Z Z Z (ArgsOK.of Z) (a2O m hM) Z Z ?_
 refine r6 ?_
 refine b36 ?_
 refine zcd (λh1=>?_) (λh1=>?_)
 ·have hq:=b9B hv J
  obtain ⟨q,rfl⟩:∃q:Nat,sq=q:=⟨sq.toNat,by omega⟩
  have hS:=sm1 (m:=m) (sc:=sc) (sv:=sv) (q:=q) h1
  refine c3j ?_
  refine zgn ?_
  refine t8 (j7 11 [0,1,3,4,5,6,7] mixed a8 Z Z (λr0=>?_) (λ_ h=>h))
  refine a1q ?_
  refine a8V ?_
  refine zsa 7 ?_
  refine b7 (rs:=[8]) a8 Z (AllB.cons ?_ AllB.nil)
  refine g9 [0,1,3,4,5,6,7] Z Z ?_
  refine R9 ?_
  refine zsa 9 ?_
  refine zsa 10 ?_
  refine H8 ?_
  exact b7V
 refine zcd (λh2=>?_) (λh2=>?_)
 ·have hS:=sm2 (m:=m) (sq:=sq) (sc:=sc) (sv:=sv) h2
  refine vm3 ?_
  refine d3 12 Z Z Z (ArgsOK.of Z) (b1p m hM) Z Z ?_
  refine zgo ?_
  exact b7V
 refine zcd (λh3=>?_) (λh3=>?_)
 ·have hc:=b1H hv J
  obtain ⟨c,rfl⟩:∃c:Nat,sc=c:=⟨sc.toNat,by omega⟩
  obtain ⟨g1,g2,g3⟩:=hM.lens (k:=c) J
  have hIG:=hM.ok c J
  have hk:=d1b ho h3
  have hS:=sm3 (m:=m) (sq:=sq) (sv:=sv) (c:=c) h3 hk
  have hbd:=b0f hIG hk
  refine vm3 ?_
  refine d3 11 Z Z Z (ArgsOK.of Z) (a5b (m.cp.getD c default) hIG.f hk) Z Z ?_
  exact c57
 refine zcd (λh4=>?_) (λh4=>?_)
 ·have hc:=b1H hv J
  obtain ⟨c,rfl⟩:∃c:Nat,sc=c:=⟨sc.toNat,by omega⟩
  obtain ⟨g1,g2,g3⟩:=hM.lens (k:=c) J
  have hIG:=hM.ok c J
  have hk:=d1c ho h4
  have hS:=sm4 (m:=m) (sq:=sq) (sv:=sv) (c:=c) h4 hk
  have hbd:=b1c hIG hk
  refine vm3 ?_
  refine d3 11 Z Z Z (ArgsOK.of Z) (a9N (m.cp.getD c default) hIG hk) Z Z ?_
  exact c57
 refine zcd (λh5=>?_) (λh5=>?_)
 ·have hc:=b1H hv J
  obtain ⟨c,rfl⟩:∃c:Nat,sc=c:=⟨sc.toNat,by omega⟩
  obtain ⟨g1,g2,g3⟩:=hM.lens (k:=c) J
  have hIG:=hM.ok c J
  have hS:=sm5 (m:=m) (sq:=sq) (sv:=sv) (c:=c) h5
  refine t8 (O6 (Gh.open (id:=6) (i:=c) (k:=1) 9 Z Z (c7m J) Z Z) (O6 (Gh.open (id:=6) (i:=c) (k:=2) 10 Z Z (a3T N7 Z) Z Z) (O6 (Gh.open (id:=6) (i:=c) (k:=3) 11 Z Z (a3T N7 Z) Z Z) ?_)))
  refine vm8 ?_
  refine b5 Z Z (V3 G Z Z Z Z (a3T N7 Z) Z (.v (.own a77 (.own a77 (.own a77 .nil))))) ?_
  refine r6 ?_
  refine d6 G 12 Z Z Z Z Z ?_
  refine zgn ?_
  refine zgn ?_
  refine t8 (O6 (Gh.detach (id:=6) Z) (O6 (Gh.detach (id:=6) Z) (O6 (Gh.detach (id:=6) Z) ?_)))
  exact d0n
 have hk:=c6C hv
 have hq:=b9B hv J
 obtain ⟨q,rfl⟩:∃q:Nat,sq=q:=⟨sq.toNat,by omega⟩
 have hS:=sm6 (m:=m) (sk:=sk) (sc:=sc) (sv:=sv) (q:=q) J
 refine c3j ?_
 refine zgo ?_
 exact b7V
theorem a2v (m:Mach) (sk sq sc sv:Int) (hM:MaG m) (hv:T6 m.cp.length ⟨sk,sq,sc,sv⟩=true) (ho:b1J m ⟨sk,sq,sc,sv⟩):Ctr Tryz.prog 98 [.agg [.lst 2 (m.rs.map p5),.lst 1 (m.en.map m9),.lst 1 (m.ra.map m9),.nst none 4 (m.cp.map (s2 104 76))],.v (.agg ⟨[.int .i64 sk,.int .i64 sq,.int .i64 sc,.int .i64 sv]⟩)] (.shp false [some 4,none,none] [.fr 132 2 (m.rs.map p5),.fr 4 1 (m.en.map m9),.fr 4 1 (m.ra.map m9),.ne 74 4 (m.cp.map a8Q),.v (.int .i64 (-1)),.v (.bool false)]):=by
 have f1:=hM.n
 have f2:=hM.en
 have f3:=hM.ra
 have f4:=hM.rn
 refine Ctr.of (n:=107) G Tryz.func98 Z a8 Z Z Z (λw0=>?_)
 refine n9 0 Z (λ_=>Z) (λu0=>?_)
 refine b6E ?_
 refine vm3 ?_
 refine d3 7 Z Z Z (ArgsOK.of Z) (a2O m hM) Z Z ?_
 refine r6 ?_
 refine b36 ?_
 refine zcd (λh1=>?_) (λh1=>?_)
 ·exact absurd (b6q ho) J
 refine zcd (λh2=>?_) (λh2=>?_)
 ·exact absurd (b6q ho) J
 refine zcd (λh3=>?_) (λh3=>?_)
 ·have hc:=b1H hv J
  obtain ⟨c,rfl⟩:∃c:Nat,sc=c:=⟨sc.toNat,by omega⟩
  obtain ⟨g1,g2,g3⟩:=hM.lens (k:=c) J
  have hIG:=hM.ok c J
  have hk:=c69 ho h3
  refine vm3 ?_
  refine d3 11 Z Z Z (ArgsOK.of Z) (a2u (m.cp.getD c default) hIG.f hk) Z Z ?_
  refine vm3 ?_
  refine d6 G 12 Z Z Z Z Z ?_
  refine c94 ?_
  exact c44
 refine zcd (λh4=>?_) (λh4=>?_)
 ·have hc:=b1H hv J
  obtain ⟨c,rfl⟩:∃c:Nat,sc=c:=⟨sc.toNat,by omega⟩
  obtain ⟨g1,g2,g3⟩:=hM.lens (k:=c) J
  have hIG:=hM.ok c J
  have hk:=c7a ho h4
  refine zgo ?_
  refine a7 Z (b0O 8 Z Z Z (ArgsOK.of Z) (a6L (m.cp.getD c default) hk) (λ_=>Z) Z (λy1=>?_))
  refine vm3 ?_
  refine d6 G 9 Z Z Z Z Z ?_
  refine vm8 ?_
  first | refine s5 G Z Z Z Z Z (C3 J J) Z Z (.v Z (.v Z (.v Z (.v Z .nil)))) Z Z Z (Nat.le_of_ble_eq_true Z) (λq h=>by cases h) Z ?_ | refine s5 G Z Z Z Z Z (H1 J J) Z Z (.v Z (.v Z (.v Z (.v Z .nil)))) Z Z Z (Nat.le_of_ble_eq_true Z) (λq h=>by cases h) Z ?_ | refine s5 G Z Z Z Z Z (a3T N7 Z) Z Z (.v Z (.v Z (.v Z (.v Z .nil)))) Z Z Z (Nat.le_of_ble_eq_true Z) (λq h=>by cases h) Z ?_
  exact c44
 exact absurd (b6q ho) J
theorem a2P (a b:Int):Ctr Tryz.prog 62 [.v (.int .i64 a),.v (.int .i64 b)] (.one (.v (.int .i64 (max a b)))):=by
 refine Ctr.of (n:=10) G Tryz.func62 Z a8 Z Z Z (λw0=>?_)
 exact c5r
theorem a5d (sl:List Slot) (irq p:Int) (hl:sl.length<=1048576):Ctr Tryz.prog 256 [.lst 3 (sl.map j4),.v (.int .i64 irq),.v (.int .i64 p)] (.many [.fr 104 3 ((ptG sl irq p).1.map j4),.v (.bool (ptG sl irq p).2)]):=by
 have hf:=@a1K sl irq
 have hg:=@b55 sl
 refine Ctr.of (n:=39) G Tryz.func256 Z a8 Z Z Z (λw0=>?_)
 refine zcl (H3 sl irq hl) ?_
 refine zcd (λh1=>?_) (λh1=>?_)
 ·have hG:=c9C (p:=p) h1
  refine a3p ?_
  refine zcd (λh2=>?_) (λh2=>?_)
  ·exact c5Y
  exact c5Y
 refine zcl (a2N sl hl) ?_
 refine zcd (λh3=>?_) (λh3=>?_)
 ·have hG:=c9E (p:=p) J h3
  refine b1L ?_
  exact c8q
 have hG:=c9D (p:=p) (show r5 sl irq < 0 by omega) (show 0<=freS sl by omega)
 refine c8k ?_
 exact c8q
theorem a5e (sl:List Slot) (irq:Int) (hl:sl.length<=1048576):Ctr Tryz.prog 254 [.lst 3 (sl.map j4),.v (.int .i64 irq)] (.many [.fr 104 3 ((edG sl irq).1.map j4),.v (.bool (edG sl irq).2)]):=by
 have hf:=@a1K sl irq
 refine Ctr.of (n:=41) G Tryz.func254 Z a8 Z Z Z (λw0=>?_)
 refine zcl (H3 sl irq hl) ?_
 refine zcd (λh1=>?_) (λh1=>?_)
 ·have hG:=c0Y (sl:=sl) (irq:=irq) (.inl h1)
  refine zwt ?_
  exact c55
 refine zcd (λh2=>?_) (λh2=>?_)
 ·have hG:=c0Y (sl:=sl) (irq:=irq) (.inr h2)
  exact c55
 refine zcd (λh3=>?_) (λh3=>?_)
 ·have hG:=c9F (sl:=sl) (irq:=irq) J h3
  refine c8k ?_
  exact c8v
 have hG:=c9G (sl:=sl) (irq:=irq) J h2 h3
 refine a3p ?_
 refine c3m ?_
 exact c8v
theorem a9P (sl:List Slot) (lim:Int) (hl:sl.length<=1048576):CtrM Tryz.prog 253 [.own 0,.v (.int .i64 lim)] [.row 104 3 (sl.map j4)] (.many [.fr 104 3 ((tkA sl lim).1.map j4),.v (.int .i64 (tkA sl lim).2)]) [none]:=by
 have hb:=@a1o sl true
 refine CtrM.of (n:=33) (k:=1) G Tryz.func253 Z a8 Z Z Z Z Z Z Z (λw0 _ hpin=>?_)
 refine zcl (a09 sl hl) ?_
 refine zcd (λh1=>?_) (λh1=>?_)
 ·have hG:=c0Z (sl:=sl) (lim:=lim) (a5G.mpr J)
  refine zwt ?_
  refine zgo ?_
  exact c1H
 refine zgo ?_
 refine Y5 ?_
 refine b8O ?_
 refine Y5 ?_
 refine c1t ?_
 refine Y5 ?_
 refine b5 Z Z (j9 G Z Z Z Z Z (H1 J J) Z) ?_
 refine zcd (λh2=>?_) (λh2=>?_)
 ·have hG:=c0Z (sl:=sl) (lim:=lim) (a5G.mpr J)
  refine zgo ?_
  exact c1H
 have hG:=c4a (sl:=sl) (lim:=lim) (J7.mpr J)
 refine vm3 ?_
 refine b8O ?_
 refine r6 ?_
 refine b5 Z Z (f8 G Z Z Z Z (H1 J J) Z) ?_
 refine vm9 ?_
 refine zgn ?_
 refine zgn ?_
 refine t8 (j7 8 [0,1] mixed a8 Z Z (λr0=>?_) (λ_ h=>h))
 refine b8U ?_
 refine zsa 5 ?_
 refine b7 (rs:=[3]) a8 Z (AllB.cons ?_ AllB.nil)
 refine g9 [0,1] Z Z (d3 3 Z Z Z (ArgsOK.of Z) (O2 sl _ ⟨_,_,_⟩ hl J) Z Z (b4 ⟨Z,?_⟩))
 refine zsa 6 ?_
 refine zsa 7 ?_
 refine H8 ?_
 exact c1H
theorem a9Q (q:Que) (irq:Int) (hF:QF q) (hn:¬ (0<=r5 q.sl irq/\T3 (q.sl.getD (r5 q.sl irq).toNat default)=true)):Ctr Tryz.prog 201 [.agg [.lst 3 (q.sl.map j4),.lst 2 (q.wa.map j8)],.v (.int .i64 irq)] (.shp false [some 2,none] [.fr 104 3 ((⟨[],[]⟩:Que).sl.map j4),.fr 76 2 ((⟨[],[]⟩:Que).wa.map j8),.v (.bool false)]):=by
 have hl4:=hF.sl.len
 refine Ctr.of (n:=23) G Tryz.func201 Z a8 Z Z Z (λw0=>?_)
 refine n9 0 Z (λ_=>Z) (λu0=>?_)
 refine vm1 ?_
 refine vm9 ?_
 refine vm3 ?_
 refine d3 3 Z Z Z (ArgsOK.of Z) (Ctr.eq (a5e q.sl irq J) (c00 hF hn)) Z Z ?_
 refine zwt ?_
 refine zgo ?_
 refine d7 (p7 Z Z Z Z (b3 (C6 ?_) (b3 (C6 ?_) (b3 (i8 ?_) d9))))
 all_goals (rfl)
theorem a0B (q:Que) (irq:Int) (hF:QF q):Ctr Tryz.prog 201 [.agg [.lst 3 (q.sl.map j4),.lst 2 (q.wa.map j8)],.v (.int .i64 irq)] (.shp false [some 2,none] [.fr 104 3 ((enG q irq).1.sl.map j4),.fr 76 2 ((enG q irq).1.wa.map j8),.v (.bool (enG q irq).2)]):=by
 by_cases h:0<=r5 q.sl irq/\T3 (q.sl.getD (r5 q.sl irq).toNat default)=true
 ·rw [c4d h.1 h.2];exact a34 q irq hF h.1 h.2
 rw [c4e h];exact a9Q q irq hF h
theorem a8f (q:Que) (lim:Int) (hF:QF q):Ctr Tryz.prog 198 [.agg [.lst 3 (q.sl.map j4),.lst 2 (q.wa.map j8)],.v (.int .i64 lim)] (.shp false [some 2,none] [.fr 104 3 ((tkQ q lim).1.sl.map j4),.fr 76 2 ((tkQ q lim).1.wa.map j8),.v (.int .i64 (tkQ q lim).2)]):=by
 cases h:a0u q.sl lim
 ·rw [c4c h];exact a3u q lim hF h
 rw [c4b h];exact a6f q lim hF h
theorem a6G (x:Ifc) (hF:IfF x):Ctr Tryz.prog 150 [.agg [.v (.int .i64 x.ma),.lst 1 (x.st.map Rf.s3),.lst 3 (x.qu.sl.map j4),.lst 2 (x.qu.wa.map j8)]] (.shp false [some 4,none] [.v (.int .i64 (tkX x).1.ma),.fr 3 1 ((tkX x).1.st.map Rf.s3),.fr 104 3 ((tkX x).1.qu.sl.map j4),.fr 76 2 ((tkX x).1.qu.wa.map j8),.v (.int .i64 (tkX x).2)]):=by
 cases h:okT x
 ·rw [c4g h];exact a2u x hF h
 rw [c4f h];exact a5b x hF h
theorem a8g (x:Ifc) (hG:IfG x):CtrM Tryz.prog 151 [.agg [.v (.int .i64 x.ma),.own 0,.own 1,.own 2]] [.row 3 1 (x.st.map Rf.s3),.row 104 3 (x.qu.sl.map j4),.row 76 2 (x.qu.wa.map j8)] (.shp false [some 4,none] [.v (.int .i64 (lvX x).1.ma),.fr 3 1 ((lvX x).1.st.map Rf.s3),.fr 104 3 ((lvX x).1.qu.sl.map j4),.fr 76 2 ((lvX x).1.qu.wa.map j8),.v (.int .i64 (lvX x).2)]) [none,none,none]:=by
 have hl4:=hG.f.qu.sl.len
 have hwn:=hG.f.qu.wn
 have hsn:=hG.f.sn
 refine CtrM.of (n:=41) (k:=3) G Tryz.func151 Z a8 Z Z Z Z Z Z Z (λw0 _ hpin=>?_)
 refine vm3 ?_
 refine B4 4 Z Z Z Z Z Z Z ?_
 refine r6 ?_
 refine b8T ?_
 refine zcd (λh1=>?_) (λh1=>?_)
 ·have hG0:=c4i (x:=x) J
  refine zgo ?_
  exact c47
 have hn0:¬ x.st.length=0:=J
 have hG0:=c4h hn0
 obtain ⟨hla,hlb⟩:=b7y hG hn0
 have hls:=a8R hn0
 refine zgn ?_
 refine t8 (j7 15 [0,1,2,3,4] mixed a8 Z Z (λr0=>?_) (λ_ h=>h))
 refine c3k ?_
 refine c8 6 Z a8 a8 Z Z Z Z (d1 G Z Z Z Z Z J Y4) (c8 7 Z a8 a8 Z Z Z Z (j9 G Z Z Z Z Z (H1 J J) Z) (A7 (N:=6) Z (s8 (fuel:=6) [⟨12,5,5,true,.box (avR [.slice none 0 0,.slice none 0 0] [])⟩] (AllVOK.cons (VOK.boxS G Z Z Z Z Z) (AllVOK.nil)) (λhok=>?_))))
 refine m6 [(8,[])] a8 a8 (λe he=>hok e he) a8 (AllVS.cons ?_ AllVS.nil)
 refine VStep.mk0 [0,1,2,3,4] Z Z (λb1 _ hbn=>d3 8 Z Z Z (ArgsOK.of Z) (a34 x.qu _ hG.f.qu (by rw [hls];exact hla) (by rw [hls];exact hlb)) Z Z (b4 Z)) a8 a8 a8 a8 (w6 9 Z a8 Z Z Z Z (b8 Z Z) a8 a8 a8 (w6 10 Z a8 Z Z Z Z (e7 Z Z Z) a8 a8 a8 (w6 11 Z a8 Z Z Z Z (e7 Z Z Z) a8 a8 a8 (m6 [(13,[12])] a8 a8 (λe he=>hok e he) a8 (AllVS.cons ?_ AllVS.nil)))))
 refine VStep.mk1 [0,1,2,3,4] 5 (.ptr 5 0) 5 (.box (avR [.slice none 0 0,.slice none 0 0] [])) [] Z Z Z Z Z (λb1 _ hbn=>f6 G Z Z Z Z Z Z Z Z Z Z Z (b4 Z)) a8 a8 a8 a8 (E1 ?_)
 clear hok
 refine zsa 14 ?_
 refine H8 ?_
 refine t8 (j7 18 [0,1,2,3,5,6,7] mixed a8 Z Z (λr0=>?_) (λ_ h=>h))
 refine c3k ?_
 refine c8 6 Z a8 a8 Z Z Z Z (a2U G Z Z Z Z Z Z J b2S b2S) ?_
 refine d0d ?_
 refine c8 14 Z a8 a8 Z Z Z Z (d1 G Z Z Z Z Z J Y4) (c8 15 Z a8 a8 Z Z Z Z (j9 G Z Z Z Z Z (H1 J J) Z) (b7 (rs:=[7]) a8 Z (AllB.cons ?_ AllB.nil)))
 refine g9 [0,1,2,3,5,6,7] Z Z (d3 9 Z Z Z (ArgsOK.sub1 Z Z Y4 b1b) (I9 (x.st.take (x.st.length - 1)) b7U) Z Z (b4 ⟨Z,?_⟩))
 refine b7 (rs:=[9]) a8 Z (AllB.cons ?_ AllB.nil)
 refine g9 [0,1,2,3,5,6,7] Z Z ?_
 refine R9 ?_
 refine b7 (rs:=[16]) a8 Z (AllB.cons ?_ AllB.nil)
 refine g9 [0,1,2,3,5,6,7] Z Z ?_
 refine R9 ?_
 refine zsa 17 ?_
 refine H8 ?_
 exact c47
theorem a8Z {x:Cur} {n:Int} (h:okC n x) (hn:n<=900000000000):CtrX (α:=Int×Cur) Tryz.prog 204 [.ptr 0 0] [.box [.lst 1 (x.c.map B1),.v (.int .i64 x.a),.v (.int .u64 x.s)]] (λy=>(True)/\okC (n+4) y.2) (λy=>.one (.v (.int .i64 y.1))) (λy=>[some (.box [.lst 1 (y.2.c.map B1),.v (.int .i64 y.2.a),.v (.int .u64 y.2.s)])]):=by
 refine CtrX.of (n:=10) (k:=1) G Tryz.func204 Z a8 Z Z Z Z (λ_=>Z) Z Z (λw0 _ hpin=>?_)
 refine zgo ?_
 refine a7 Z (d4 1 [0] Z Z Z (a4b h J (20)) Z (RowsIn.cons Z RowsIn.nil) Z (λ_=>Z) Z (λx1 ⟨hv1,hc1⟩=>?_))
 refine zcd (λh1=>?_) (λh1=>?_)
 ·refine zgo ?_
  refine a7 Z (p6 G 2 Z Z Z Z Z Z Z Z (a7 Z (d4 2 [0,1] Z Z Z (I0 hc1 J [-1,8] (-1) (8) (by decide) (by decide)) Z (RowsIn.cons Z (RowsIn.cons Z RowsIn.nil)) Z (λ_=>Z) Z (λx2 ⟨hv2,hc2⟩=>?_))))
  refine zgo ?_
  refine d7 (A3 ((_,⟨_,_,_⟩)) (o9 Z (i8 Z) Z (AftOK.stays Z Z Z AftOK.nil)) ⟨?_,?_⟩)
  all_goals (try rcases x1 with ⟨_,_⟩)
  all_goals (try rcases x2 with ⟨_,_⟩)
  all_goals (try dsimp only at *)
  all_goals (first | trivial | exact hc2.mono J | omega)
 refine zgo ?_
 refine a7 Z (d4 1 [0] Z Z Z (r3 hc1 J (8)) Z (RowsIn.cons Z RowsIn.nil) Z (λ_=>Z) Z (λx3 ⟨hv3,hc3⟩=>?_))
 refine zgo ?_
 refine d7 (A3 ((_,⟨_,_,_⟩)) (o9 Z (i8 Z) Z (AftOK.stays Z Z Z AftOK.nil)) ⟨?_,?_⟩)
 all_goals (try rcases x1 with ⟨_,_⟩)
 all_goals (try rcases x2 with ⟨_,_⟩)
 all_goals (try rcases x3 with ⟨_,_⟩)
 all_goals (try dsimp only at *)
 all_goals (first | trivial | exact hc3.mono J | omega)
theorem a8h {x:Cur} {n:Int} (h:okC n x) (hn:n<=900000000000):CtrX (α:=Int×Cur) Tryz.prog 205 [.ptr 0 0] [.box [.lst 1 (x.c.map B1),.v (.int .i64 x.a),.v (.int .u64 x.s)]] (λy=>(True)/\okC (n+2) y.2) (λy=>.one (.v (.int .i64 y.1))) (λy=>[some (.box [.lst 1 (y.2.c.map B1),.v (.int .i64 y.2.a),.v (.int .u64 y.2.s)])]):=by
 refine CtrX.of (n:=6) (k:=1) G Tryz.func205 Z a8 Z Z Z Z (λ_=>Z) Z Z (λw0 _ hpin=>?_)
 refine zgo ?_
 refine a7 Z (p6 G 2 Z Z Z Z Z Z Z Z (a7 Z (d4 2 [0,1] Z Z Z (I0 h J [0,1,2,3,5,8,15,4,4,7,12,16,-1,6] (-1) (16) (by decide) (by decide)) Z (RowsIn.cons Z (RowsIn.cons Z RowsIn.nil)) Z (λ_=>Z) Z (λx1 ⟨hv1,hc1⟩=>?_))))
 refine zgo ?_
 refine d7 (A3 ((_,⟨_,_,_⟩)) (o9 Z (i8 Z) Z (AftOK.stays Z Z Z AftOK.nil)) ⟨?_,?_⟩)
 all_goals (try rcases x1 with ⟨_,_⟩)
 all_goals (try dsimp only at *)
 all_goals (first | trivial | exact hc1.mono J | omega)
theorem a6M {x:Cur} {n:Int} (h:okC n x) (hn:n<=900000000000):CtrX (α:=List Slot×Cur) Tryz.prog 203 [.ptr 0 0] [.box [.lst 1 (x.c.map B1),.v (.int .i64 x.a),.v (.int .u64 x.s)]] (λy=>(y.1.length<=5)/\okC (n+100) y.2) (λy=>.one (.fr 104 3 (y.1.map j4))) (λy=>[some (.box [.lst 1 (y.2.c.map B1),.v (.int .i64 y.2.a),.v (.int .u64 y.2.s)])]):=by
 refine CtrX.of (n:=88) (k:=1) G Tryz.func203 Z a8 Z Z Z Z (λ_=>Z) Z Z (λw0 _ hpin=>?_)
 refine vm3 ?_
 refine b35 ?_
 refine zgo ?_
 refine a7 Z (d4 2 [0] Z Z Z (r3 h J (9)) Z (RowsIn.cons Z RowsIn.nil) Z (λ_=>Z) Z (λx1 ⟨hv1,hc1⟩=>?_))
 refine zgo ?_
 refine i6 [0] [] (λ(z:Nat×Cur×List Slot)=>[(3,.own 1),(4,.v (.int .i64 (x1.1 - z.1)))]) (λ(z:Nat×Cur×List Slot)=>[(0,some (.box [.lst 1 (z.2.1.c.map B1),.v (.int .i64 z.2.1.a),.v (.int .u64 z.2.1.s)])),(1,some (.row 104 3 (z.2.2.map j4)))]) (λ(z:Nat×Cur×List Slot)=>(z.1:Int)<=x1.1/\(z.2.2.length=4)/\okC (n+2+8 * z.1) z.2.1) (λ(z:Nat×Cur×List Slot)=>x1.1.toNat - z.1) (0,x1.2,[zSl,zSl,zSl,zSl]) Z Z ?_ ?_ ?_ ?_
 ·exact ⟨hv1.1,Z,hc1.mono (by simp)⟩
 ·exact b5u
 ·exact b5t
 intro z hinv
 obtain ⟨hz1,hz2,hz⟩:=hinv
 refine vm2 ?_
 refine zcd (λh1=>?_) (λh1=>?_)
 ·refine zgo ?_
  refine a7 Z (d4 2 [0] Z Z Z (r3 hz J (4)) Z (RowsIn.cons Z RowsIn.nil) Z (λ_=>Z) Z (λx2 ⟨hv2,hc2⟩=>?_))
  refine zcd (λh2=>?_) (λh2=>?_)
  ·refine zwt ?_
   refine zgo ?_
   refine a7 Z (d4 2 [0] Z Z Z (r3 hc2 J (8)) Z (RowsIn.cons Z RowsIn.nil) Z (λ_=>Z) Z (λx3 ⟨hv3,hc3⟩=>?_))
   refine zgo ?_
   refine a7 Z (d4 2 [0] Z Z Z (r3 hc3 J (8)) Z (RowsIn.cons Z RowsIn.nil) Z (λ_=>Z) Z (λx4 ⟨hv4,hc4⟩=>?_))
   refine r6 ?_
   refine d3 3 Z Z Z (ArgsOK.of Z) (a5d z.2.2 _ _ J) Z Z ?_
   refine zcd (λh3=>?_) (λh3=>?_)
   ·refine zgn ?_
    refine a3o ?_
    refine r4 (Gh.sub 2 1 B6 Z Z Z) (b4 ⟨(z.1+1,x4.2,(ptG z.2.2 x3.1 x4.1).1),?_,?_,⟨⟨_,Z,by (first | rfl | exact congrArg (λv=>AV.v (.int .i64 v)) F4)⟩,Z,⟨⟨_,Z,by (first | rfl | exact congrArg (λv=>AV.v (.int .i64 v)) F4)⟩,Z,trivial⟩⟩,⟨⟨_,Z,by rfl⟩,Z,Z,⟨⟨_,Z,by rfl⟩,Z,Z,trivial⟩⟩,Z,Z,Z⟩)
    ·exact d0R
    exact Z9
   refine zgo ?_
   refine ⟨(z.1+1,x4.2,z.2.2),?_,?_,⟨⟨_,Z,by (first | rfl | exact congrArg (λv=>AV.v (.int .i64 v)) F4)⟩,Z,⟨⟨_,Z,by (first | rfl | exact congrArg (λv=>AV.v (.int .i64 v)) F4)⟩,Z,trivial⟩⟩,⟨⟨_,Z,by rfl⟩,Z,Z,⟨⟨_,Z,by rfl⟩,Z,Z,trivial⟩⟩,Z,Z,Z⟩
   ·exact d0R
   exact Z9
  refine zcd (λh4=>?_) (λh4=>?_)
  ·refine zgo ?_
   refine a7 Z (d4 2 [0] Z Z Z (r3 hc2 J (8)) Z (RowsIn.cons Z RowsIn.nil) Z (λ_=>Z) Z (λx5 ⟨hv5,hc5⟩=>?_))
   refine zgo ?_
   refine a7 Z (d4 2 [0] Z Z Z (r3 hc5 J (8)) Z (RowsIn.cons Z RowsIn.nil) Z (λ_=>Z) Z (λx6 ⟨hv6,hc6⟩=>?_))
   refine r6 ?_
   refine d3 3 Z Z Z (ArgsOK.of Z) (a5d z.2.2 _ _ J) Z Z ?_
   refine zcd (λh5=>?_) (λh5=>?_)
   ·refine zgn ?_
    refine a3o ?_
    refine r4 (Gh.sub 2 1 B6 Z Z Z) (b4 ⟨(z.1+1,x6.2,(ptG z.2.2 x5.1 x6.1).1),?_,?_,⟨⟨_,Z,by (first | rfl | exact congrArg (λv=>AV.v (.int .i64 v)) F4)⟩,Z,⟨⟨_,Z,by (first | rfl | exact congrArg (λv=>AV.v (.int .i64 v)) F4)⟩,Z,trivial⟩⟩,⟨⟨_,Z,by rfl⟩,Z,Z,⟨⟨_,Z,by rfl⟩,Z,Z,trivial⟩⟩,Z,Z,Z⟩)
    ·exact d0S
    exact Z9
   refine zgo ?_
   refine ⟨(z.1+1,x6.2,z.2.2),?_,?_,⟨⟨_,Z,by (first | rfl | exact congrArg (λv=>AV.v (.int .i64 v)) F4)⟩,Z,⟨⟨_,Z,by (first | rfl | exact congrArg (λv=>AV.v (.int .i64 v)) F4)⟩,Z,trivial⟩⟩,⟨⟨_,Z,by rfl⟩,Z,Z,⟨⟨_,Z,by rfl⟩,Z,Z,trivial⟩⟩,Z,Z,Z⟩
   ·exact d0S
   exact Z9
  refine zcd (λh6=>?_) (λh6=>?_)
  ·refine vm3 ?_
   refine N1 3 [1] Z Z Z (a9P z.2.2 16 J) Z (RowsIn.cons Z RowsIn.nil) Z Z Z ?_
   refine zgn ?_
   refine a3o ?_
   refine r4 (Gh.sub 2 1 B6 Z Z Z) (b4 ⟨(z.1+1,x2.2,(tkA z.2.2 16).1),?_,?_,⟨⟨_,Z,by (first | rfl | exact congrArg (λv=>AV.v (.int .i64 v)) F4)⟩,Z,⟨⟨_,Z,by (first | rfl | exact congrArg (λv=>AV.v (.int .i64 v)) F4)⟩,Z,trivial⟩⟩,⟨⟨_,Z,by rfl⟩,Z,Z,⟨⟨_,Z,by rfl⟩,Z,Z,trivial⟩⟩,Z,Z,Z⟩)
   ·exact d0T
   exact Z9
  refine zcd (λh7=>?_) (λh7=>?_)
  ·refine zgo ?_
   refine a7 Z (d4 2 [0] Z Z Z (r3 hc2 J (8)) Z (RowsIn.cons Z RowsIn.nil) Z (λ_=>Z) Z (λx7 ⟨hv7,hc7⟩=>?_))
   refine r6 ?_
   refine d3 3 Z Z Z (ArgsOK.of Z) (a5e z.2.2 _ J) Z Z ?_
   refine zcd (λh8=>?_) (λh8=>?_)
   ·refine zgo ?_
    refine m7 Z Z Z (d4 3 [0] Z Z Z (a4b hc7 J (2)) Z (RowsIn.cons Z RowsIn.nil) Z (λ_=>Z) Z (λx8 ⟨hv8,hc8⟩=>?_))
    refine zcd (λh9=>?_) (λh9=>?_)
    ·refine zgn ?_
     refine a3o ?_
     refine r4 (Gh.sub 2 1 B6 Z Z Z) (b4 ⟨(z.1+1,x8.2,(edG z.2.2 x7.1).1),?_,?_,⟨⟨_,Z,by (first | rfl | exact congrArg (λv=>AV.v (.int .i64 v)) F4)⟩,Z,⟨⟨_,Z,by (first | rfl | exact congrArg (λv=>AV.v (.int .i64 v)) F4)⟩,Z,trivial⟩⟩,⟨⟨_,Z,by rfl⟩,Z,Z,⟨⟨_,Z,by rfl⟩,Z,Z,trivial⟩⟩,Z,Z,Z⟩)
     ·exact d0U
     exact Z9
    refine zgo ?_
    refine ⟨(z.1+1,x8.2,z.2.2),?_,?_,⟨⟨_,Z,by (first | rfl | exact congrArg (λv=>AV.v (.int .i64 v)) F4)⟩,Z,⟨⟨_,Z,by (first | rfl | exact congrArg (λv=>AV.v (.int .i64 v)) F4)⟩,Z,trivial⟩⟩,⟨⟨_,Z,by rfl⟩,Z,Z,⟨⟨_,Z,by rfl⟩,Z,Z,trivial⟩⟩,Z,Z,Z⟩
    ·exact d0U
    exact Z9
   refine zwf ?_
   refine zgo ?_
   refine ⟨(z.1+1,x7.2,z.2.2),?_,?_,⟨⟨_,Z,by (first | rfl | exact congrArg (λv=>AV.v (.int .i64 v)) F4)⟩,Z,⟨⟨_,Z,by (first | rfl | exact congrArg (λv=>AV.v (.int .i64 v)) F4)⟩,Z,trivial⟩⟩,⟨⟨_,Z,by rfl⟩,Z,Z,⟨⟨_,Z,by rfl⟩,Z,Z,trivial⟩⟩,Z,Z,Z⟩
   ·first | exact ⟨by show ((z.1+1:Nat):Int)<=x1.1;omega,hz2,hc7.mono n8⟩ | exact ⟨by show ((z.1+1:Nat):Int)<=x1.1;omega,(a7U j6).trans hz2,hc7.mono n8⟩ | exact ⟨by show ((z.1+1:Nat):Int)<=x1.1;omega,a7W.trans hz2,hc7.mono n8⟩ | exact ⟨by show ((z.1+1:Nat):Int)<=x1.1;omega,(a7V j6).trans hz2,hc7.mono n8⟩
   exact Z9
  refine zgo ?_
  refine ⟨(z.1+1,x2.2,z.2.2),?_,?_,⟨⟨_,Z,by (first | rfl | exact congrArg (λv=>AV.v (.int .i64 v)) F4)⟩,Z,⟨⟨_,Z,by (first | rfl | exact congrArg (λv=>AV.v (.int .i64 v)) F4)⟩,Z,trivial⟩⟩,⟨⟨_,Z,by rfl⟩,Z,Z,⟨⟨_,Z,by rfl⟩,Z,Z,trivial⟩⟩,Z,Z,Z⟩
  ·exact d0T
  exact Z9
 refine zgo ?_
 refine a7 Z (d4 2 [0] Z Z Z (r3 hz J (24)) Z (RowsIn.cons Z RowsIn.nil) Z (λ_=>Z) Z (λx9 ⟨hv9,hc9⟩=>?_))
 refine zcd (λh10=>?_) (λh10=>?_)
 ·refine zgo ?_
  refine a7 Z (d4 2 [0] Z Z Z (r3 hc9 J (4)) Z (RowsIn.cons Z RowsIn.nil) Z (λ_=>Z) Z (λx10 ⟨hv10,hc10⟩=>?_))
  refine zgo ?_
  refine a7 Z (p6 G 3 Z Z Z Z Z Z Z Z (a7 Z (d4 3 [0,2] Z Z Z (I0 hc10 J [-1,4,1] (-1) (4) (by decide) (by decide)) Z (RowsIn.cons Z (RowsIn.cons Z RowsIn.nil)) Z (λ_=>Z) Z (λx11 ⟨hv11,hc11⟩=>?_))))
  refine zgo ?_
  refine a7 Z (p6 G 4 Z Z Z Z Z Z Z Z (a7 Z (d4 4 [0,3] Z Z Z (I0 hc11 J [-1,7,8] (-1) (8) (by decide) (by decide)) Z (RowsIn.cons Z (RowsIn.cons Z RowsIn.nil)) Z (λ_=>Z) Z (λx12 ⟨hv12,hc12⟩=>?_))))
  refine zgo ?_
  refine a7 Z (p6 G 5 Z Z Z Z Z Z Z Z (a7 Z (d4 5 [0,4] Z Z Z (I0 hc12 J [-1,15,16] (-1) (16) (by decide) (by decide)) Z (RowsIn.cons Z (RowsIn.cons Z RowsIn.nil)) Z (λ_=>Z) Z (λx13 ⟨hv13,hc13⟩=>?_))))
  refine d0j ?_
  refine d7 (A3 ((z.2.2.set x10.1.toNat ⟨x11.1,x12.1,x13.1⟩,x13.2)) (o9 Z (c7 Z ?_) Z (AftOK.stays Z ?_ Z AftOK.nil)) (⟨?_,?_⟩))
  all_goals (first | rfl | exact hc13.mono J | (dsimp only;rw [List.map_set];rfl) | (rw [List.map_append];rfl) | (show List.length _<=5;(try simp only [List.length_set,List.length_append,List.length_cons,List.length_nil]);omega))
 refine zcd (λh11=>?_) (λh11=>?_)
 ·refine vm3 ?_
  refine b5p ?_
  refine d0g ?_
  refine d7 (A3 ((z.2.2++[zSl],x9.2)) (o9 Z (c7 Z ?_) Z (AftOK.stays Z ?_ Z AftOK.nil)) (⟨?_,?_⟩))
  all_goals exact c79
 refine zcd (λh12=>?_) (λh12=>?_)
 ·refine d0j ?_
  refine d7 (A3 ((z.2.2.set 3 ⟨0,1,0⟩,x9.2)) (o9 Z (c7 Z ?_) Z (AftOK.stays Z ?_ Z AftOK.nil)) (⟨?_,?_⟩))
  all_goals exact c79
 refine zgo ?_
 refine d7 (A3 ((z.2.2,x9.2)) (o9 Z (c7 Z ?_) Z (AftOK.stays Z ?_ Z AftOK.nil)) (⟨?_,?_⟩))
 all_goals exact c79
theorem a11 {x:Cur} {n:Int} (h:okC n x) (hn:n<=890000000000):CtrX (α:=Que×Cur) Tryz.prog 153 [.ptr 0 0] [.box [.lst 1 (x.c.map B1),.v (.int .i64 x.a),.v (.int .u64 x.s)]] (λy=>(y.1.sl.length<=5/\y.1.wa.length<=10)/\okC (n+300) y.2) (λy=>.shp true [some 2] [.fr 104 3 (y.1.sl.map j4),.fr 76 2 (y.1.wa.map j8)]) (λy=>[some (.box [.lst 1 (y.2.c.map B1),.v (.int .i64 y.2.a),.v (.int .u64 y.2.s)])]):=by
 refine CtrX.of (n:=82) (k:=1) G Tryz.func153 Z a8 Z Z Z Z (λ_=>Z) Z Z (λw0 _ hpin=>?_)
 refine b5q ?_
 refine vm3 ?_
 refine b5p ?_
 refine r6 ?_
 refine c3r ?_
 refine vm3 ?_
 refine b8T ?_
 refine zgo ?_
 refine a7 Z (d4 5 [0] Z Z Z (r3 h J (14)) Z (RowsIn.cons Z RowsIn.nil) Z (λ_=>Z) Z (λx1 ⟨hv1,hc1⟩=>?_))
 refine zgo ?_
 refine i6 [0,2,3] [1] (λ(z:Nat×Cur×Que)=>[(4,.v (.int .i64 (x1.1 - z.1)))]) (λ(z:Nat×Cur×Que)=>[(0,some (.box [.lst 1 (z.2.1.c.map B1),.v (.int .i64 z.2.1.a),.v (.int .u64 z.2.1.s)])),(2,some (.row 104 3 (z.2.2.sl.map j4))),(3,some (.row 76 2 (z.2.2.wa.map j8))),(4,some (.box [.own 2,.own 3]))]) (λ(z:Nat×Cur×Que)=>(z.1:Int)<=x1.1/\(QF z.2.2)/\okC (n+2+6 * z.1) z.2.1) (λ(z:Nat×Cur×Que)=>x1.1.toNat - z.1) (0,x1.2,q0) Z Z ?_ ?_ ?_ ?_
 ·exact ⟨hv1.1,c9H,hc1.mono (by simp)⟩
 ·exact b1i
 ·exact ⟨⟨_,Z,by rfl⟩,Z,Z,⟨⟨_,Z,by rfl⟩,Z,Z,⟨⟨_,Z,by rfl⟩,Z,Z,⟨⟨_,Z,by rfl⟩,Z,Z,trivial⟩⟩⟩⟩
 intro z hinv
 obtain ⟨hz1,hz2,hz⟩:=hinv
 have hql:=hz2.sl.len
 have hqw:=hz2.wn8
 refine vm2 ?_
 refine zcd (λh1=>?_) (λh1=>?_)
 ·refine zgo ?_
  refine a7 Z (d4 5 [0] Z Z Z (r3 hz J (5)) Z (RowsIn.cons Z RowsIn.nil) Z (λ_=>Z) Z (λx2 ⟨hv2,hc2⟩=>?_))
  refine zcd (λh2=>?_) (λh2=>?_)
  ·refine zwt ?_
   refine U4 7 [1,2,3,4] [6] mixed a8 Z Z (λr0=>?_) (λ_ h=>h)
   refine w3 0 [5,6] Z a8 a8 a8 Z Z Z Z (c6 G Z Z Z Z Z Z) (w3 1 [2,4,5,6] Z a8 a8 a8 Z Z Z Z (b8 Z Z) (w3 3 [4,5,6] Z a8 a8 a8 Z Z Z Z (b8 Z Z) (y8 2 a8 (C8 [1,2,3,4] Z Z (d4 5 [0] Z Z Z (r3 hc2 J (8)) Z (RowsIn.cons Z RowsIn.nil) Z (λ_=>Z) Z (λx3 ⟨hv3,hc3⟩=>b4 ⟨Z,?_⟩))))))
   refine y8 4 a8 (C8 [1,2,3,4] Z Z (d4 5 [0] Z Z Z (r3 hc3 J (8)) Z (RowsIn.cons Z RowsIn.nil) Z (λ_=>Z) Z (λx4 ⟨hv4,hc4⟩=>b4 ⟨Z,?_⟩)))
   refine y8 5 a8 (C8 [1,2,3,4] Z Z (d3 7 Z Z Z (ArgsOK.of Z) (a0d z.2.2 _ _ hz2 J J) Z Z (b4 ⟨Z,?_⟩)))
   refine b8S ?_
   refine r4 (Gh.sub 5 2 B6 Z Z Z) (r4 (Gh.sub 6 3 B6 Z Z Z) (b4 ⟨(z.1+1,x4.2,a1L z.2.2 x3.1 x4.1),?_,?_,⟨⟨_,Z,by (first | rfl | exact congrArg (λv=>AV.v (.int .i64 v)) F4)⟩,Z,trivial⟩,⟨⟨_,Z,by rfl⟩,Z,Z,⟨⟨_,Z,by rfl⟩,Z,Z,⟨⟨_,Z,by rfl⟩,Z,Z,⟨⟨_,Z,by rfl⟩,Z,Z,trivial⟩⟩⟩⟩,Z,Z,Z⟩))
   ·first | exact ⟨by show ((z.1+1:Nat):Int)<=x1.1;omega,(a4O hz2 J J).1,hc4.mono n8⟩ | exact ⟨by show ((z.1+1:Nat):Int)<=x1.1;omega,b2N hz2,hc4.mono n8⟩ | exact ⟨by show ((z.1+1:Nat):Int)<=x1.1;omega,b2O hz2 j6,hc4.mono n8⟩ | exact ⟨by show ((z.1+1:Nat):Int)<=x1.1;omega,hz2,hc4.mono n8⟩
   exact Z9
  refine zcd (λh3=>?_) (λh3=>?_)
  ·refine zwt ?_
   refine U4 7 [1,2,3,4] [6] mixed a8 Z Z (λr0=>?_) (λ_ h=>h)
   refine w3 0 [5,6] Z a8 a8 a8 Z Z Z Z (c6 G Z Z Z Z Z Z) (w3 1 [2,4,5,6] Z a8 a8 a8 Z Z Z Z (b8 Z Z) (w3 3 [4,5,6] Z a8 a8 a8 Z Z Z Z (b8 Z Z) (y8 2 a8 (C8 [1,2,3,4] Z Z (d4 5 [0] Z Z Z (r3 hc2 J (8)) Z (RowsIn.cons Z RowsIn.nil) Z (λ_=>Z) Z (λx5 ⟨hv5,hc5⟩=>b4 ⟨Z,?_⟩))))))
   refine y8 4 a8 (C8 [1,2,3,4] Z Z (d4 5 [0] Z Z Z (r3 hc5 J (8)) Z (RowsIn.cons Z RowsIn.nil) Z (λ_=>Z) Z (λx6 ⟨hv6,hc6⟩=>b4 ⟨Z,?_⟩)))
   refine y8 5 a8 (C8 [1,2,3,4] Z Z (d3 7 Z Z Z (ArgsOK.of Z) (a0d z.2.2 _ _ hz2 J J) Z Z (b4 ⟨Z,?_⟩)))
   refine b8S ?_
   refine r4 (Gh.sub 5 2 B6 Z Z Z) (r4 (Gh.sub 6 3 B6 Z Z Z) (b4 ⟨(z.1+1,x6.2,a1L z.2.2 x5.1 x6.1),?_,?_,⟨⟨_,Z,by (first | rfl | exact congrArg (λv=>AV.v (.int .i64 v)) F4)⟩,Z,trivial⟩,⟨⟨_,Z,by rfl⟩,Z,Z,⟨⟨_,Z,by rfl⟩,Z,Z,⟨⟨_,Z,by rfl⟩,Z,Z,⟨⟨_,Z,by rfl⟩,Z,Z,trivial⟩⟩⟩⟩,Z,Z,Z⟩))
   ·first | exact ⟨by show ((z.1+1:Nat):Int)<=x1.1;omega,(a4O hz2 J J).1,hc6.mono n8⟩ | exact ⟨by show ((z.1+1:Nat):Int)<=x1.1;omega,b2N hz2,hc6.mono n8⟩ | exact ⟨by show ((z.1+1:Nat):Int)<=x1.1;omega,b2O hz2 j6,hc6.mono n8⟩ | exact ⟨by show ((z.1+1:Nat):Int)<=x1.1;omega,hz2,hc6.mono n8⟩
   exact Z9
  refine zcd (λh4=>?_) (λh4=>?_)
  ·refine U4 7 [1,2,3,4] [6] mixed a8 Z Z (λr0=>?_) (λ_ h=>h)
   refine w3 0 [5,6] Z a8 a8 a8 Z Z Z Z (c6 G Z Z Z Z Z Z) (w3 1 [2,4,5,6] Z a8 a8 a8 Z Z Z Z (b8 Z Z) (w3 3 [4,5,6] Z a8 a8 a8 Z Z Z Z (b8 Z Z) (y8 2 a8 (C8 [1,2,3,4] Z Z (d4 5 [0] Z Z Z (r3 hc2 J (8)) Z (RowsIn.cons Z RowsIn.nil) Z (λ_=>Z) Z (λx7 ⟨hv7,hc7⟩=>b4 ⟨Z,?_⟩))))))
   refine y8 4 a8 (C8 [1,2,3,4] Z Z (d4 5 [0] Z Z Z (r3 hc7 J (8)) Z (RowsIn.cons Z RowsIn.nil) Z (λ_=>Z) Z (λx8 ⟨hv8,hc8⟩=>b4 ⟨Z,?_⟩)))
   refine y8 5 a8 (C8 [1,2,3,4] Z Z (d3 7 Z Z Z (ArgsOK.of Z) (a0d z.2.2 _ _ hz2 J J) Z Z (b4 ⟨Z,?_⟩)))
   refine b8S ?_
   refine r4 (Gh.sub 5 2 B6 Z Z Z) (r4 (Gh.sub 6 3 B6 Z Z Z) (b4 ⟨(z.1+1,x8.2,a1L z.2.2 x7.1 x8.1),?_,?_,⟨⟨_,Z,by (first | rfl | exact congrArg (λv=>AV.v (.int .i64 v)) F4)⟩,Z,trivial⟩,⟨⟨_,Z,by rfl⟩,Z,Z,⟨⟨_,Z,by rfl⟩,Z,Z,⟨⟨_,Z,by rfl⟩,Z,Z,⟨⟨_,Z,by rfl⟩,Z,Z,trivial⟩⟩⟩⟩,Z,Z,Z⟩))
   ·first | exact ⟨by show ((z.1+1:Nat):Int)<=x1.1;omega,(a4O hz2 J J).1,hc8.mono n8⟩ | exact ⟨by show ((z.1+1:Nat):Int)<=x1.1;omega,b2N hz2,hc8.mono n8⟩ | exact ⟨by show ((z.1+1:Nat):Int)<=x1.1;omega,b2O hz2 j6,hc8.mono n8⟩ | exact ⟨by show ((z.1+1:Nat):Int)<=x1.1;omega,hz2,hc8.mono n8⟩
   exact Z9
  refine zcd (λh5=>?_) (λh5=>?_)
  ·refine vm3 ?_
   refine d3 7 Z Z Z (ArgsOK.of Z) (a8f z.2.2 16 hz2) Z Z ?_
   refine zgn ?_
   refine a3o ?_
   refine r4 (Gh.sub 5 2 B6 Z Z Z) (r4 (Gh.sub 6 3 B6 Z Z Z) (b4 ⟨(z.1+1,x2.2,(tkQ z.2.2 16).1),?_,?_,⟨⟨_,Z,by (first | rfl | exact congrArg (λv=>AV.v (.int .i64 v)) F4)⟩,Z,trivial⟩,⟨⟨_,Z,by rfl⟩,Z,Z,⟨⟨_,Z,by rfl⟩,Z,Z,⟨⟨_,Z,by rfl⟩,Z,Z,⟨⟨_,Z,by rfl⟩,Z,Z,trivial⟩⟩⟩⟩,Z,Z,Z⟩))
   ·exact d0W
   exact Z9
  refine zcd (λh6=>?_) (λh6=>?_)
  ·refine t8 (j7 10 [1,2,3,4] mixed a8 Z Z (λr0=>?_) (λ_ h=>h))
   refine zsa 0 ?_
   refine zsa 1 ?_
   refine b7 (rs:=[2,7]) a8 Z (AllB.cons ?_ (AllB.cons ?_ AllB.nil))
   ·refine g9 [1,2,3,4] Z Z (d4 5 [0] Z Z Z (r3 hc2 J (8)) Z (RowsIn.cons Z RowsIn.nil) Z (λ_=>Z) Z (λx9 ⟨hv9,hc9⟩=>b4 ⟨Z,?_⟩))
    refine b7 (rs:=[3,7]) a8 Z (AllB.cons ?_ (AllB.cons ?_ AllB.nil))
    ·refine g9 [1,2,3,4] Z Z (d3 7 Z Z Z (ArgsOK.of Z) (a0B z.2.2 _ hz2) Z Z (b4 ⟨Z,?_⟩))
     refine a8V ?_
     refine b7 (rs:=[7]) a8 Z (AllB.cons ?_ AllB.nil)
     refine g9 [1,2,3,4] Z Z (d6 G 8 Z Z Z Z Z (b4 ⟨Z,?_⟩))
     refine b7 (rs:=[8]) a8 Z (AllB.cons ?_ AllB.nil)
     refine g9 [1,2,3,4] Z Z ?_
     refine R9 ?_
     refine zsa 9 ?_
     refine H8 ?_
     refine zcd (λh7=>?_) (λh7=>?_)
     ·refine zgn ?_
      refine a3o ?_
      refine r4 (Gh.sub 5 2 B6 Z Z Z) (r4 (Gh.sub 6 3 B6 Z Z Z) (b4 ⟨(z.1+1,x9.2,(enG z.2.2 x9.1).1),?_,?_,⟨⟨_,Z,by (first | rfl | exact congrArg (λv=>AV.v (.int .i64 v)) F4)⟩,Z,trivial⟩,⟨⟨_,Z,by rfl⟩,Z,Z,⟨⟨_,Z,by rfl⟩,Z,Z,⟨⟨_,Z,by rfl⟩,Z,Z,⟨⟨_,Z,by rfl⟩,Z,Z,trivial⟩⟩⟩⟩,Z,Z,Z⟩))
      ·exact c8n
      exact Z9
     exact c5N
    refine g9 [1,2,3,4] Z Z (d6 G 6 Z Z Z Z Z (b4 ⟨Z,?_⟩))
    refine b7 (rs:=[3]) a8 Z (AllB.cons ?_ AllB.nil)
    refine g9 [1,2,3,4] Z Z (d3 8 Z Z Z (ArgsOK.of Z) (a0B z.2.2 _ hz2) Z Z (b4 ⟨Z,?_⟩))
    refine a8V ?_
    refine b7 (rs:=[8]) a8 Z (AllB.cons ?_ AllB.nil)
    refine g9 [1,2,3,4] Z Z ?_
    refine R9 ?_
    refine zsa 9 ?_
    refine H8 ?_
    refine zcd (λh8=>?_) (λh8=>?_)
    ·refine zgn ?_
     refine a3o ?_
     refine r4 (Gh.sub 6 2 B6 Z Z Z) (r4 (Gh.sub 7 3 B6 Z Z Z) (b4 ⟨(z.1+1,x9.2,(enG z.2.2 x9.1).1),?_,?_,⟨⟨_,Z,by (first | rfl | exact congrArg (λv=>AV.v (.int .i64 v)) F4)⟩,Z,trivial⟩,⟨⟨_,Z,by rfl⟩,Z,Z,⟨⟨_,Z,by rfl⟩,Z,Z,⟨⟨_,Z,by rfl⟩,Z,Z,⟨⟨_,Z,by rfl⟩,Z,Z,trivial⟩⟩⟩⟩,Z,Z,Z⟩))
     ·exact c8n
     exact Z9
    exact c5N
   refine g9 [1,2,3,4] Z Z (d6 G 6 Z Z Z Z Z (b4 ⟨Z,?_⟩))
   refine b7 (rs:=[2]) a8 Z (AllB.cons ?_ AllB.nil)
   refine g9 [1,2,3,4] Z Z (d4 6 [0] Z Z Z (r3 hc2 J (8)) Z (RowsIn.cons Z RowsIn.nil) Z (λ_=>Z) Z (λx10 ⟨hv10,hc10⟩=>b4 ⟨Z,?_⟩))
   refine b7 (rs:=[3]) a8 Z (AllB.cons ?_ AllB.nil)
   refine g9 [1,2,3,4] Z Z (d3 8 Z Z Z (ArgsOK.of Z) (a0B z.2.2 _ hz2) Z Z (b4 ⟨Z,?_⟩))
   refine a8V ?_
   refine b7 (rs:=[8]) a8 Z (AllB.cons ?_ AllB.nil)
   refine g9 [1,2,3,4] Z Z ?_
   refine R9 ?_
   refine zsa 9 ?_
   refine H8 ?_
   refine zcd (λh9=>?_) (λh9=>?_)
   ·refine zgn ?_
    refine a3o ?_
    refine r4 (Gh.sub 6 2 B6 Z Z Z) (r4 (Gh.sub 7 3 B6 Z Z Z) (b4 ⟨(z.1+1,x10.2,(enG z.2.2 x10.1).1),?_,?_,⟨⟨_,Z,by (first | rfl | exact congrArg (λv=>AV.v (.int .i64 v)) F4)⟩,Z,trivial⟩,⟨⟨_,Z,by rfl⟩,Z,Z,⟨⟨_,Z,by rfl⟩,Z,Z,⟨⟨_,Z,by rfl⟩,Z,Z,⟨⟨_,Z,by rfl⟩,Z,Z,trivial⟩⟩⟩⟩,Z,Z,Z⟩))
    ·exact d0V
    exact Z9
   refine zgo ?_
   refine ⟨(z.1+1,x10.2,z.2.2),?_,?_,⟨⟨_,Z,by (first | rfl | exact congrArg (λv=>AV.v (.int .i64 v)) F4)⟩,Z,trivial⟩,⟨⟨_,Z,by rfl⟩,Z,Z,⟨⟨_,Z,by rfl⟩,Z,Z,⟨⟨_,Z,by rfl⟩,Z,Z,⟨⟨_,Z,by rfl⟩,Z,Z,trivial⟩⟩⟩⟩,Z,Z,Z⟩
   ·exact d0V
   exact Z9
  refine zgo ?_
  refine ⟨(z.1+1,x2.2,z.2.2),?_,?_,⟨⟨_,Z,by (first | rfl | exact congrArg (λv=>AV.v (.int .i64 v)) F4)⟩,Z,trivial⟩,⟨⟨_,Z,by rfl⟩,Z,Z,⟨⟨_,Z,by rfl⟩,Z,Z,⟨⟨_,Z,by rfl⟩,Z,Z,⟨⟨_,Z,by rfl⟩,Z,Z,trivial⟩⟩⟩⟩,Z,Z,Z⟩
  ·exact d0W
  exact Z9
 refine zgo ?_
 refine a7 Z (d4 5 [0] Z Z Z (r3 hz J (24)) Z (RowsIn.cons Z RowsIn.nil) Z (λ_=>Z) Z (λx11 ⟨hv11,hc11⟩=>?_))
 refine zcd (λh10=>?_) (λh10=>?_)
 ·refine zgo ?_
  refine a7 Z (d4 6 [0] Z Z Z (a6M hc11 J) Z (RowsIn.cons Z RowsIn.nil) Z (λ_=>Z) Z (λx12 ⟨hv12,hc12⟩=>?_))
  refine zgo ?_
  refine d7 (A3 ((⟨x12.1,z.2.2.wa⟩,x12.2)) (w5 Z Z Z Z (b3 (c7 Z ?_) (b3 (c7 Z ?_) d9)) Z (AftOK.stays Z ?_ Z AftOK.nil)) (⟨?_,?_⟩))
  all_goals (first | rfl | exact hc12.mono J | (dsimp only;rw [List.map_set];rfl) | (rw [List.map_append];rfl) | (refine ⟨?_,?_⟩<;>(show List.length _<=_;(try simp only [List.length_set,List.length_append,List.length_cons,List.length_nil]);omega)))
 refine zcd (λh11=>?_) (λh11=>?_)
 ·refine U4 11 [1,2,3,4] [8,10] mixed a8 Z Z (λr0=>?_) (λ_ h=>h)
  refine w3 0 [1,8,9,10] Z a8 a8 a8 Z Z Z Z (d5 G Z Z Z Z) (w3 1 [8,9,10] Z a8 a8 a8 Z Z Z Z (f9 G Z Z Z Z Z Z Z) (w3 2 [3,5,6,7,8,9,10] Z a8 a8 a8 Z Z Z Z (b8 Z Z) (w3 4 [5,6,7,8,9,10] Z a8 a8 a8 Z Z Z Z (b8 Z Z) (y8 3 a8 (C8 [1,2,3,4] Z Z (d4 5 [0] Z Z Z (a8Z hc11 J) Z (RowsIn.cons Z RowsIn.nil) Z (λ_=>Z) Z (λx13 ⟨hv13,hc13⟩=>b4 ⟨Z,?_⟩)))))))
  refine y8 5 a8 (C8 [1,2,3,4] Z Z (d4 5 [0] Z Z Z (a8h hc13 J) Z (RowsIn.cons Z RowsIn.nil) Z (λ_=>Z) Z (λx14 ⟨hv14,hc14⟩=>b4 ⟨Z,?_⟩)))
  refine w3 6 [7,8,9,10] Z a8 a8 a8 Z Z Z Z (u3 G Z Z Z Z) (y8 7 a8 (C8 [1,2,3,4] Z Z (p6 G 6 Z Z Z Z Z Z Z Z (b4 ⟨Z,?_⟩))))
  refine y8 8 a8 (a6D Z Z a8 (I1 (Gh.forget (id:=4) (k:=1) Z Z)<|I1 (Gh.keep [0,1,2,3,4,5] Z)<|a06 (tx:=60) 7 rfl rfl rfl rfl rfl<|l2 G Z6 rfl rfl rfl rfl rfl rfl rfl rfl rfl N6 rfl rfl (b4 ?_)))
  refine y8 9 a8 (a6D Z Z a8 (b5 Z Z (d5 G Z Z Z Z) (b4 (y8 10 a8 ?_))))
  refine c8a ?_
  refine zgo ?_
  refine d7 (A3 ((⟨z.2.2.sl,z.2.2.wa++[⟨x13.1,x14.1⟩]⟩,x14.2)) (w5 Z Z Z Z (b3 (c7 Z ?_) (b3 (c7 Z ?_) d9)) Z (AftOK.stays Z ?_ Z AftOK.nil)) (⟨?_,?_⟩))
  all_goals (first | rfl | exact hc14.mono J | (dsimp only;rw [List.map_set];rfl) | (rw [List.map_append];rfl) | (refine ⟨?_,?_⟩<;>(show List.length _<=_;(try simp only [List.length_set,List.length_append,List.length_cons,List.length_nil]);omega)))
 refine zcd (λh12=>?_) (λh12=>?_)
 ·refine zcd (λh13=>?_) (λh13=>?_)
  ·refine j7 7 [1,3,4] mixed a8 Z Z (λr0=>?_) (λ_ h=>h)
   refine b8U ?_
   refine b7 (rs:=[3]) a8 Z (AllB.cons ?_ AllB.nil)
   refine g9 [1,3,4] Z Z (d4 5 [0] Z Z Z (r3 hc11 J (4)) Z (RowsIn.cons Z RowsIn.nil) Z (λ_=>Z) Z (λx15 ⟨hv15,hc15⟩=>b4 ⟨Z,?_⟩))
   refine b7 (rs:=[5]) a8 Z (AllB.cons ?_ AllB.nil)
   refine g9 [1,3,4] Z Z (b5 Z Z (d1 G Z Z Z Z Z J Y4) (b4 ⟨Z,?_⟩))
   refine b7 (rs:=[6]) a8 Z (AllB.cons ?_ AllB.nil)
   refine g9 [1,3,4] Z Z (l6 G Z Z Z Z Z (H1 J J) Z Z Z Z Z (Nat.le_of_ble_eq_true Z) Z (b4 ⟨Z,?_⟩))
   refine H8 ?_
   refine zgo ?_
   refine d7 (A3 ((⟨z.2.2.sl.set x15.1.toNat zSl,z.2.2.wa⟩,x15.2)) (w5 Z Z Z Z (b3 (c7 Z ?_) (b3 (c7 Z ?_) d9)) Z (AftOK.stays Z ?_ Z AftOK.nil)) (⟨?_,?_⟩))
   all_goals (first | rfl | exact hc15.mono J | (dsimp only;rw [List.map_set];rfl) | (rw [List.map_append];rfl) | (refine ⟨?_,?_⟩<;>(show List.length _<=_;(try simp only [List.length_set,List.length_append,List.length_cons,List.length_nil]);omega)))
  refine zgo ?_
  refine d7 (A3 ((z.2.2,x11.2)) (w5 Z Z Z Z (b3 (c7 Z ?_) (b3 (c7 Z ?_) d9)) Z (AftOK.stays Z ?_ Z AftOK.nil)) (⟨?_,?_⟩))
  all_goals exact c4L
 refine zgo ?_
 refine d7 (A3 ((z.2.2,x11.2)) (w5 Z Z Z Z (b3 (c7 Z ?_) (b3 (c7 Z ?_) d9)) Z (AftOK.stays Z ?_ Z AftOK.nil)) (⟨?_,?_⟩))
 all_goals exact c4L
theorem a12 {x:Cur} {n:Int} (h:okC n x) (hn:n<=880000000000):CtrX (α:=Ifc×Cur) Tryz.prog 99 [.ptr 0 0] [.box [.lst 1 (x.c.map B1),.v (.int .i64 x.a),.v (.int .u64 x.s)]] (λy=>(DrI y.1)/\okC (n+500) y.2) (λy=>.shp true [some 4] [.v (.int .i64 y.1.ma),.fr 3 1 (y.1.st.map Rf.s3),.fr 104 3 (y.1.qu.sl.map j4),.fr 76 2 (y.1.qu.wa.map j8)]) (λy=>[some (.box [.lst 1 (y.2.c.map B1),.v (.int .i64 y.2.a),.v (.int .u64 y.2.s)])]):=by
 refine CtrX.of (n:=76) (k:=1) G Tryz.func99 Z a8 Z Z Z Z (λ_=>Z) Z Z (λw0 _ hpin=>?_)
 refine b5q ?_
 refine vm3 ?_
 refine b5p ?_
 refine vm3 ?_
 refine c3r ?_
 refine r6 ?_
 refine p6 G 5 Z Z Z Z Z Z Z Z ?_
 refine vm3 ?_
 refine b6G ?_
 refine zgo ?_
 refine a7 Z (d4 6 [0] Z Z Z (r3 h J (14)) Z (RowsIn.cons Z RowsIn.nil) Z (λ_=>Z) Z (λx1 ⟨hv1,hc1⟩=>?_))
 refine zgo ?_
 refine i6 [0,2,3] [1] (λ(z:Nat×Cur×Ifc)=>[(4,.v (.int .i64 (x1.1 - z.1)))]) (λ(z:Nat×Cur×Ifc)=>[(0,some (.box [.lst 1 (z.2.1.c.map B1),.v (.int .i64 z.2.1.a),.v (.int .u64 z.2.1.s)])),(2,some (.row 3 1 (z.2.2.st.map Rf.s3))),(3,some (.row 104 3 (z.2.2.qu.sl.map j4))),(4,some (.row 76 2 (z.2.2.qu.wa.map j8))),(5,some (.box [.v (.int .i64 z.2.2.ma),.own 2,.own 3,.own 4]))]) (λ(z:Nat×Cur×Ifc)=>(z.1:Int)<=x1.1/\(IfG z.2.2)/\okC (n+2+6 * z.1) z.2.1) (λ(z:Nat×Cur×Ifc)=>x1.1.toNat - z.1) (0,x1.2,a9x) Z Z ?_ ?_ ?_ ?_
 ·exact ⟨hv1.1,c01,hc1.mono (by simp)⟩
 ·exact b1i
 ·exact c3C
 intro z hinv
 obtain ⟨hz1,hz2,hz⟩:=hinv
 have hql:=hz2.f.qu.sl.len
 have hqw:=hz2.f.qu.wn8
 have hqs:=hz2.f.sn
 refine vm2 ?_
 refine zcd (λh1=>?_) (λh1=>?_)
 ·refine zgo ?_
  refine a7 Z (d4 6 [0] Z Z Z (r3 hz J (6)) Z (RowsIn.cons Z RowsIn.nil) Z (λ_=>Z) Z (λx2 ⟨hv2,hc2⟩=>?_))
  refine zcd (λh2=>?_) (λh2=>?_)
  ·refine zwt ?_
   refine U4 7 [1,2,3,4,5] [6] mixed a8 Z Z (λr0=>?_) (λ_ h=>h)
   refine w3 0 [5,6] Z a8 a8 a8 Z Z Z Z (c6 G Z Z Z Z Z Z) (w3 1 [2,4,5,6] Z a8 a8 a8 Z Z Z Z (b8 Z Z) (w3 3 [4,5,6] Z a8 a8 a8 Z Z Z Z (b8 Z Z) (y8 2 a8 (C8 [1,2,3,4,5] Z Z (d4 6 [0] Z Z Z (r3 hc2 J (8)) Z (RowsIn.cons Z RowsIn.nil) Z (λ_=>Z) Z (λx3 ⟨hv3,hc3⟩=>b4 ⟨Z,?_⟩))))))
   refine y8 4 a8 (C8 [1,2,3,4,5] Z Z (d4 6 [0] Z Z Z (r3 hc3 J (12)) Z (RowsIn.cons Z RowsIn.nil) Z (λ_=>Z) Z (λx4 ⟨hv4,hc4⟩=>b4 ⟨Z,?_⟩)))
   refine y8 5 a8 (C8 [1,2,3,4,5] Z Z (d3 9 Z Z Z (ArgsOK.of Z) (V0 z.2.2 _ _ hz2.f J J) Z Z (b4 ⟨Z,?_⟩)))
   refine b8S ?_
   refine r4 (Gh.sub 6 2 B6 Z Z Z) (r4 (Gh.sub 7 3 B6 Z Z Z) (r4 (Gh.sub 8 4 B6 Z Z Z) (b4 ⟨(z.1+1,x4.2,a4R z.2.2 x3.1 x4.1),?_,?_,⟨⟨_,Z,by (first | rfl | exact congrArg (λv=>AV.v (.int .i64 v)) F4)⟩,Z,trivial⟩,⟨⟨_,Z,by rfl⟩,Z,Z,⟨⟨_,Z,by rfl⟩,Z,Z,⟨⟨_,Z,by rfl⟩,Z,Z,⟨⟨_,Z,by rfl⟩,Z,Z,⟨⟨_,Z,by rfl⟩,Z,Z,trivial⟩⟩⟩⟩⟩,Z,Z,Z⟩)))
   ·first | exact ⟨by show ((z.1+1:Nat):Int)<=x1.1;omega,c0s hz2 J J,hc4.mono n8⟩ | exact ⟨by show ((z.1+1:Nat):Int)<=x1.1;omega,b7C hz2,hc4.mono n8⟩ | exact ⟨by show ((z.1+1:Nat):Int)<=x1.1;omega,b7D hz2,hc4.mono n8⟩ | exact ⟨by show ((z.1+1:Nat):Int)<=x1.1;omega,hz2,hc4.mono n8⟩
   exact Z9
  refine zcd (λh3=>?_) (λh3=>?_)
  ·refine zwt ?_
   refine U4 7 [1,2,3,4,5] [6] mixed a8 Z Z (λr0=>?_) (λ_ h=>h)
   refine w3 0 [5,6] Z a8 a8 a8 Z Z Z Z (c6 G Z Z Z Z Z Z) (w3 1 [2,4,5,6] Z a8 a8 a8 Z Z Z Z (b8 Z Z) (w3 3 [4,5,6] Z a8 a8 a8 Z Z Z Z (b8 Z Z) (y8 2 a8 (C8 [1,2,3,4,5] Z Z (d4 6 [0] Z Z Z (r3 hc2 J (8)) Z (RowsIn.cons Z RowsIn.nil) Z (λ_=>Z) Z (λx5 ⟨hv5,hc5⟩=>b4 ⟨Z,?_⟩))))))
   refine y8 4 a8 (C8 [1,2,3,4,5] Z Z (d4 6 [0] Z Z Z (r3 hc5 J (12)) Z (RowsIn.cons Z RowsIn.nil) Z (λ_=>Z) Z (λx6 ⟨hv6,hc6⟩=>b4 ⟨Z,?_⟩)))
   refine y8 5 a8 (C8 [1,2,3,4,5] Z Z (d3 9 Z Z Z (ArgsOK.of Z) (V0 z.2.2 _ _ hz2.f J J) Z Z (b4 ⟨Z,?_⟩)))
   refine b8S ?_
   refine r4 (Gh.sub 6 2 B6 Z Z Z) (r4 (Gh.sub 7 3 B6 Z Z Z) (r4 (Gh.sub 8 4 B6 Z Z Z) (b4 ⟨(z.1+1,x6.2,a4R z.2.2 x5.1 x6.1),?_,?_,⟨⟨_,Z,by (first | rfl | exact congrArg (λv=>AV.v (.int .i64 v)) F4)⟩,Z,trivial⟩,⟨⟨_,Z,by rfl⟩,Z,Z,⟨⟨_,Z,by rfl⟩,Z,Z,⟨⟨_,Z,by rfl⟩,Z,Z,⟨⟨_,Z,by rfl⟩,Z,Z,⟨⟨_,Z,by rfl⟩,Z,Z,trivial⟩⟩⟩⟩⟩,Z,Z,Z⟩)))
   ·first | exact ⟨by show ((z.1+1:Nat):Int)<=x1.1;omega,c0s hz2 J J,hc6.mono n8⟩ | exact ⟨by show ((z.1+1:Nat):Int)<=x1.1;omega,b7C hz2,hc6.mono n8⟩ | exact ⟨by show ((z.1+1:Nat):Int)<=x1.1;omega,b7D hz2,hc6.mono n8⟩ | exact ⟨by show ((z.1+1:Nat):Int)<=x1.1;omega,hz2,hc6.mono n8⟩
   exact Z9
  refine zcd (λh4=>?_) (λh4=>?_)
  ·refine U4 7 [1,2,3,4,5] [6] mixed a8 Z Z (λr0=>?_) (λ_ h=>h)
   refine w3 0 [5,6] Z a8 a8 a8 Z Z Z Z (c6 G Z Z Z Z Z Z) (w3 1 [2,4,5,6] Z a8 a8 a8 Z Z Z Z (b8 Z Z) (w3 3 [4,5,6] Z a8 a8 a8 Z Z Z Z (b8 Z Z) (y8 2 a8 (C8 [1,2,3,4,5] Z Z (d4 6 [0] Z Z Z (r3 hc2 J (8)) Z (RowsIn.cons Z RowsIn.nil) Z (λ_=>Z) Z (λx7 ⟨hv7,hc7⟩=>b4 ⟨Z,?_⟩))))))
   refine y8 4 a8 (C8 [1,2,3,4,5] Z Z (d4 6 [0] Z Z Z (r3 hc7 J (12)) Z (RowsIn.cons Z RowsIn.nil) Z (λ_=>Z) Z (λx8 ⟨hv8,hc8⟩=>b4 ⟨Z,?_⟩)))
   refine y8 5 a8 (C8 [1,2,3,4,5] Z Z (d3 9 Z Z Z (ArgsOK.of Z) (V0 z.2.2 _ _ hz2.f J J) Z Z (b4 ⟨Z,?_⟩)))
   refine b8S ?_
   refine r4 (Gh.sub 6 2 B6 Z Z Z) (r4 (Gh.sub 7 3 B6 Z Z Z) (r4 (Gh.sub 8 4 B6 Z Z Z) (b4 ⟨(z.1+1,x8.2,a4R z.2.2 x7.1 x8.1),?_,?_,⟨⟨_,Z,by (first | rfl | exact congrArg (λv=>AV.v (.int .i64 v)) F4)⟩,Z,trivial⟩,⟨⟨_,Z,by rfl⟩,Z,Z,⟨⟨_,Z,by rfl⟩,Z,Z,⟨⟨_,Z,by rfl⟩,Z,Z,⟨⟨_,Z,by rfl⟩,Z,Z,⟨⟨_,Z,by rfl⟩,Z,Z,trivial⟩⟩⟩⟩⟩,Z,Z,Z⟩)))
   ·first | exact ⟨by show ((z.1+1:Nat):Int)<=x1.1;omega,c0s hz2 J J,hc8.mono n8⟩ | exact ⟨by show ((z.1+1:Nat):Int)<=x1.1;omega,b7C hz2,hc8.mono n8⟩ | exact ⟨by show ((z.1+1:Nat):Int)<=x1.1;omega,b7D hz2,hc8.mono n8⟩ | exact ⟨by show ((z.1+1:Nat):Int)<=x1.1;omega,hz2,hc8.mono n8⟩
   exact Z9
  refine zcd (λh5=>?_) (λh5=>?_)
  ·refine zwt ?_
   exact c5H
  refine zcd (λh6=>?_) (λh6=>?_)
  ·exact c5H
  refine zcd (λh7=>?_) (λh7=>?_)
  ·refine vm3 ?_
   refine N1 9 [2,3,4] Z Z Z (a8g z.2.2 hz2) Z (RowsIn.cons Z (RowsIn.cons Z (RowsIn.cons Z RowsIn.nil))) Z Z Z ?_
   refine zgn ?_
   refine a3o ?_
   refine r4 (Gh.sub 6 2 B6 Z Z Z) (r4 (Gh.sub 7 3 B6 Z Z Z) (r4 (Gh.sub 8 4 B6 Z Z Z) (b4 ⟨(z.1+1,x2.2,(lvX z.2.2).1),?_,?_,⟨⟨_,Z,by (first | rfl | exact congrArg (λv=>AV.v (.int .i64 v)) F4)⟩,Z,trivial⟩,⟨⟨_,Z,by rfl⟩,Z,Z,⟨⟨_,Z,by rfl⟩,Z,Z,⟨⟨_,Z,by rfl⟩,Z,Z,⟨⟨_,Z,by rfl⟩,Z,Z,⟨⟨_,Z,by rfl⟩,Z,Z,trivial⟩⟩⟩⟩⟩,Z,Z,Z⟩)))
   ·exact c8o
   exact Z9
  refine zgo ?_
  refine ⟨(z.1+1,x2.2,z.2.2),?_,?_,⟨⟨_,Z,by (first | rfl | exact congrArg (λv=>AV.v (.int .i64 v)) F4)⟩,Z,trivial⟩,⟨⟨_,Z,by rfl⟩,Z,Z,⟨⟨_,Z,by rfl⟩,Z,Z,⟨⟨_,Z,by rfl⟩,Z,Z,⟨⟨_,Z,by rfl⟩,Z,Z,⟨⟨_,Z,by rfl⟩,Z,Z,trivial⟩⟩⟩⟩⟩,Z,Z,Z⟩
  ·exact c8o
  exact Z9
 refine zgo ?_
 refine a7 Z (d4 6 [0] Z Z Z (a4b hz J (3)) Z (RowsIn.cons Z RowsIn.nil) Z (λ_=>Z) Z (λx9 ⟨hv9,hc9⟩=>?_))
 refine zcd (λh8=>?_) (λh8=>?_)
 ·refine zgo ?_
  refine a7 Z (p6 G 7 Z Z Z Z Z Z Z Z (a7 Z (d4 7 [0,6] Z Z Z (I0 hc9 J [0,4,8,15] (0) (15) (by decide) (by decide)) Z (RowsIn.cons Z (RowsIn.cons Z RowsIn.nil)) Z (λ_=>Z) Z (λx10 ⟨hv10,hc10⟩=>?_))))
  refine zgo ?_
  refine a7 Z (d4 7 [0] Z Z Z (r3 hc10 J (24)) Z (RowsIn.cons Z RowsIn.nil) Z (λ_=>Z) Z (λx11 ⟨hv11,hc11⟩=>?_))
  refine zcd (λh9=>?_) (λh9=>?_)
  ·refine zgo ?_
   refine a7 Z (p6 G 8 Z Z Z Z Z Z Z Z (a7 Z (d4 8 [0,7] Z Z Z (I0 hc11 J [-1,17] (-1) (17) (by decide) (by decide)) Z (RowsIn.cons Z (RowsIn.cons Z RowsIn.nil)) Z (λ_=>Z) Z (λx12 ⟨hv12,hc12⟩=>?_))))
   refine zgo ?_
   refine d7 (A3 ((⟨x12.1,z.2.2.st,z.2.2.qu⟩,x12.2)) (w5 Z Z Z Z (b3 (i8 ?_) (b3 (c7 Z ?_) (b3 (c7 Z ?_) (b3 (c7 Z ?_) d9)))) Z (AftOK.stays Z ?_ Z AftOK.nil)) (⟨?_,?_⟩))
   all_goals (first | rfl | exact hc12.mono J | (dsimp only;rw [List.map_set];rfl) | (rw [List.map_append];rfl) | (refine ⟨?_,?_,?_⟩<;>(show List.length _<=_;(try simp only [List.length_set,List.length_append,List.length_cons,List.length_nil]);omega)))
  refine zcd (λh10=>?_) (λh10=>?_)
  ·refine U4 8 [1,2,3,4,5,6] [5,7] mixed a8 Z Z (λr0=>?_) (λ_ h=>h)
   refine w3 0 [1,5,6,7] Z a8 a8 a8 Z Z Z Z (d5 G Z Z Z Z) (w3 1 [5,6,7] Z a8 a8 a8 Z Z Z Z (f9 G Z Z Z Z Z Z Z) (w3 2 [3,4,5,6,7] Z a8 a8 a8 Z Z Z Z (b8 Z Z) (y8 3 a8 (C8 [1,2,3,4,5,6] Z Z (d4 7 [0] Z Z Z (r3 hc11 J (8)) Z (RowsIn.cons Z RowsIn.nil) Z (λ_=>Z) Z (λx13 ⟨hv13,hc13⟩=>b4 ⟨Z,?_⟩))))))
   refine y8 4 a8 (C8 [1,2,3,4,5,6] Z Z (p6 G 8 Z Z Z Z Z Z Z Z (b4 ⟨Z,?_⟩)))
   refine y8 5 a8 (a6D Z Z a8 (I1 (Gh.forget (id:=5) (k:=1) Z Z)<|I1 (Gh.keep [0,1,2,3,4,5,6,7] Z)<|a06 (tx:=64) 9 rfl rfl rfl rfl rfl<|l2 G Z6 rfl rfl rfl rfl rfl rfl rfl rfl rfl N6 rfl rfl (b4 ?_)))
   refine c8j ?_
   refine d7 (A3 ((⟨x10.1,z.2.2.st++[x13.1],z.2.2.qu⟩,x13.2)) (w5 Z Z Z Z (b3 (i8 ?_) (b3 (c7 Z ?_) (b3 (c7 Z ?_) (b3 (c7 Z ?_) d9)))) Z (AftOK.stays Z ?_ Z AftOK.nil)) (⟨?_,?_⟩))
   all_goals (first | rfl | exact hc13.mono J | (dsimp only;rw [List.map_set];rfl) | (rw [List.map_append];rfl) | (refine ⟨?_,?_,?_⟩<;>(show List.length _<=_;(try simp only [List.length_set,List.length_append,List.length_cons,List.length_nil]);omega)))
  refine zcd (λh11=>?_) (λh11=>?_)
  ·refine zgo ?_
   refine a7 Z (d4 9 [0] Z Z Z (a11 hc11 J) Z (RowsIn.cons Z RowsIn.nil) Z (λ_=>Z) Z (λx14 ⟨hv14,hc14⟩=>?_))
   refine zgo ?_
   refine d7 (A3 ((⟨x10.1,z.2.2.st,x14.1⟩,x14.2)) (w5 Z Z Z Z (b3 (i8 ?_) (b3 (c7 Z ?_) (b3 (c7 Z ?_) (b3 (c7 Z ?_) d9)))) Z (AftOK.stays Z ?_ Z AftOK.nil)) (⟨?_,?_⟩))
   all_goals (first | rfl | exact hc14.mono J | (dsimp only;rw [List.map_set];rfl) | (rw [List.map_append];rfl) | (refine ⟨?_,?_,?_⟩<;>(show List.length _<=_;(try simp only [List.length_set,List.length_append,List.length_cons,List.length_nil]);omega)))
  refine zgo ?_
  refine d7 (A3 ((⟨x10.1,z.2.2.st,z.2.2.qu⟩,x11.2)) (w5 Z Z Z Z (b3 (i8 ?_) (b3 (c7 Z ?_) (b3 (c7 Z ?_) (b3 (c7 Z ?_) d9)))) Z (AftOK.stays Z ?_ Z AftOK.nil)) (⟨?_,?_⟩))
  all_goals (first | rfl | exact hc11.mono J | (dsimp only;rw [List.map_set];rfl) | (rw [List.map_append];rfl) | (refine ⟨?_,?_,?_⟩<;>(show List.length _<=_;(try simp only [List.length_set,List.length_append,List.length_cons,List.length_nil]);omega)))
 refine zgo ?_
 refine a7 Z (d4 6 [0] Z Z Z (r3 hc9 J (24)) Z (RowsIn.cons Z RowsIn.nil) Z (λ_=>Z) Z (λx15 ⟨hv15,hc15⟩=>?_))
 refine zcd (λh12=>?_) (λh12=>?_)
 ·refine zgo ?_
  refine a7 Z (p6 G 7 Z Z Z Z Z Z Z Z (a7 Z (d4 7 [0,6] Z Z Z (I0 hc15 J [-1,17] (-1) (17) (by decide) (by decide)) Z (RowsIn.cons Z (RowsIn.cons Z RowsIn.nil)) Z (λ_=>Z) Z (λx16 ⟨hv16,hc16⟩=>?_))))
  refine zgo ?_
  refine d7 (A3 ((⟨x16.1,z.2.2.st,z.2.2.qu⟩,x16.2)) (w5 Z Z Z Z (b3 (i8 ?_) (b3 (c7 Z ?_) (b3 (c7 Z ?_) (b3 (c7 Z ?_) d9)))) Z (AftOK.stays Z ?_ Z AftOK.nil)) (⟨?_,?_⟩))
  all_goals (first | rfl | exact hc16.mono J | (dsimp only;rw [List.map_set];rfl) | (rw [List.map_append];rfl) | (refine ⟨?_,?_,?_⟩<;>(show List.length _<=_;(try simp only [List.length_set,List.length_append,List.length_cons,List.length_nil]);omega)))
 refine zcd (λh13=>?_) (λh13=>?_)
 ·refine U4 8 [1,2,3,4,5] [5,7] mixed a8 Z Z (λr0=>?_) (λ_ h=>h)
  refine w3 0 [1,5,6,7] Z a8 a8 a8 Z Z Z Z (d5 G Z Z Z Z) (w3 1 [5,6,7] Z a8 a8 a8 Z Z Z Z (f9 G Z Z Z Z Z Z Z) (w3 2 [3,4,5,6,7] Z a8 a8 a8 Z Z Z Z (b8 Z Z) (y8 3 a8 (C8 [1,2,3,4,5] Z Z (d4 6 [0] Z Z Z (r3 hc15 J (8)) Z (RowsIn.cons Z RowsIn.nil) Z (λ_=>Z) Z (λx17 ⟨hv17,hc17⟩=>b4 ⟨Z,?_⟩))))))
  refine y8 4 a8 (C8 [1,2,3,4,5] Z Z (p6 G 7 Z Z Z Z Z Z Z Z (b4 ⟨Z,?_⟩)))
  refine y8 5 a8 (a6D Z Z a8 (I1 (Gh.forget (id:=5) (k:=1) Z Z)<|I1 (Gh.keep [0,1,2,3,4,5,6] Z)<|a06 (tx:=64) 8 rfl rfl rfl rfl rfl<|l2 G Z6 rfl rfl rfl rfl rfl rfl rfl rfl rfl N6 rfl rfl (b4 ?_)))
  refine c8j ?_
  refine d7 (A3 ((⟨z.2.2.ma,z.2.2.st++[x17.1],z.2.2.qu⟩,x17.2)) (w5 Z Z Z Z (b3 (i8 ?_) (b3 (c7 Z ?_) (b3 (c7 Z ?_) (b3 (c7 Z ?_) d9)))) Z (AftOK.stays Z ?_ Z AftOK.nil)) (⟨?_,?_⟩))
  all_goals (first | rfl | exact hc17.mono J | (dsimp only;rw [List.map_set];rfl) | (rw [List.map_append];rfl) | (refine ⟨?_,?_,?_⟩<;>(show List.length _<=_;(try simp only [List.length_set,List.length_append,List.length_cons,List.length_nil]);omega)))
 refine zcd (λh14=>?_) (λh14=>?_)
 ·refine zgo ?_
  refine a7 Z (d4 8 [0] Z Z Z (a11 hc15 J) Z (RowsIn.cons Z RowsIn.nil) Z (λ_=>Z) Z (λx18 ⟨hv18,hc18⟩=>?_))
  refine zgo ?_
  refine d7 (A3 ((⟨z.2.2.ma,z.2.2.st,x18.1⟩,x18.2)) (w5 Z Z Z Z (b3 (i8 ?_) (b3 (c7 Z ?_) (b3 (c7 Z ?_) (b3 (c7 Z ?_) d9)))) Z (AftOK.stays Z ?_ Z AftOK.nil)) (⟨?_,?_⟩))
  all_goals (first | rfl | exact hc18.mono J | (dsimp only;rw [List.map_set];rfl) | (rw [List.map_append];rfl) | (refine ⟨?_,?_,?_⟩<;>(show List.length _<=_;(try simp only [List.length_set,List.length_append,List.length_cons,List.length_nil]);omega)))
 refine zgo ?_
 refine d7 (A3 ((⟨z.2.2.ma,z.2.2.st,z.2.2.qu⟩,x15.2)) (w5 Z Z Z Z (b3 (i8 ?_) (b3 (c7 Z ?_) (b3 (c7 Z ?_) (b3 (c7 Z ?_) d9)))) Z (AftOK.stays Z ?_ Z AftOK.nil)) (⟨?_,?_⟩))
 all_goals (first | rfl | exact hc15.mono J | (dsimp only;rw [List.map_set];rfl) | (rw [List.map_append];rfl) | (refine ⟨?_,?_,?_⟩<;>(show List.length _<=_;(try simp only [List.length_set,List.length_append,List.length_cons,List.length_nil]);omega)))
end Go.Proofs.YtdhckhjphmjniaaGreatDoor
