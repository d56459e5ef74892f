/- Texts merged into one: M26, Q3, L7, Q6, Q7. -/
import Derived.Test.YtpfhomblkgmkkaaGreatDoorPFnExactExecuteCommandG
set_option maxHeartbeats 4000000
set_option linter.unusedSimpArgs false
set_option linter.unusedVariables false
set_option maxRecDepth 20000
namespace Go.Proofs.YtpfhomblkgmkkaaGreatDoor
open Go Go.Rf
theorem a8F (z:Value) (sl:List Slot) (lim:Int) (hF:SlF sl) (hk:a2m sl lim=false):Ctr Tryz.prog 293 [.pin z 3 (sl.map e9),.v (.int .i64 lim)] (.many [.v z,.v (.int .i64 (-1))]):=by
 have hl4:=hF.len
 have hb:=@a0V sl true
 have hf:=@a2l sl
 have hkk:=b2f.mp hk
 refine Ctr.of (n:=33) G Tryz.func293 Z a8 Z Z Z (λw0=>?_)
 refine zcl (a2z sl J) ?_
 refine zcd (λh1=>?_) (λh1=>?_)
 ·refine zwt ?_
  exact c3s
 refine zgo ?_
 refine a0I ?_
 first | refine b5 Z Z (a27 G Z Z Z Z J (a14 J)) ?_ | refine b5 Z Z (a27 G Z Z Z Z J (V5 J J)) ?_ | refine b5 Z Z (a27 G Z Z Z Z J (x9 J J)) ?_
 refine zcd (λh2=>?_) (λh2=>?_)
 ·exact c3s
 exfalso;omega
theorem a7A (q:Que) (lim:Int) (hF:QF q) (hk:a2m q.sl lim=false):Ctr Tryz.prog 242 [.agg [.lst 3 (q.sl.map e9),.lst 2 (q.wa.map e7)],.v (.int .i64 lim)] (.shp false [some 2,none] [.fr 169 3 (q.sl.map e9),.fr 182 2 (q.wa.map e7),.v (.int .i64 (-1))]):=by
 have hl4:=hF.sl.len
 have hwn:=hF.wn
 refine Ctr.of (n:=24) G Tryz.func242 Z a8 Z Z Z (λw0=>?_)
 refine j5 0 Z (λ_=>Z) (λu0=>?_)
 refine N3 ?_
 refine zgo ?_
 refine c07 (t:=10) Z (λz10=>?_)
 refine vm5 ?_
 refine b5 Z Z (f7 Z (ArgsOK.pin1 Z (ArgsOK.of Z)) (a8F _ q.sl lim hF.sl hk) Z) ?_
 refine zgn ?_
 refine n9 (C4 (Gh.asPin (d:=6) (t:=10) Z Z) (l3 11 [0] mixed a8 Z Z (λr0=>?_) (λ_ h=>h)))
 refine zsa 1 ?_
 refine zsa 4 ?_
 refine zsa 5 ?_
 refine zsa 8 ?_
 refine x5 (N:=4) Z (r7 (fuel:=5) [⟨0,15,2,false,.row 169 3 []⟩,⟨3,18,3,false,.row 182 2 []⟩] (AllVOK.cons (VOK.lit G Z Z Z Z Z) (AllVOK.cons (VOK.lit G Z Z Z Z Z) (AllVOK.nil))) (λhok=>?_))
 refine m6 [(2,[0])] a8 a8 (λe he=>hok e he) a8 (AllVS.cons ?_ AllVS.nil)
 refine VStep.mk1 [0] 15 (.own 2) 2 (.row 169 3 []) [⟨3,18,3,false,.row 182 2 []⟩] Z Z Z Z Z (λb1 _ hbn=>j3 G O9 Z Z Z Z Z Z Z Z Z B1 Z Z (b6 Z)) a8 a8 a8 a8 (m6 [(6,[3])] a8 a8 (λe he=>hok e (vin (is:=[0]) Z he)) a8 (AllVS.cons ?_ AllVS.nil))
 refine VStep.mk1 [0] 18 (.own 3) 3 (.row 182 2 []) [] Z Z Z Z Z (λb1 _ hbn=>j3 G O9 Z Z Z Z Z Z Z Z Z B1 Z Z (b6 Z)) a8 a8 a8 a8 (D1 ?_)
 clear hok
 refine b7 (rs:=[7]) a8 Z (AllB.cons ?_ AllB.nil)
 refine b2K ?_
 refine b7 (rs:=[9]) a8 Z (AllB.cons ?_ AllB.nil)
 refine b2K ?_
 refine zsa 10 ?_
 refine J1 ?_
 refine f6 (m8 Z Z Z Z (b4 (d7 Z ?_) (b4 (d7 Z ?_) (b4 (l4 ?_) f8))))
 all_goals (first | rfl | simp)
theorem a6F (x:Ifc) (hF:IfF x) (hk:okT x=false):Ctr Tryz.prog 196 [.agg [.v (.int .i64 x.ma),.lst 1 (x.st.map Rf.n7),.lst 3 (x.qu.sl.map e9),.lst 2 (x.qu.wa.map e7)]] (.shp false [some 4,none] [.v (.int .i64 x.ma),.fr 3 1 (x.st.map Rf.n7),.fr 169 3 (x.qu.sl.map e9),.fr 182 2 (x.qu.wa.map e7),.v (.int .i64 (-1))]):=by
 have hl4:=hF.qu.sl.len
 have hwn:=hF.qu.wn
 have hsn:=hF.sn
 refine Ctr.of (n:=35) G Tryz.func196 Z a8 Z Z Z (λw0=>?_)
 refine j5 0 Z (λ_=>Z) (λu0=>?_)
 refine N3 ?_
 refine zgn ?_
 refine n9 (l3 14 [0,1] mixed a8 Z Z (λr0=>?_) (λ_ h=>h))
 refine a0A ?_
 refine zsa 4 ?_
 refine x5 (N:=3) Z (r7 (fuel:=8) [⟨11,4,2,true,.box (avR [.slice none 0 0,.slice none 0 0] [])⟩] (AllVOK.cons (VOK.boxS G Z Z Z Z Z) (AllVOK.nil)) (λhok=>?_))
 refine m6 [(5,[])] a8 a8 (λe he=>hok e he) a8 (AllVS.cons ?_ AllVS.nil)
 refine VStep.mk0 [0,1] Z Z (λb1 _ hbn=>b5 Z Z (f7 Z (ArgsOK.of Z) (a04 x hF) Z) (b6 Z)) a8 a8 a8 a8 (m6 [(6,[])] a8 a8 (λe he=>hok e he) a8 (AllVS.cons ?_ AllVS.nil))
 refine VStep.mk0 [0,1] Z Z (λb1 _ hbn=>b5 Z Z (f7 Z (ArgsOK.of Z) (a3A _ _) Z) (b6 Z)) a8 a8 a8 a8 (m6 [(7,[])] a8 a8 (λe he=>hok e he) a8 (AllVS.cons ?_ AllVS.nil))
 refine VStep.mk0 [0,1] Z Z (λb1 _ hbn=>c8 5 Z Z Z (ArgsOK.of Z) (a7A x.qu (c0M x) hF.qu hk) Z Z (b6 Z)) a8 a8 a8 a8 (s7 8 Z a8 Z Z Z Z (c7 Z Z) a8 a8 a8 (s7 9 Z a8 Z Z Z Z (j7 Z Z Z) a8 a8 a8 (s7 10 Z a8 Z Z Z Z (j7 Z Z Z) a8 a8 a8 (m6 [(12,[11])] a8 a8 (λe he=>hok e he) a8 (AllVS.cons ?_ AllVS.nil)))))
 refine c7I ?_
 clear hok
 refine zsa 13 ?_
 refine J1 ?_
 refine n9 (l3 9 [0,1,2,3,4] mixed a8 Z Z (λr0=>?_) (λ_ h=>h))
 refine a0A ?_
 refine zsa 5 ?_
 refine x5 (N:=6) Z (r7 (fuel:=3) [⟨7,6,5,true,.box (avR [.int .i64 0,.slice none 0 0,.slice none 0 0,.slice none 0 0] [])⟩] (AllVOK.cons (VOK.boxS G Z Z Z Z Z) (AllVOK.nil)) (λhok=>?_))
 refine m6 [(4,[])] a8 a8 (λe he=>hok e he) a8 (AllVS.cons ?_ AllVS.nil)
 refine VStep.mk0 [0,1,2,3,4] Z Z (λb1 _ hbn=>c8 7 Z Z Z (ArgsOK.of Z) (E3 x.st J) Z Z (b6 Z)) a8 a8 a8 a8 (m6 [(6,[])] a8 a8 (λe he=>hok e he) a8 (AllVS.cons ?_ AllVS.nil))
 refine VStep.mk0 [0,1,2,3,4] Z Z (λb1 _ hbn=>b5 Z Z (w6 G Z Z Z Z) (b6 Z)) a8 a8 a8 a8 (m6 [(8,[7])] a8 a8 (λe he=>hok e he) a8 (AllVS.cons ?_ AllVS.nil))
 refine c7F ?_
 clear hok
 refine J1 ?_
 refine zcd (λh1=>?_) (λh1=>?_)
 ·exfalso;omega
 refine zgo ?_
 refine f6 (m8 Z Z Z Z (b4 (l4 ?_) (b4 (d7 Z ?_) (b4 (d7 Z ?_) (b4 (d7 Z ?_) (b4 (l4 ?_) f8))))))
 all_goals (rfl)
theorem a5i (x:Ifc) (hn:x.st.length=0):CtrE (α:=Nat→Option Addr×Nat×Nat) Tryz.prog 197 [.agg [.v (.int .i64 x.ma),.lst 1 (x.st.map Rf.n7),.lst 3 (x.qu.sl.map e9),.lst 2 (x.qu.wa.map e7)]] (λy=>(.shp false [some 4,none] [.v (.int .i64 x.ma),.v (.slice (y 1).1 (y 1).2.1 (y 1).2.2),.v (.slice (y 2).1 (y 2).2.1 (y 2).2.2),.v (.slice (y 3).1 (y 3).2.1 (y 3).2.2),.v (.int .i64 (-1))])):=by
 refine CtrE.of (n:=41) G Tryz.func197 Z a8 Z Z Z (λw0=>?_)
 refine c5m 0 Z (λ_=>Z) (λu0=>?_)
 refine N3 ?_
 refine zcd (λh1=>?_) (λh1=>?_)
 ·refine zgo ?_
  refine f6 (c4x (u0) (m8 Z Z Z Z (b4 (l4 ?_) (b4 (b11 ?_) (b4 (b11 ?_) (b4 (b11 ?_) (b4 (l4 ?_) f8)))))))
  all_goals (rfl)
 exfalso;omega
theorem b0l (m:Mach) (sk sq sc sv:Int) (hM:MaG m) (hv:H1 m.cp.length ⟨sk,sq,sc,sv⟩=true) (ho:¬ b2A m ⟨sk,sq,sc,sv⟩):Ctr Tryz.prog 148 [.agg [.lst 2 (m.rs.map m4),.lst 1 (m.en.map j4),.lst 1 (m.ra.map j4),.nst none 4 (m.cp.map (l8 169 182))],.v (.agg ⟨[.int .i64 sk,.int .i64 sq,.int .i64 sc,.int .i64 sv]⟩)] (.shp false [some 4,none,none] [.fr 83 2 ((stM m ⟨sk,sq,sc,sv⟩).1.rs.map m4),.fr 4 1 ((stM m ⟨sk,sq,sc,sv⟩).1.en.map j4),.fr 4 1 ((stM m ⟨sk,sq,sc,sv⟩).1.ra.map j4),.ne 135 4 ((stM m ⟨sk,sq,sc,sv⟩).1.cp.map (l8 169 182)),.v (.int .i64 (stM m ⟨sk,sq,sc,sv⟩).2.1),.v (.bool (stM m ⟨sk,sq,sc,sv⟩).2.2)]):=by
 have f1:=hM.n
 have f2:=hM.en
 have f3:=hM.ra
 have f4:=hM.rn
 refine Ctr.of (n:=107) G Tryz.func148 Z a8 Z Z Z (λw0=>?_)
 refine j5 0 Z (λ_=>Z) (λu0=>?_)
 refine a2r ?_
 refine a7k ?_
 refine p8 ?_
 refine c8 7 Z Z Z (ArgsOK.of Z) (a1h m hM) Z Z ?_
 refine vm5 ?_
 refine b43 ?_
 refine zcd (λh1=>?_) (λh1=>?_)
 ·have hq:=c0t hv J
  obtain ⟨q,rfl⟩:∃q:Nat,sq=q:=⟨sq.toNat,by omega⟩
  have hS:=sm1 (m:=m) (sc:=sc) (sv:=sv) (q:=q) h1
  refine c1h ?_
  refine zgn ?_
  refine n9 (l3 11 [0,1,3,4,5,6,7] mixed a8 Z Z (λr0=>?_) (λ_ h=>h))
  refine a0A ?_
  refine b0z ?_
  refine zsa 7 ?_
  refine b7 (rs:=[8]) a8 Z (AllB.cons ?_ AllB.nil)
  refine g9 [0,1,3,4,5,6,7] Z Z ?_
  refine U6 ?_
  refine zsa 9 ?_
  refine zsa 10 ?_
  refine J1 ?_
  exact b55
 refine zcd (λh2=>?_) (λh2=>?_)
 ·have hS:=sm2 (m:=m) (sq:=sq) (sc:=sc) (sv:=sv) h2
  refine p8 ?_
  refine c8 12 Z Z Z (ArgsOK.of Z) (b0k m hM) Z Z ?_
  refine zgo ?_
  exact b55
 refine zcd (λh3=>?_) (λh3=>?_)
 ·have hc:=b2a hv J
  obtain ⟨c,rfl⟩:∃c:Nat,sc=c:=⟨sc.toNat,by omega⟩
  obtain ⟨g1,g2,g3⟩:=hM.lens (k:=c) J
  have hIG:=hM.ok c J
  have hk:=c8y ho h3
  have hS:=sm3 (m:=m) (sq:=sq) (sv:=sv) (c:=c) h3 hk
  have hbd:=b2D hIG hk
  refine p8 ?_
  refine c8 11 Z Z Z (ArgsOK.of Z) (a94 (m.cp.getD c default) hIG.f hk) Z Z ?_
  exact c30
 refine zcd (λh4=>?_) (λh4=>?_)
 ·have hc:=b2a hv J
  obtain ⟨c,rfl⟩:∃c:Nat,sc=c:=⟨sc.toNat,by omega⟩
  obtain ⟨g1,g2,g3⟩:=hM.lens (k:=c) J
  have hIG:=hM.ok c J
  have hk:=c8z ho h4
  have hS:=sm4 (m:=m) (sq:=sq) (sv:=sv) (c:=c) h4 hk
  have hbd:=a9U hIG hk
  refine p8 ?_
  refine c8 11 Z Z Z (ArgsOK.of Z) (a8E (m.cp.getD c default) hIG hk) Z Z ?_
  exact c30
 refine zcd (λh5=>?_) (λh5=>?_)
 ·have hc:=b2a hv J
  obtain ⟨c,rfl⟩:∃c:Nat,sc=c:=⟨sc.toNat,by omega⟩
  obtain ⟨g1,g2,g3⟩:=hM.lens (k:=c) J
  have hIG:=hM.ok c J
  have hS:=sm5 (m:=m) (sq:=sq) (sv:=sv) (c:=c) h5
  refine n9 (C4 (Gh.open (id:=6) (i:=c) (k:=1) 9 Z Z (c5n J) Z Z) (C4 (Gh.open (id:=6) (i:=c) (k:=2) 10 Z Z (Y2 G0 Z) Z Z) (C4 (Gh.open (id:=6) (i:=c) (k:=3) 11 Z Z (Y2 G0 Z) Z Z) ?_)))
  refine c1g ?_
  refine b5 Z Z (M6 G Z Z Z Z (Y2 G0 Z) Z (.v (.own a6v (.own a6v (.own a6v .nil))))) ?_
  refine vm5 ?_
  refine d6 G 12 Z Z Z Z Z ?_
  refine C8 ?_
  refine n9 (C4 (Gh.detach (id:=6) Z) (C4 (Gh.detach (id:=6) Z) (C4 (Gh.detach (id:=6) Z) ?_)))
  exact c7T
 have hk:=c6K hv
 have hq:=c0t hv J
 obtain ⟨q,rfl⟩:∃q:Nat,sq=q:=⟨sq.toNat,by omega⟩
 have hS:=sm6 (m:=m) (sk:=sk) (sc:=sc) (sv:=sv) (q:=q) J
 refine c1h ?_
 refine zgo ?_
 exact b55
theorem a6G (m:Mach) (sk sq sc sv:Int) (hM:MaG m) (hv:H1 m.cp.length ⟨sk,sq,sc,sv⟩=true) (ho:b2A m ⟨sk,sq,sc,sv⟩):Ctr Tryz.prog 148 [.agg [.lst 2 (m.rs.map m4),.lst 1 (m.en.map j4),.lst 1 (m.ra.map j4),.nst none 4 (m.cp.map (l8 169 182))],.v (.agg ⟨[.int .i64 sk,.int .i64 sq,.int .i64 sc,.int .i64 sv]⟩)] (.shp false [some 4,none,none] [.fr 83 2 (m.rs.map m4),.fr 4 1 (m.en.map j4),.fr 4 1 (m.ra.map j4),.ne 135 4 (m.cp.map a7h),.v (.int .i64 (-1)),.v (.bool false)]):=by
 have f1:=hM.n
 have f2:=hM.en
 have f3:=hM.ra
 have f4:=hM.rn
 refine Ctr.of (n:=107) G Tryz.func148 Z a8 Z Z Z (λw0=>?_)
 refine j5 0 Z (λ_=>Z) (λu0=>?_)
 refine a2r ?_
 refine a7k ?_
 refine p8 ?_
 refine c8 7 Z Z Z (ArgsOK.of Z) (a1h m hM) Z Z ?_
 refine vm5 ?_
 refine b43 ?_
 refine zcd (λh1=>?_) (λh1=>?_)
 ·exact absurd (b4V ho) J
 refine zcd (λh2=>?_) (λh2=>?_)
 ·exact absurd (b4V ho) J
 refine zcd (λh3=>?_) (λh3=>?_)
 ·have hc:=b2a hv J
  obtain ⟨c,rfl⟩:∃c:Nat,sc=c:=⟨sc.toNat,by omega⟩
  obtain ⟨g1,g2,g3⟩:=hM.lens (k:=c) J
  have hIG:=hM.ok c J
  have hk:=c5d ho h3
  refine p8 ?_
  refine c8 11 Z Z Z (ArgsOK.of Z) (a6F (m.cp.getD c default) hIG.f hk) Z Z ?_
  refine p8 ?_
  refine d6 G 12 Z Z Z Z Z ?_
  refine c7A ?_
  exact c25
 refine zcd (λh4=>?_) (λh4=>?_)
 ·have hc:=b2a hv J
  obtain ⟨c,rfl⟩:∃c:Nat,sc=c:=⟨sc.toNat,by omega⟩
  obtain ⟨g1,g2,g3⟩:=hM.lens (k:=c) J
  have hIG:=hM.ok c J
  have hk:=c5e ho h4
  refine zgo ?_
  refine a7 Z (a9x 8 Z Z Z (ArgsOK.of Z) (a5i (m.cp.getD c default) hk) (λ_=>Z) Z (λy1=>?_))
  refine p8 ?_
  refine d6 G 9 Z Z Z Z Z ?_
  refine c1g ?_
  first | refine p4 G Z Z Z Z Z (x9 J J) Z Z (.v Z (.v Z (.v Z (.v Z .nil)))) Z Z Z (Nat.le_of_ble_eq_true Z) (λq h=>by cases h) Z ?_ | refine p4 G Z Z Z Z Z (V5 J J) Z Z (.v Z (.v Z (.v Z (.v Z .nil)))) Z Z Z (Nat.le_of_ble_eq_true Z) (λq h=>by cases h) Z ?_ | refine p4 G Z Z Z Z Z (Y2 G0 Z) Z Z (.v Z (.v Z (.v Z (.v Z .nil)))) Z Z Z (Nat.le_of_ble_eq_true Z) (λq h=>by cases h) Z ?_
  exact c25
 exact absurd (b4V ho) J
theorem a5j (m:Mach) (sk sq sc sv:Int) (hs:SmallM m):Ctr Tryz.prog 74 [.agg [.lst 2 (m.rs.map m4),.lst 1 (m.en.map j4),.lst 1 (m.ra.map j4),.nst none 4 (m.cp.map (l8 169 182))],.v (.agg ⟨[.int .i64 sk,.int .i64 sq,.int .i64 sc,.int .i64 sv]⟩)] (.shp false [some 4,none,none] [.fr 83 2 ((smT m ⟨sk,sq,sc,sv⟩).1.rs.map m4),.fr 4 1 ((smT m ⟨sk,sq,sc,sv⟩).1.en.map j4),.fr 4 1 ((smT m ⟨sk,sq,sc,sv⟩).1.ra.map j4),.ne 135 4 ((smT m ⟨sk,sq,sc,sv⟩).1.cp.map (F4 169 182)),.v (.int .i64 (smT m ⟨sk,sq,sc,sv⟩).2.1),.v (.bool (smT m ⟨sk,sq,sc,sv⟩).2.2)]):=by
 have hcp:=hs.cp
 refine Ctr.of (n:=32) G Tryz.func74 Z a8 Z Z Z (λw0=>?_)
 refine j5 0 Z (λ_=>Z) (λu0=>?_)
 refine a2r ?_
 refine a7k ?_
 refine zcl (U9 m hs) ?_
 refine zcd (λh1=>?_) (λh1=>?_)
 ·exact c31
 have hM:=(maF h1).g
 refine zcl (a4j m ⟨sk,sq,sc,sv⟩ J) ?_
 refine zcd (λh2=>?_) (λh2=>?_)
 ·have hO:=b1D (m:=m) (.inr (.inl h2))
  exact b7g
 refine p8 ?_
 refine c8 7 Z Z Z (ArgsOK.of Z) (a5h m sk sq sc sv hM h2) Z Z ?_
 refine p8 ?_
 refine b43 ?_
 refine zcd (λh3=>?_) (λh3=>?_)
 ·have hO:=b1D (.inr (.inr h3))
  exact b7g
 have hO:=c2a h1 h2 h3
 refine zgo ?_
 refine f6 (m8 Z Z Z Z (b4 (d7 Z ?_) (b4 (d7 Z ?_) (b4 (d7 Z ?_) (b4 (C7 Z ?_) (b4 (l4 ?_) (b4 (l4 ?_) f8)))))))
 all_goals (first | rfl | (rw [hO];done) | (rw [hO];rfl))
theorem u7 (m:Mach) (sk sq sc sv:Int) (hs:SmallM m):Ctr Tryz.prog 100 [.agg [.lst 2 (m.rs.map m4),.lst 1 (m.en.map j4),.lst 1 (m.ra.map j4),.nst none 4 (m.cp.map (l8 169 182))],.v (.agg ⟨[.int .i64 sk,.int .i64 sq,.int .i64 sc,.int .i64 sv]⟩)] (.shp false [some 4,none,none] [.fr 83 2 ((smT m ⟨sk,sq,sc,sv⟩).1.rs.map m4),.fr 4 1 ((smT m ⟨sk,sq,sc,sv⟩).1.en.map j4),.fr 4 1 ((smT m ⟨sk,sq,sc,sv⟩).1.ra.map j4),.ne 135 4 ((smT m ⟨sk,sq,sc,sv⟩).1.cp.map (l8 169 182)),.v (.int .i64 (smT m ⟨sk,sq,sc,sv⟩).2.1),.v (.bool (smT m ⟨sk,sq,sc,sv⟩).2.2)]):=by
 have hcp:=hs.cp
 refine Ctr.of (n:=32) G Tryz.func100 Z a8 Z Z Z (λw0=>?_)
 refine j5 0 Z (λ_=>Z) (λu0=>?_)
 refine a2r ?_
 refine a7k ?_
 refine zcl (a3E m hs) ?_
 refine zcd (λh1=>?_) (λh1=>?_)
 ·exact c31
 have hM:=(maF h1).g
 refine zcl (a7u m ⟨sk,sq,sc,sv⟩ J) ?_
 refine zcd (λh2=>?_) (λh2=>?_)
 ·have hO:=b1D (m:=m) (.inr (.inl h2))
  exact b7g
 refine zgn ?_
 refine n9 ?_
 by_cases hno:b2A m ⟨sk,sq,sc,sv⟩
 ·have hO:=b1D (.inr (.inr (c5f hno)))
  refine p8 ?_
  refine c8 7 Z Z Z (ArgsOK.of Z) (a6G m sk sq sc sv hM h2 hno) Z Z ?_
  refine p8 ?_
  refine b43 ?_
  refine zwt ?_
  exact b7g
 refine p8 ?_
 refine c8 7 Z Z Z (ArgsOK.of Z) (b0l m sk sq sc sv hM h2 hno) Z Z ?_
 refine p8 ?_
 refine b43 ?_
 refine zcd (λh3=>?_) (λh3=>?_)
 ·have hO:=b1D (.inr (.inr h3))
  exact b7g
 have hO:=c2a h1 h2 h3
 refine zgo ?_
 refine f6 (m8 Z Z Z Z (b4 (d7 Z ?_) (b4 (d7 Z ?_) (b4 (d7 Z ?_) (b4 (C7 Z ?_) (b4 (l4 ?_) (b4 (l4 ?_) f8)))))))
 all_goals (first | rfl | (rw [hO];done) | (rw [hO];rfl))
theorem t8 (x:Lg) (r:Rec) (hx:x.d.size+x.p.size<=1048576) (hr:r.c.size<=9223372036854775807/\r.r.size<=9223372036854775807):Ctr Tryz.prog 30 [.v (a9m x),.v (b3d r)] (.many [.v (a9m (apE x r)),.v (.int .i64 (apN x r))]):=by
 refine Ctr.of (n:=32) G Tryz.func30 Z a8 Z Z Z (λw0=>?_)
 refine a2r ?_
 refine a7k ?_
 refine zcl (a4E _ a1O) ?_
 refine zcd (λh1=>?_) (λh1=>?_)
 ·have hO:=c01 (x:=x) (r:=r) (c17 h1)
  refine zwt ?_
  exact b1L
 refine zcl (a0F _ i6) ?_
 refine zcd (λh2=>?_) (λh2=>?_)
 ·have hO:=c01 (x:=x) (r:=r) (c18 h2)
  exact b1L
 refine zcd (λh3=>?_) (λh3=>?_)
 ·have hO:=c64 (x:=x) (r:=r) h1 h2 h3
  exact b1L
 have hz:=a8V (x:=x) i6
 have hls:=a7i (k:=x.n) (x:=r) J J i6
 have hO:=c65 (x:=x) (r:=r) h1 h2 h3
 refine zgo ?_
 apply x7 [2,4] [0,2] 3 9 [1,2] mixed a8 Z Z (λ_ h=>znk h)
 ·intro r0
  refine zsa 0 ?_
  refine zsa 2 ?_
  refine zsa 4 ?_
  refine b7 (rs:=[1,3]) a8 Z (AllB.cons ?_ (AllB.cons ?_ AllB.nil))
  ·refine g9 [1,2] Z Z ?_
   refine U6 ?_
   refine b7 (rs:=[3]) a8 Z (AllB.cons ?_ AllB.nil)
   exact c33
  refine g9 [1,2] Z Z ?_
  refine U6 ?_
  refine b7 (rs:=[1,5]) a8 Z (AllB.cons ?_ (AllB.cons ?_ AllB.nil))
  ·exact c33
  refine g9 [1,2] Z Z (b5 Z Z (f7 Z (ArgsOK.of Z) (a0C _ _ a1O a1O i6) Z) (b6 ⟨Z,?_⟩))
  refine b7 (rs:=[1]) a8 Z (AllB.cons ?_ AllB.nil)
  refine g9 [1,2] Z Z ?_
  refine U6 ?_
  exact c3G
 refine zgo ?_
 refine f6 (r5 Z Z Z Z (b4 (a06 Z ?_) (b4 (l4 ?_) f8)))
 all_goals (first | (rw [hO.1];done) | (rw [hO.1];rfl) | (rw [hO.2];done) | (rw [hO.2];rfl))
theorem Z3 (x:Lg) (r:Rec) (hx:x.d.size+x.p.size<=1048576) (hr:r.c.size<=9223372036854775807/\r.r.size<=9223372036854775807):Ctr Tryz.prog 36 [.v (a9m x),.v (b3d r)] (.many [.v (a9m (apE x r)),.v (.int .i64 (apN x r))]):=by
 refine Ctr.of (n:=34) G Tryz.func36 Z a8 Z Z Z (λw0=>?_)
 refine a2r ?_
 refine a7k ?_
 refine zcl (a05 _ a1O) ?_
 refine zcd (λh1=>?_) (λh1=>?_)
 ·have hO:=c01 (x:=x) (r:=r) (c17 h1)
  refine zwt ?_
  exact b1L
 refine zcl (I1 _ i6) ?_
 refine zcd (λh2=>?_) (λh2=>?_)
 ·have hO:=c01 (x:=x) (r:=r) (c18 h2)
  exact b1L
 refine zcd (λh3=>?_) (λh3=>?_)
 ·have hO:=c64 (x:=x) (r:=r) h1 h2 h3
  exact b1L
 have hz:=a8V (x:=x) i6
 have hls:=a7i (k:=x.n) (x:=r) J J i6
 have hO:=c65 (x:=x) (r:=r) h1 h2 h3
 refine zgn ?_
 refine n9 (l3 15 [0,1] mixed a8 Z Z (λr0=>?_) (λ_ h=>h))
 refine a0A ?_
 refine b0z ?_
 refine zsa 9 ?_
 refine zsa 10 ?_
 first | refine d5 11 Z a8 a8 Z Z Z Z (v7 Z Z Z Z J J) ?_ | refine d5 11 Z a8 a8 Z Z Z Z (A2 Z Z Z Z) ?_
 refine b7 (rs:=[7]) a8 Z (AllB.cons ?_ AllB.nil)
 refine g9 [0,1] Z Z (b5 Z Z (f7 Z (ArgsOK.of Z) (Z4 _ _ a1O a1O i6) Z) (b6 ⟨Z,?_⟩))
 refine d5 8 Z a8 a8 Z Z Z Z (G5 Z Z Z b50) ?_
 refine zsa 12 ?_
 refine b7 (rs:=[13]) a8 Z (AllB.cons ?_ AllB.nil)
 refine g9 [0,1] Z Z ?_
 refine U6 ?_
 refine zsa 14 ?_
 refine J1 ?_
 exact c71
theorem a2L (m:Mach) (x:Lg) (s:ByteArray) (hs:SmallM m) (hx:x.d.size+x.p.size<=1048576) (hz:s.size<=1048576):Ctr Tryz.prog 9 [.agg [.lst 2 (m.rs.map m4),.lst 1 (m.en.map j4),.lst 1 (m.ra.map j4),.nst none 4 (m.cp.map (l8 169 182)),.v (.string x.d),.v (.string x.p),.v (.int .i64 x.n)],.v (.string s)] (.shp false [some 7,none] [.fr 83 2 ((exC m x s).1.rs.map m4),.fr 4 1 ((exC m x s).1.en.map j4),.fr 4 1 ((exC m x s).1.ra.map j4),.ne 135 4 ((exC m x s).1.cp.map (F4 169 182)),.v (.string (exC m x s).2.1.d),.v (.string (exC m x s).2.1.p),.v (.int .i64 (exC m x s).2.1.n),.v (.string (exC m x s).2.2)]):=by
 refine Ctr.of (n:=53) G Tryz.func9 Z Y Z Z Z (λw0=>?_)
 refine j5 0 Z (λ_=>Z) (λu0=>?_)
 refine zgo ?_
 refine a7 Z (A3 1 Z Z Z Z Z Z Z (a7 Z (d6 G 2 Z Z Z Z Z ?_)))
 refine zcl (a2K m x hs hx) ?_
 refine zcd (λh1=>?_) (λh1=>?_)
 ·have hO:=c2e (s:=s) h1
  exact b9V
 obtain ⟨hM,hLg⟩:=b8U h1
 refine zgo ?_
 refine a7 Z (b5 Z Z (f7 Z (ArgsOK.of Z) (I1 ⟨s,⟨#[]⟩⟩ ⟨by show s.size<=_;omega,H6 (by decide)⟩) Z) ?_)
 refine zcd (λh2=>?_) (λh2=>?_)
 ·have hO:=c2f h1 h2
  exact b9V
 refine zcd (λh3=>?_) (λh3=>?_)
 ·have hO:=c2g h1 h2 h3
  exact b9V
 refine zgo ?_
 refine a7 Z (c8 6 Z Z Z (ArgsOK.of Z) (Ctr.shpTo (a01 m x hs hx) (.cons .s (.cons .s (.cons .s (.cons (.n flM) (.cons .s (.cons .s (.cons .s .nil)))))))) Z Z (a7 Z (d6 G 7 Z Z Z Z Z ?_)))
 refine zgo ?_
 refine a7 Z (a0Z (n:=88) G Z Z Z Tryz.func35 Z Y Z Z Z Z ?_)
 intro b hen hpin
 have hwn:1<=(g8 s 32).length/\(g8 s 32).length<=s.size+1:=N1
 have hml:((g8 s 32).map a60).length=(g8 s 32).length:=List.length_map _
 refine zgo ?_
 refine a7 Z (c8 8 Z Z Z (ArgsOK.of Z) (b7i s hz) Z Z ?_)
 refine zgo ?_
 refine a7 Z ?_
 first | refine b5 Z Z (b9 G Z Z Z Z Z J (by rw [List.length_map];omega)) ?_ | refine b5 Z Z (b9 G Z Z Z Z Z J J) ?_
 refine a7 Z ?_
 first | refine b5 Z Z (j2 G Z Z Z Z Z (c1b J) Z) ?_ | refine b5 Z Z (j2 G Z Z Z Z Z (x9 J J) Z) ?_
 refine zcl (a5c (wrd s 0)) ?_
 refine zcd (λh101=>?_) (λh101=>?_)
 ·refine zgo ?_
  refine f6 ⟨.inr Z,_,Z,Z,?_⟩
  have hO:=H7 h1 h2 h3 (a44 (b9c h101))
  refine zwt ?_
  exact b1K
 refine zgo ?_
 refine a7 Z (t7 G 9 Z Z Z Z Z Z Z Z ?_)
 refine zgo ?_
 refine a7 Z (b5 Z Z (a6Q G Z Z Z Z Z Z J (by first | omega | (simp;done) | (simp;omega)) (by first | omega | (simp;done) | (simp;omega))) ?_)
 refine zgo ?_
 refine e6 [0,6,29,30] [0,1,2,3,4,5,6,7] (λ(i:Nat)=>[(7,.own 8),(31,.v (.int .i64 (i:Int)))]) (λ(i:Nat)=>[(8,some (.row 3 1 ((y9 s i).map Rf.n7)))]) (λ(i:Nat)=>i<=(g8 s 32).length - 1/\∀j,j < i→nmK (wrd s (j+1))=true) (λ(i:Nat)=>(g8 s 32).length - 1 - i) 0 Z Z ?_ ?_ ?_ ?_
 ·exact E5
 ·exact R5
 ·exact a0J
 intro i hinv
 have hnl:=@a3r s i
 simp only [List.cons_append,List.nil_append]
 refine zcd (λh102=>?_) (λh102=>?_)
 ·refine zgo ?_
  refine a7 Z (b5 Z Z (b20 G Z Z Z Z Z J J) (a7 Z ?_))
  first | refine b5 Z Z (j2 G Z Z Z Z Z (c1b J) Z) ?_ | refine b5 Z Z (j2 G Z Z Z Z Z (x9 J J) Z) ?_
  refine zcl (a8w (wrd s (i+1)) (by have:=@b89 s (i+1);omega)) ?_
  refine zcd (λh103=>?_) (λh103=>?_)
  ·refine zgo ?_
   refine f6 ⟨.inr Z,_,Z,Z,?_⟩
   have hO:=H7 h1 h2 h3 (a44 (b9d (b9a h103 (by show i < (g8 s 32).length - 1;omega))))
   refine zwt ?_
   exact b1K
  refine zgo ?_
  refine a7 Z (t7 G 10 Z Z Z Z Z Z Z Z (a7 Z (j3 G (by rw [hpin];decide) Z Z Z Z Z Z Z Z Z (by first | (simp only [List.length_map,List.length_cons,List.length_nil];omega) | (simp;omega)) Z Z ?_)))
  exact c28
 obtain rfl:i=(g8 s 32).length - 1:=J
 have hNK:B4 s=true:=b9b hinv.2 (Nat.le_refl _)
 have hal:a1e (l5 (wrd s 0))=(x4 s).length:=(by rw [b63];show _=(((g8 s 32).length - 1:Nat):Int);omega)
 refine zgo ?_
 refine a7 Z ?_
 first | refine b5 Z Z (b9 G Z Z Z Z Z J (by rw [List.length_map];omega)) ?_ | refine b5 Z Z (b9 G Z Z Z Z Z J J) ?_
 refine a7 Z ?_
 first | refine b5 Z Z (j2 G Z Z Z Z Z (c1b J) Z) ?_ | refine b5 Z Z (j2 G Z Z Z Z Z (x9 J J) Z) ?_
 refine zcl (b0N (wrd s 0) (x4 s) hal) ?_
 refine zgo ?_
 refine a7 Z (d6 G 10 Z Z Z Z Z ?_)
 refine zcd (λh104=>?_) (λh104=>?_)
 ·have cA:=b2S m (wrd s 0) (x4 s) hs hM hal h104
  have hC:=b9e (m:=m) h101 hNK h104
  generalize a41 m (l5 (wrd s 0)) (x4 s)=ra at cA hC
  obtain ⟨r,ok⟩:=ra
  dsimp only at cA
  refine zgd ?_
  refine zgo ?_
  refine j6 Z (s1 Z Z (N8 Z Z) ?_)
  refine zgo ?_
  refine j6 Z ?_
  first | refine s1 Z Z (b9 G Z Z Z Z Z J (by rw [List.length_map];omega)) ?_ | refine s1 Z Z (b9 G Z Z Z Z Z J J) ?_
  refine j6 Z ?_
  first | refine s1 Z Z (j2 G Z Z Z Z Z (c1b J) Z) ?_ | refine s1 Z Z (j2 G Z Z Z Z Z (x9 J J) Z) ?_
  refine zcl (Ctr.argsTo cA (λw vs h=>c7a flM vs h)) ?_
  refine zgo ?_
  refine f6 ⟨.inr Z,_,Z,Z,?_⟩
  refine zcd (λh105=>?_) (λh105=>?_)
  ·have hO:=H7 h1 h2 h3 (a44 (hC.trans (by rw [h105])))
   exact b1K
  have hO:=H7 h1 h2 h3 (b2E (hC.trans (by rw [h105])))
  exact b1K
 have hD:=b9f (m:=m) h101 hNK h104
 have hir:=@a3s m (X3 (l5 (wrd s 0)) (x4 s)).1
 have cS:=a5j m (X3 (l5 (wrd s 0)) (x4 s)).1.k (X3 (l5 (wrd s 0)) (x4 s)).1.q (X3 (l5 (wrd s 0)) (x4 s)).1.c (X3 (l5 (wrd s 0)) (x4 s)).1.v hs
 have est:(⟨(X3 (l5 (wrd s 0)) (x4 s)).1.k,(X3 (l5 (wrd s 0)) (x4 s)).1.q,(X3 (l5 (wrd s 0)) (x4 s)).1.c,(X3 (l5 (wrd s 0)) (x4 s)).1.v⟩:MStep)=(X3 (l5 (wrd s 0)) (x4 s)).1:=rfl
 rw [est] at cS
 unfold b30 at hD
 generalize smT m (X3 (l5 (wrd s 0)) (x4 s)).1=sr at cS hD hir
 obtain ⟨m1,ir,ok⟩:=sr
 dsimp only at cS hD hir
 refine zgn ?_
 refine n9 (l3 14 [0,1,2,3,4,5,6,7,8,9] mixed Y Z Z (λr0=>?_) (λ_ h=>h))
 refine zsa 0 ?_
 refine zsa 4 ?_
 refine x5 (N:=11) Z (r7 (fuel:=11) [⟨10,14,10,true,.box (avR [.slice none 0 0,.slice none 0 0,.slice none 0 0,.slice none 0 0] [])⟩] (AllVOK.cons (VOK.boxS G Z Z Z Z Z) (AllVOK.nil)) (λhok=>?_))
 refine m6 [(1,[])] Y Y (λe he=>hok e he) Y (AllVS.cons ?_ AllVS.nil)
 refine VStep.mk0 [0,1,2,3,4,5,6,7,8,9] Z Z (λb1 _ hbn=>b5 Z Z (N8 Z Z) (b6 Z)) Y Y Y Y (s7 2 Z Y Z Z Z Z (m9 G Z Z Z Z) Y Y Y (s7 3 Z Y Z Z Z Z (d9 G Z Z Z Z Z Z) Y Y Y (m6 [(5,[])] Y Y (λe he=>hok e he) Y (AllVS.cons ?_ AllVS.nil))))
 refine VStep.mk0 [0,1,2,3,4,5,6,7,8,9] Z Z (λb1 _ hbn=>c8 15 Z Z Z (ArgsOK.of Z) (Ctr.argsTo cS (λw vs h=>c7a flM vs h)) Z Z (b6 Z)) Y Y Y Y (s7 6 Z Y Z Z Z Z (c7 Z Z) Y Y Y (s7 7 Z Y Z Z Z Z (j7 Z Z Z) Y Y Y (s7 8 Z Y Z Z Z Z (j7 Z Z Z) Y Y Y (s7 9 Z Y Z Z Z Z (j7 Z Z Z) Y Y Y (m6 [(11,[10])] Y Y (λe he=>hok e he) Y (AllVS.cons ?_ AllVS.nil))))))
 refine VStep.mk1 [0,1,2,3,4,5,6,7,8,9] 14 (.ptr 10 0) 10 (.box (avR [.slice none 0 0,.slice none 0 0,.slice none 0 0,.slice none 0 0] [])) [] Z Z Z Z Z (λb1 _ hbn=>m3 G Z Z Z Z Z Z Z Z Z Z Z (b6 Z)) Y Y Y Y (D1 ?_)
 clear hok
 refine zsa 12 ?_
 refine zsa 13 ?_
 refine C3 Y ?_
 refine znk ?_
 refine zcd (λh105=>?_) (λh105=>?_)
 ·refine zgo ?_
  refine f6 ⟨.inr Z,_,Z,Z,?_⟩
  have hO:=H7 h1 h2 h3 (a44 (hD.trans (by rw [h105];rfl)))
  refine zwt ?_
  exact b1K
 refine zgo ?_
 refine a7 Z (b5 Z Z (N8 Z Z) ?_)
 refine zcd (λh106=>?_) (λh106=>?_)
 ·refine zcl (x8 ir J J) ?_
  refine zgo ?_
  refine f6 ⟨.inr Z,_,Z,Z,?_⟩
  have hO:=H7 h1 h2 h3 (b2E (hD.trans (by rw [h105,if_pos Z,if_neg h106])))
  refine zwf ?_
  exact b1K
 refine zgo ?_
 refine f6 ⟨.inr Z,_,Z,Z,?_⟩
 have hO:=H7 h1 h2 h3 (b2E (hD.trans (by rw [h105,if_pos Z,if_pos h106])))
 refine zwf ?_
 refine zgo ?_
 refine a7 Z (b5 Z Z (o8 G Z Z Z) ?_)
 refine zcd (λh110=>?_) (λh110=>?_)
 ·try rw [b2F J] at hO
  exact b9T
 try rw [a1f J] at hO
 have hrs:=h110
 refine zgo ?_
 refine a7 Z (b5 Z Z (f7 Z (ArgsOK.of Z) (Z3 x ⟨s,_⟩ hx ⟨by show s.size<=_;omega,by first | exact H6 (by decide) | exact F5 J | exact F5 (Int.ofNat_le.1 hrs)⟩) Z) ?_)
 refine zgo ?_
 refine f6 (m8 Z Z Z Z (b4 (d7 Z ?_) (b4 (d7 Z ?_) (b4 (d7 Z ?_) (b4 (C7 Z ?_) (b4 (l4 ?_) (b4 (l4 ?_) (b4 (l4 ?_) (b4 (l4 ?_) f8)))))))))
 all_goals (first | (rw [hO];done) | (rw [hO];rfl))
theorem b0m (m:Mach) (w:ByteArray) (c:Int) (hs:SmallM m) (hM:a0w m=true):Ctr Tryz.prog 99 [.agg [.lst 2 (m.rs.map m4),.lst 1 (m.en.map j4),.lst 1 (m.ra.map j4),.nst none 4 (m.cp.map (l8 169 182))],.v (.string w),.v (.int .i64 c)] (.one (.v (.string (a3t m (l5 w) c)))):=by
 have hG:=(maF hM).g
 have hcp:=hs.cp
 refine Ctr.of (n:=57) G Tryz.func99 Z a8 Z Z Z (λw0=>?_)
 refine j5 0 Z (λ_=>Z) (λu0=>?_)
 refine vm3 ?_
 refine b2L ?_
 refine zcd (λh1=>?_) (λh1=>?_)
 ·have hO:=c5s (k:=l5 w) h1
  exact b44
 have hin:=s2.mp h1
 have hcl:(c).toNat < m.cp.length:=J
 have hI:=(hG.ok _ hcl).f
 have hsn:=hI.sn
 have hpl:=a1L hI.qu
 have hnx:=@a9B m.rs (S4 m) (c).toNat
 have cN:=b0c m.rs (S4 m) (c).toNat (b8V hG) (by rw [b5Y];exact hcl)
 rw [Int.toNat_of_nonneg J] at cN
 refine J7 ?_
 refine zcd (λh2=>?_) (λh2=>?_)
 ·have hO:=c5t h1 (b1B.mp h2)
  refine p8 ?_
  refine b41 ?_
  refine p8 ?_
  refine c8 2 Z Z Z (ArgsOK.of Z) (U8 (m.cp.getD (c).toNat default).qu hI.qu) Z Z ?_
  refine zcl (a0G (A5 (m.cp.getD (c).toNat default).qu) J (b86 hI.qu)) ?_
  exact b44
 have k2:=mt b1B.mpr h2
 refine J7 ?_
 refine zcd (λh3=>?_) (λh3=>?_)
 ·have hO:=c5u h1 (b1C.mp h3)
  refine zgo ?_
  refine b33 ?_
  refine zcl (a0G (m.cp.getD (c).toNat default).st J (b87 hI)) ?_
  exact b44
 have k3:=mt b1C.mpr h3
 refine J7 ?_
 refine zcd (λh4=>?_) (λh4=>?_)
 ·have k4:=b2B.mp h4
  refine n9 (n9 (l3 7 [0] mixed a8 Z Z (λr0=>?_) (λ_ h=>h)))
  refine zsa 0 ?_
  refine zsa 1 ?_
  refine zsa 2 ?_
  refine zsa 4 ?_
  refine b7 (rs:=[3]) a8 Z (AllB.cons ?_ AllB.nil)
  refine g9 [0] Z Z (c8 6 Z Z Z (ArgsOK.of Z) (b0d m hG hs) Z Z (b6 ⟨Z,?_⟩))
  refine b7 (rs:=[5]) a8 Z (AllB.cons ?_ AllB.nil)
  refine g9 [0] Z Z (b5 Z Z (f7 Z (ArgsOK.of Z) cN Z) (b6 ⟨Z,?_⟩))
  refine zsa 6 ?_
  refine J1 ?_
  refine zcd (λh5=>?_) (λh5=>?_)
  ·have hO:=b9i h1 k4 J
   refine zcl (w5 (A9 m.rs (S4 m) (c).toNat) J J) ?_
   exact b44
  have hO:=b9h h1 k4 J
  exact b44
 have k4:=mt b2B.mpr h4
 refine J7 ?_
 refine zcd (λh6=>?_) (λh6=>?_)
 ·have hO:=c1c h1 (a7d.mp h6)
  refine p8 ?_
  refine b41 ?_
  refine b33 ?_
  refine zcl (b0O (m.cp.getD (c).toNat default).qu.sl hI.qu.sl) ?_
  exact b44
 have hO:=b9j (m:=m) (c:=c) k2 k3 (mt a7d.mpr h6) k4
 exact b44
end Go.Proofs.YtpfhomblkgmkkaaGreatDoor
