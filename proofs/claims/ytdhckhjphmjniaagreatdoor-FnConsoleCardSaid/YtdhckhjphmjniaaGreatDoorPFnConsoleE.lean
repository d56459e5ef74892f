/- Texts merged into one: M24, M26, D3, D4, D5. -/
import Derived.Test.YtdhckhjphmjniaaGreatDoorPFnConsoleD
set_option maxHeartbeats 4000000
set_option linter.unusedSimpArgs false
set_option linter.unusedVariables false
set_option maxRecDepth 20000
namespace Go.Proofs.YtdhckhjphmjniaaGreatDoor
open Go Go.Rf
theorem b0R (m:Mach) (hM:MaG m):Ctr Tryz.prog 149 [.agg [.lst 2 (m.rs.map p8),.lst 1 (m.en.map n7),.lst 1 (m.ra.map n7),.nst none 4 (m.cp.map (r4 104 76))]] (.shp true [some 4] [.fr 132 2 ((b0B m).rs.map p8),.fr 4 1 ((b0B m).en.map n7),.fr 4 1 ((b0B m).ra.map n7),.ne 74 4 ((b0B m).cp.map (r4 104 76))]):=by
 have f1:=hM.n
 have f2:=hM.en
 have f3:=hM.ra
 have f4:=hM.rn
 refine Ctr.of (n:=63) G Tryz.func149 Z a8 Z Z Z (λw0=>?_)
 refine m7 0 Z (λ_=>Z) (λu0=>?_)
 refine vm1 ?_
 refine vm9 ?_
 refine vm3 ?_
 refine d3 6 Z Z Z (ArgsOK.of Z) (a2v m hM) Z Z ?_
 refine p6 ?_
 refine d6 G 7 Z Z Z Z Z ?_
 refine zgo ?_
 refine g9 [1,2,3] [0,1,2,3,6] (λ(i:Nat)=>[(4,.v (.int .i64 (i:Int)))]) (λ(i:Nat)=>[(4,some (.row 4 1 ((a6j m i).map n7))),(5,some (.nest 74 4 ((P6 m i).map (r4 104 76)) []))]) (λ(i:Nat)=>i<=8) (λ(i:Nat)=>8 - i) 0 Z Z ?_ ?_ ?_ ?_
 ·exact R3
 ·exact a88
 ·exact b5X
 intro i hi
 have hrl:=@a4I m i
 have hcl:=@H7 m i
 have htg:=λh=>hM.tg (i:=i) h
 refine vm2 ?_
 refine zcd (λh1=>?_) (λh1=>?_)
 ·obtain ⟨hta,htb,htc⟩:=htg J
  obtain ⟨hst,hIG⟩:=a7v hM (i:=i) (k:=tgM m i) J htb
  have htd:tgM m i < m.cp.length:=htb
  refine zcd (λh2=>?_) (λh2=>?_)
  ·refine zcd (λh3=>?_) (λh3=>?_)
   ·refine zgo ?_
    refine W8 ?_
    refine b3q ?_
    refine W8 ?_
    refine b74 ?_
    refine zcl (a3Q (m.cp.getD (tgM m i) default).st _ (by have:=(hM.ok _ htd).f.sn;omega)) ?_
    refine zcd (λh4=>?_) (λh4=>?_)
    ·have hcn:=b9J (m:=m) (i:=i) h2 h3 h4
     refine c81 ?_
     refine N4 (Gh.open (id:=5) (i:=(tgM m i)) (k:=1) 8 Z Z (c6l J) Z Z) (N4 (Gh.open (id:=5) (i:=(tgM m i)) (k:=2) 9 Z Z (a3B K0 Z) Z Z) (N4 (Gh.open (id:=5) (i:=(tgM m i)) (k:=3) 10 Z Z (a3B K0 Z) Z Z) (l1 18 [0,1,2,3,4,6,7,8,9] mixed a8 Z Z (λr0=>?_) (λ_ h=>h))))
     refine a06 ?_
     refine zsa 4 ?_
     refine zsa 5 ?_
     refine zsa 8 ?_
     refine zsa 9 ?_
     refine zsa 10 ?_
     refine zsa 11 ?_
     refine zsa 12 ?_
     refine zsa 13 ?_
     refine zsa 14 ?_
     refine b6 (rs:=[6]) a8 Z (AllB.cons ?_ AllB.nil)
     first | refine f7 [0,1,2,3,4,6,7,8,9] Z Z (b5 Z Z (u7 G Z Z Z Z Z J Y0) (b4 ⟨Z,?_⟩)) | refine f7 [0,1,2,3,4,6,7,8,9] Z Z (b5 Z Z (u7 G Z Z Z Z Z J K0) (b4 ⟨Z,?_⟩))
     refine b6 (rs:=[7]) a8 Z (AllB.cons ?_ AllB.nil)
     refine f8 [0,1,2,3,4,6,7,8,9] Z Z (b5 Z Z (T8 G Z Z Z Z (a3B K0 Z) Z (.v (.own a7I (.own a7I (.own a7I .nil))))) (b4 ⟨Z,?_⟩))
     refine b6 (rs:=[15]) a8 Z (AllB.cons ?_ AllB.nil)
     refine f8 [0,1,2,3,4,6,7,8,9] Z Z (d3 13 Z Z Z (ArgsOK.of Z) (T6 ((P6 m i).getD (tgM m i) default) _ _ hIG.f J htc) Z Z (b4 ⟨Z,?_⟩))
     refine a3T (Gh.detach (id:=5) Z) (a3T (Gh.detach (id:=5) Z) (a3T (Gh.detach (id:=5) Z) (b6 (rs:=[16]) a8 Z (AllB.cons ?_ AllB.nil))))
     first | refine f7 [0,1,2,3,4,6,7,8,9] Z Z (b5 Z Z (u7 G Z Z Z Z Z J Y0) (b4 ⟨Z,?_⟩)) | refine f7 [0,1,2,3,4,6,7,8,9] Z Z (b5 Z Z (u7 G Z Z Z Z Z J K0) (b4 ⟨Z,?_⟩))
     refine b6 (rs:=[17]) a8 Z (AllB.cons ?_ AllB.nil)
     refine f8 [0,1,2,3,4,6,7,8,9] Z Z (r7 G Z Z Z Z Z (a3B K0 Z) Z Z (.v Z (.own Z (.own Z (.own Z .nil)))) Z Z Z (Nat.le_of_ble_eq_true Z) (λq h=>by cases h) Z (b4 ⟨Z,?_⟩))
     refine G9 ?_
     exact c2z
    have hcn:=b9M (m:=m) (i:=i) h4
    exact c2z
   have hcn:=b9L (m:=m) (i:=i) h3
   refine zwf ?_
   exact c2z
  have hcn:=b9K (m:=m) (i:=i) h2
  refine zwf ?_
  exact c2z
 obtain rfl:i=8:=J
 refine zgo ?_
 refine d8 (p4 Z Z Z Z (b3 (c7 Z ?_) (b3 (c7 Z ?_) (b3 (c7 Z ?_) (b3 (A1 Z ?_) d9)))))
 all_goals (rfl)
theorem a9n (z:Value) (sl:List Slot) (lim:Int) (hF:SlF sl) (hk:a0h sl lim=false):Ctr Tryz.prog 253 [.pin z 3 (sl.map g8),.v (.int .i64 lim)] (.many [.v z,.v (.int .i64 (-1))]):=by
 have hl4:=hF.len
 have hb:=@a04 sl true
 have hf:=@a1r sl
 have hkk:=a5r.mp hk
 refine Ctr.of (n:=33) G Tryz.func253 Z a8 Z Z Z (λw0=>?_)
 refine zcl (a0O sl J) ?_
 refine zcd (λh1=>?_) (λh1=>?_)
 ·refine zwt ?_
  exact c4v
 refine zgo ?_
 refine W8 ?_
 first | refine b5 Z Z (a1U G Z Z Z Z J (a2D J)) ?_ | refine b5 Z Z (a1U G Z Z Z Z J (F9 J J)) ?_ | refine b5 Z Z (a1U G Z Z Z Z J (B6 J J)) ?_
 refine zcd (λh2=>?_) (λh2=>?_)
 ·exact c4v
 exfalso;omega
theorem a3b (q:Que) (lim:Int) (hF:QF q) (hk:a0h q.sl lim=false):Ctr Tryz.prog 198 [.agg [.lst 3 (q.sl.map g8),.lst 2 (q.wa.map j6)],.v (.int .i64 lim)] (.shp false [some 2,none] [.fr 104 3 (q.sl.map g8),.fr 76 2 (q.wa.map j6),.v (.int .i64 (-1))]):=by
 have hl4:=hF.sl.len
 have hwn:=hF.wn
 refine Ctr.of (n:=24) G Tryz.func198 Z a8 Z Z Z (λw0=>?_)
 refine m7 0 Z (λ_=>Z) (λu0=>?_)
 refine vm1 ?_
 refine vm9 ?_
 refine zgo ?_
 refine c13 (t:=10) Z (λz10=>?_)
 refine p6 ?_
 refine b5 Z Z (i7 Z (ArgsOK.pin1 Z (ArgsOK.of Z)) (a9n _ q.sl lim hF.sl hk) Z) ?_
 refine zgn ?_
 refine s5 (N4 (Gh.asPin (d:=6) (t:=10) Z Z) (l1 11 [0] mixed a8 Z Z (λr0=>?_) (λ_ h=>h)))
 refine zsa 1 ?_
 refine zsa 4 ?_
 refine zsa 5 ?_
 refine zsa 8 ?_
 refine A4 (N:=4) Z (s7 (fuel:=5) [⟨0,15,2,false,.row 104 3 []⟩,⟨3,18,3,false,.row 76 2 []⟩] (AllVOK.cons (VOK.lit G Z Z Z Z Z) (AllVOK.cons (VOK.lit G Z Z Z Z Z) (AllVOK.nil))) (λhok=>?_))
 refine n6 [(2,[0])] a8 a8 (λe he=>hok e he) a8 (AllVS.cons ?_ AllVS.nil)
 refine VStep.mk1 [0] 15 (.own 2) 2 (.row 104 3 []) [⟨3,18,3,false,.row 76 2 []⟩] Z Z Z Z Z (λb1 _ hbn=>j8 G S8 Z Z Z Z Z Z Z Z Z m8 Z Z (b4 Z)) a8 a8 a8 a8 (n6 [(6,[3])] a8 a8 (λe he=>hok e (vin (is:=[0]) Z he)) a8 (AllVS.cons ?_ AllVS.nil))
 refine VStep.mk1 [0] 18 (.own 3) 3 (.row 76 2 []) [] Z Z Z Z Z (λb1 _ hbn=>j8 G S8 Z Z Z Z Z Z Z Z Z m8 Z Z (b4 Z)) a8 a8 a8 a8 (G7 ?_)
 clear hok
 refine b6 (rs:=[7]) a8 Z (AllB.cons ?_ AllB.nil)
 refine b3r ?_
 refine b6 (rs:=[9]) a8 Z (AllB.cons ?_ AllB.nil)
 refine b3r ?_
 refine zsa 10 ?_
 refine G9 ?_
 refine d8 (p4 Z Z Z Z (b3 (c7 Z ?_) (b3 (c7 Z ?_) (b3 (j4 ?_) d9))))
 all_goals (first | rfl | simp)
theorem a2e (x:Ifc) (hF:IfF x) (hk:okT x=false):Ctr Tryz.prog 150 [.agg [.v (.int .i64 x.ma),.lst 1 (x.st.map Rf.r5),.lst 3 (x.qu.sl.map g8),.lst 2 (x.qu.wa.map j6)]] (.shp false [some 4,none] [.v (.int .i64 x.ma),.fr 3 1 (x.st.map Rf.r5),.fr 104 3 (x.qu.sl.map g8),.fr 76 2 (x.qu.wa.map j6),.v (.int .i64 (-1))]):=by
 have hl4:=hF.qu.sl.len
 have hwn:=hF.qu.wn
 have hsn:=hF.sn
 refine Ctr.of (n:=35) G Tryz.func150 Z a8 Z Z Z (λw0=>?_)
 refine m7 0 Z (λ_=>Z) (λu0=>?_)
 refine vm1 ?_
 refine vm9 ?_
 refine zgn ?_
 refine s5 (l1 14 [0,1] mixed a8 Z Z (λr0=>?_) (λ_ h=>h))
 refine a06 ?_
 refine zsa 4 ?_
 refine A4 (N:=3) Z (s7 (fuel:=8) [⟨11,4,2,true,.box (avR [.slice none 0 0,.slice none 0 0] [])⟩] (AllVOK.cons (VOK.boxS G Z Z Z Z Z) (AllVOK.nil)) (λhok=>?_))
 refine n6 [(5,[])] a8 a8 (λe he=>hok e he) a8 (AllVS.cons ?_ AllVS.nil)
 refine VStep.mk0 [0,1] Z Z (λb1 _ hbn=>b5 Z Z (i7 Z (ArgsOK.of Z) (a2d x hF) Z) (b4 Z)) a8 a8 a8 a8 (n6 [(6,[])] a8 a8 (λe he=>hok e he) a8 (AllVS.cons ?_ AllVS.nil))
 refine VStep.mk0 [0,1] Z Z (λb1 _ hbn=>b5 Z Z (i7 Z (ArgsOK.of Z) (a4W _ _) Z) (b4 Z)) a8 a8 a8 a8 (n6 [(7,[])] a8 a8 (λe he=>hok e he) a8 (AllVS.cons ?_ AllVS.nil))
 refine VStep.mk0 [0,1] Z Z (λb1 _ hbn=>d3 5 Z Z Z (ArgsOK.of Z) (a3b x.qu (b7O x) hF.qu hk) Z Z (b4 Z)) a8 a8 a8 a8 (v8 8 Z a8 Z Z Z Z (b8 Z Z) a8 a8 a8 (v8 9 Z a8 Z Z Z Z (f9 Z Z Z) a8 a8 a8 (v8 10 Z a8 Z Z Z Z (f9 Z Z Z) a8 a8 a8 (n6 [(12,[11])] a8 a8 (λe he=>hok e he) a8 (AllVS.cons ?_ AllVS.nil)))))
 refine c8Z ?_
 clear hok
 refine zsa 13 ?_
 refine G9 ?_
 refine s5 (l1 9 [0,1,2,3,4] mixed a8 Z Z (λr0=>?_) (λ_ h=>h))
 refine a06 ?_
 refine zsa 5 ?_
 refine A4 (N:=6) Z (s7 (fuel:=3) [⟨7,6,5,true,.box (avR [.int .i64 0,.slice none 0 0,.slice none 0 0,.slice none 0 0] [])⟩] (AllVOK.cons (VOK.boxS G Z Z Z Z Z) (AllVOK.nil)) (λhok=>?_))
 refine n6 [(4,[])] a8 a8 (λe he=>hok e he) a8 (AllVS.cons ?_ AllVS.nil)
 refine VStep.mk0 [0,1,2,3,4] Z Z (λb1 _ hbn=>d3 7 Z Z Z (ArgsOK.of Z) (H8 x.st J) Z Z (b4 Z)) a8 a8 a8 a8 (n6 [(6,[])] a8 a8 (λe he=>hok e he) a8 (AllVS.cons ?_ AllVS.nil))
 refine VStep.mk0 [0,1,2,3,4] Z Z (λb1 _ hbn=>b5 Z Z (w3 G Z Z Z Z) (b4 Z)) a8 a8 a8 a8 (n6 [(8,[7])] a8 a8 (λe he=>hok e he) a8 (AllVS.cons ?_ AllVS.nil))
 refine c8W ?_
 clear hok
 refine G9 ?_
 refine zcd (λh1=>?_) (λh1=>?_)
 ·exfalso;omega
 refine zgo ?_
 refine d8 (p4 Z Z Z Z (b3 (j4 ?_) (b3 (c7 Z ?_) (b3 (c7 Z ?_) (b3 (c7 Z ?_) (b3 (j4 ?_) d9))))))
 all_goals (rfl)
theorem a6u (x:Ifc) (hn:x.st.length=0):CtrE (α:=Nat→Option Addr×Nat×Nat) Tryz.prog 151 [.agg [.v (.int .i64 x.ma),.lst 1 (x.st.map Rf.r5),.lst 3 (x.qu.sl.map g8),.lst 2 (x.qu.wa.map j6)]] (λy=>(.shp false [some 4,none] [.v (.int .i64 x.ma),.v (.slice (y 1).1 (y 1).2.1 (y 1).2.2),.v (.slice (y 2).1 (y 2).2.1 (y 2).2.2),.v (.slice (y 3).1 (y 3).2.1 (y 3).2.2),.v (.int .i64 (-1))])):=by
 refine CtrE.of (n:=41) G Tryz.func151 Z a8 Z Z Z (λw0=>?_)
 refine c6j 0 Z (λ_=>Z) (λu0=>?_)
 refine vm1 ?_
 refine vm9 ?_
 refine zcd (λh1=>?_) (λh1=>?_)
 ·refine zgo ?_
  refine d8 (c5y (u0) (p4 Z Z Z Z (b3 (j4 ?_) (b3 (b2G ?_) (b3 (b2G ?_) (b3 (b2G ?_) (b3 (j4 ?_) d9)))))))
  all_goals (rfl)
 exfalso;omega
theorem a4Y (m:Mach) (sk sq sc sv:Int) (hM:MaG m) (hv:R4 m.cp.length ⟨sk,sq,sc,sv⟩=true) (ho:¬ b1a m ⟨sk,sq,sc,sv⟩):Ctr Tryz.prog 98 [.agg [.lst 2 (m.rs.map p8),.lst 1 (m.en.map n7),.lst 1 (m.ra.map n7),.nst none 4 (m.cp.map (r4 104 76))],.v (.agg ⟨[.int .i64 sk,.int .i64 sq,.int .i64 sc,.int .i64 sv]⟩)] (.shp false [some 4,none,none] [.fr 132 2 ((stM m ⟨sk,sq,sc,sv⟩).1.rs.map p8),.fr 4 1 ((stM m ⟨sk,sq,sc,sv⟩).1.en.map n7),.fr 4 1 ((stM m ⟨sk,sq,sc,sv⟩).1.ra.map n7),.ne 74 4 ((stM m ⟨sk,sq,sc,sv⟩).1.cp.map (r4 104 76)),.v (.int .i64 (stM m ⟨sk,sq,sc,sv⟩).2.1),.v (.bool (stM m ⟨sk,sq,sc,sv⟩).2.2)]):=by
 have f1:=hM.n
 have f2:=hM.en
 have f3:=hM.ra
 have f4:=hM.rn
 refine Ctr.of (n:=107) G Tryz.func98 Z a8 Z Z Z (λw0=>?_)
 refine m7 0 Z (λ_=>Z) (λu0=>?_)
 refine b5V ?_
 refine vm3 ?_
 refine d3 7 Z Z Z (ArgsOK.of Z) (a2v m hM) Z Z ?_
 refine p6 ?_
 refine b4M ?_
 refine zcd (λh1=>?_) (λh1=>?_)
 ·have hq:=b8N hv J
  obtain ⟨q,rfl⟩:∃q:Nat,sq=q:=⟨sq.toNat,by omega⟩
  have hS:=sm1 (m:=m) (sc:=sc) (sv:=sv) (q:=q) h1
  refine c2n ?_
  refine zgn ?_
  refine s5 (l1 11 [0,1,3,4,5,6,7] mixed a8 Z Z (λr0=>?_) (λ_ h=>h))
  refine a06 ?_
  refine a8t ?_
  refine zsa 7 ?_
  refine b6 (rs:=[8]) a8 Z (AllB.cons ?_ AllB.nil)
  refine f8 [0,1,3,4,5,6,7] Z Z ?_
  refine R9 ?_
  refine zsa 9 ?_
  refine zsa 10 ?_
  refine G9 ?_
  exact b7b
 refine zcd (λh2=>?_) (λh2=>?_)
 ·have hS:=sm2 (m:=m) (sq:=sq) (sc:=sc) (sv:=sv) h2
  refine vm3 ?_
  refine d3 12 Z Z Z (ArgsOK.of Z) (b0R m hM) Z Z ?_
  refine zgo ?_
  exact b7b
 refine zcd (λh3=>?_) (λh3=>?_)
 ·have hc:=b08 hv J
  obtain ⟨c,rfl⟩:∃c:Nat,sc=c:=⟨sc.toNat,by omega⟩
  obtain ⟨g1,g2,g3⟩:=hM.lens (k:=c) J
  have hIG:=hM.ok c J
  have hk:=c91 ho h3
  have hS:=sm3 (m:=m) (sq:=sq) (sv:=sv) (c:=c) h3 hk
  have hbd:=a9L hIG hk
  refine vm3 ?_
  refine d3 11 Z Z Z (ArgsOK.of Z) (a4X (m.cp.getD c default) hIG.f hk) Z Z ?_
  exact c43
 refine zcd (λh4=>?_) (λh4=>?_)
 ·have hc:=b08 hv J
  obtain ⟨c,rfl⟩:∃c:Nat,sc=c:=⟨sc.toNat,by omega⟩
  obtain ⟨g1,g2,g3⟩:=hM.lens (k:=c) J
  have hIG:=hM.ok c J
  have hk:=c92 ho h4
  have hS:=sm4 (m:=m) (sq:=sq) (sv:=sv) (c:=c) h4 hk
  have hbd:=b0F hIG hk
  refine vm3 ?_
  refine d3 11 Z Z Z (ArgsOK.of Z) (a9m (m.cp.getD c default) hIG hk) Z Z ?_
  exact c43
 refine zcd (λh5=>?_) (λh5=>?_)
 ·have hc:=b08 hv J
  obtain ⟨c,rfl⟩:∃c:Nat,sc=c:=⟨sc.toNat,by omega⟩
  obtain ⟨g1,g2,g3⟩:=hM.lens (k:=c) J
  have hIG:=hM.ok c J
  have hS:=sm5 (m:=m) (sq:=sq) (sv:=sv) (c:=c) h5
  refine s5 (N4 (Gh.open (id:=6) (i:=c) (k:=1) 9 Z Z (c6l J) Z Z) (N4 (Gh.open (id:=6) (i:=c) (k:=2) 10 Z Z (a3B K0 Z) Z Z) (N4 (Gh.open (id:=6) (i:=c) (k:=3) 11 Z Z (a3B K0 Z) Z Z) ?_)))
  refine vm8 ?_
  refine b5 Z Z (T8 G Z Z Z Z (a3B K0 Z) Z (.v (.own a7I (.own a7I (.own a7I .nil))))) ?_
  refine p6 ?_
  refine d6 G 12 Z Z Z Z Z ?_
  refine zgn ?_
  refine zgn ?_
  refine s5 (N4 (Gh.detach (id:=6) Z) (N4 (Gh.detach (id:=6) Z) (N4 (Gh.detach (id:=6) Z) ?_)))
  exact c9e
 have hk:=c5A hv
 have hq:=b8N hv J
 obtain ⟨q,rfl⟩:∃q:Nat,sq=q:=⟨sq.toNat,by omega⟩
 have hS:=sm6 (m:=m) (sk:=sk) (sc:=sc) (sv:=sv) (q:=q) J
 refine c2n ?_
 refine zgo ?_
 exact b7b
theorem a2f (m:Mach) (sk sq sc sv:Int) (hM:MaG m) (hv:R4 m.cp.length ⟨sk,sq,sc,sv⟩=true) (ho:b1a m ⟨sk,sq,sc,sv⟩):Ctr Tryz.prog 98 [.agg [.lst 2 (m.rs.map p8),.lst 1 (m.en.map n7),.lst 1 (m.ra.map n7),.nst none 4 (m.cp.map (r4 104 76))],.v (.agg ⟨[.int .i64 sk,.int .i64 sq,.int .i64 sc,.int .i64 sv]⟩)] (.shp false [some 4,none,none] [.fr 132 2 (m.rs.map p8),.fr 4 1 (m.en.map n7),.fr 4 1 (m.ra.map n7),.ne 74 4 (m.cp.map a8p),.v (.int .i64 (-1)),.v (.bool false)]):=by
 have f1:=hM.n
 have f2:=hM.en
 have f3:=hM.ra
 have f4:=hM.rn
 refine Ctr.of (n:=107) G Tryz.func98 Z a8 Z Z Z (λw0=>?_)
 refine m7 0 Z (λ_=>Z) (λu0=>?_)
 refine b5V ?_
 refine vm3 ?_
 refine d3 7 Z Z Z (ArgsOK.of Z) (a2v m hM) Z Z ?_
 refine p6 ?_
 refine b4M ?_
 refine zcd (λh1=>?_) (λh1=>?_)
 ·exact absurd (b5J ho) J
 refine zcd (λh2=>?_) (λh2=>?_)
 ·exact absurd (b5J ho) J
 refine zcd (λh3=>?_) (λh3=>?_)
 ·have hc:=b08 hv J
  obtain ⟨c,rfl⟩:∃c:Nat,sc=c:=⟨sc.toNat,by omega⟩
  obtain ⟨g1,g2,g3⟩:=hM.lens (k:=c) J
  have hIG:=hM.ok c J
  have hk:=c58 ho h3
  refine vm3 ?_
  refine d3 11 Z Z Z (ArgsOK.of Z) (a2e (m.cp.getD c default) hIG.f hk) Z Z ?_
  refine vm3 ?_
  refine d6 G 12 Z Z Z Z Z ?_
  refine c8T ?_
  exact c35
 refine zcd (λh4=>?_) (λh4=>?_)
 ·have hc:=b08 hv J
  obtain ⟨c,rfl⟩:∃c:Nat,sc=c:=⟨sc.toNat,by omega⟩
  obtain ⟨g1,g2,g3⟩:=hM.lens (k:=c) J
  have hIG:=hM.ok c J
  have hk:=c59 ho h4
  refine zgo ?_
  refine a7 Z (b0j 8 Z Z Z (ArgsOK.of Z) (a6u (m.cp.getD c default) hk) (λ_=>Z) Z (λy1=>?_))
  refine vm3 ?_
  refine d6 G 9 Z Z Z Z Z ?_
  refine vm8 ?_
  first | refine r7 G Z Z Z Z Z (B6 J J) Z Z (.v Z (.v Z (.v Z (.v Z .nil)))) Z Z Z (Nat.le_of_ble_eq_true Z) (λq h=>by cases h) Z ?_ | refine r7 G Z Z Z Z Z (F9 J J) Z Z (.v Z (.v Z (.v Z (.v Z .nil)))) Z Z Z (Nat.le_of_ble_eq_true Z) (λq h=>by cases h) Z ?_ | refine r7 G Z Z Z Z Z (a3B K0 Z) Z Z (.v Z (.v Z (.v Z (.v Z .nil)))) Z Z Z (Nat.le_of_ble_eq_true Z) (λq h=>by cases h) Z ?_
  exact c35
 exact absurd (b5J ho) J
theorem a5W (a b:Int):Ctr Tryz.prog 62 [.v (.int .i64 a),.v (.int .i64 b)] (.one (.v (.int .i64 (max a b)))):=by
 refine Ctr.of (n:=10) G Tryz.func62 Z a8 Z Z Z (λw0=>?_)
 exact c4q
theorem a4Z (sl:List Slot) (irq p:Int) (hl:sl.length<=1048576):Ctr Tryz.prog 256 [.lst 3 (sl.map g8),.v (.int .i64 irq),.v (.int .i64 p)] (.many [.fr 104 3 ((ptG sl irq p).1.map g8),.v (.bool (ptG sl irq p).2)]):=by
 have hf:=@a1r sl irq
 have hg:=@b5p sl
 refine Ctr.of (n:=39) G Tryz.func256 Z a8 Z Z Z (λw0=>?_)
 refine zcl (F6 sl irq hl) ?_
 refine zcd (λh1=>?_) (λh1=>?_)
 ·have hG:=c8s (p:=p) h1
  refine a4Q ?_
  refine zcd (λh2=>?_) (λh2=>?_)
  ·exact c4W
  exact c4W
 refine zcl (a2u sl hl) ?_
 refine zcd (λh3=>?_) (λh3=>?_)
 ·have hG:=c8u (p:=p) J h3
  refine b1c ?_
  exact c7g
 have hG:=c8t (p:=p) (show o9 sl irq < 0 by omega) (show 0<=freS sl by omega)
 refine c69 ?_
 exact c7g
theorem a40 (sl:List Slot) (irq:Int) (hl:sl.length<=1048576):Ctr Tryz.prog 254 [.lst 3 (sl.map g8),.v (.int .i64 irq)] (.many [.fr 104 3 ((edG sl irq).1.map g8),.v (.bool (edG sl irq).2)]):=by
 have hf:=@a1r sl irq
 refine Ctr.of (n:=41) G Tryz.func254 Z a8 Z Z Z (λw0=>?_)
 refine zcl (F6 sl irq hl) ?_
 refine zcd (λh1=>?_) (λh1=>?_)
 ·have hG:=b98 (sl:=sl) (irq:=irq) (.inl h1)
  refine zwt ?_
  exact c41
 refine zcd (λh2=>?_) (λh2=>?_)
 ·have hG:=b98 (sl:=sl) (irq:=irq) (.inr h2)
  exact c41
 refine zcd (λh3=>?_) (λh3=>?_)
 ·have hG:=c8v (sl:=sl) (irq:=irq) J h3
  refine c69 ?_
  exact c7m
 have hG:=c8w (sl:=sl) (irq:=irq) J h2 h3
 refine a4Q ?_
 refine c2r ?_
 exact c7m
theorem a9o (sl:List Slot) (lim:Int) (hl:sl.length<=1048576):CtrM Tryz.prog 253 [.own 0,.v (.int .i64 lim)] [.row 104 3 (sl.map g8)] (.many [.fr 104 3 ((tkA sl lim).1.map g8),.v (.int .i64 (tkA sl lim).2)]) [none]:=by
 have hb:=@a04 sl true
 refine CtrM.of (n:=33) (k:=1) G Tryz.func253 Z a8 Z Z Z Z Z Z Z (λw0 _ hpin=>?_)
 refine zcl (a0O sl hl) ?_
 refine zcd (λh1=>?_) (λh1=>?_)
 ·have hG:=b99 (sl:=sl) (lim:=lim) (a5r.mpr J)
  refine zwt ?_
  refine zgo ?_
  exact c0K
 refine zgo ?_
 refine W8 ?_
 refine c2q ?_
 refine W8 ?_
 refine c2w ?_
 refine W8 ?_
 refine b5 Z Z (j9 G Z Z Z Z Z (F9 J J) Z) ?_
 refine zcd (λh2=>?_) (λh2=>?_)
 ·have hG:=b99 (sl:=sl) (lim:=lim) (a5r.mpr J)
  refine zgo ?_
  exact c0K
 have hG:=c3e (sl:=sl) (lim:=lim) (I8.mpr J)
 refine vm3 ?_
 refine c2q ?_
 refine p6 ?_
 refine b5 Z Z (f6 G Z Z Z Z (F9 J J) Z) ?_
 refine vm9 ?_
 refine zgn ?_
 refine zgn ?_
 refine s5 (l1 8 [0,1] mixed a8 Z Z (λr0=>?_) (λ_ h=>h))
 refine b77 ?_
 refine zsa 5 ?_
 refine b6 (rs:=[3]) a8 Z (AllB.cons ?_ AllB.nil)
 refine f8 [0,1] Z Z (d3 3 Z Z Z (ArgsOK.of Z) (N0 sl _ ⟨_,_,_⟩ hl J) Z Z (b4 ⟨Z,?_⟩))
 refine zsa 6 ?_
 refine zsa 7 ?_
 refine G9 ?_
 exact c0K
theorem a9p (q:Que) (irq:Int) (hF:QF q) (hn:¬ (0<=o9 q.sl irq/\R2 (q.sl.getD (o9 q.sl irq).toNat default)=true)):Ctr Tryz.prog 201 [.agg [.lst 3 (q.sl.map g8),.lst 2 (q.wa.map j6)],.v (.int .i64 irq)] (.shp false [some 2,none] [.fr 104 3 ((⟨[],[]⟩:Que).sl.map g8),.fr 76 2 ((⟨[],[]⟩:Que).wa.map j6),.v (.bool false)]):=by
 have hl4:=hF.sl.len
 refine Ctr.of (n:=23) G Tryz.func201 Z a8 Z Z Z (λw0=>?_)
 refine m7 0 Z (λ_=>Z) (λu0=>?_)
 refine vm1 ?_
 refine vm9 ?_
 refine vm3 ?_
 refine d3 3 Z Z Z (ArgsOK.of Z) (Ctr.eq (a40 q.sl irq J) (c0a hF hn)) Z Z ?_
 refine zwt ?_
 refine zgo ?_
 refine d8 (p4 Z Z Z Z (b3 (I0 ?_) (b3 (I0 ?_) (b3 (j4 ?_) d9))))
 all_goals (rfl)
theorem a0o (q:Que) (irq:Int) (hF:QF q):Ctr Tryz.prog 201 [.agg [.lst 3 (q.sl.map g8),.lst 2 (q.wa.map j6)],.v (.int .i64 irq)] (.shp false [some 2,none] [.fr 104 3 ((enG q irq).1.sl.map g8),.fr 76 2 ((enG q irq).1.wa.map j6),.v (.bool (enG q irq).2)]):=by
 by_cases h:0<=o9 q.sl irq/\R2 (q.sl.getD (o9 q.sl irq).toNat default)=true
 ·rw [c3h h.1 h.2];exact a3O q irq hF h.1 h.2
 rw [c3i h];exact a9p q irq hF h
theorem a7O (q:Que) (lim:Int) (hF:QF q):Ctr Tryz.prog 198 [.agg [.lst 3 (q.sl.map g8),.lst 2 (q.wa.map j6)],.v (.int .i64 lim)] (.shp false [some 2,none] [.fr 104 3 ((tkQ q lim).1.sl.map g8),.fr 76 2 ((tkQ q lim).1.wa.map j6),.v (.int .i64 (tkQ q lim).2)]):=by
 cases h:a0h q.sl lim
 ·rw [c3g h];exact a3b q lim hF h
 rw [c3f h];exact a5V q lim hF h
theorem a6p (x:Ifc) (hF:IfF x):Ctr Tryz.prog 150 [.agg [.v (.int .i64 x.ma),.lst 1 (x.st.map Rf.r5),.lst 3 (x.qu.sl.map g8),.lst 2 (x.qu.wa.map j6)]] (.shp false [some 4,none] [.v (.int .i64 (tkX x).1.ma),.fr 3 1 ((tkX x).1.st.map Rf.r5),.fr 104 3 ((tkX x).1.qu.sl.map g8),.fr 76 2 ((tkX x).1.qu.wa.map j6),.v (.int .i64 (tkX x).2)]):=by
 cases h:okT x
 ·rw [c3k h];exact a2e x hF h
 rw [c3j h];exact a4X x hF h
theorem a7P (x:Ifc) (hG:IfG x):CtrM Tryz.prog 151 [.agg [.v (.int .i64 x.ma),.own 0,.own 1,.own 2]] [.row 3 1 (x.st.map Rf.r5),.row 104 3 (x.qu.sl.map g8),.row 76 2 (x.qu.wa.map j6)] (.shp false [some 4,none] [.v (.int .i64 (lvX x).1.ma),.fr 3 1 ((lvX x).1.st.map Rf.r5),.fr 104 3 ((lvX x).1.qu.sl.map g8),.fr 76 2 ((lvX x).1.qu.wa.map j6),.v (.int .i64 (lvX x).2)]) [none,none,none]:=by
 have hl4:=hG.f.qu.sl.len
 have hwn:=hG.f.qu.wn
 have hsn:=hG.f.sn
 refine CtrM.of (n:=41) (k:=3) G Tryz.func151 Z a8 Z Z Z Z Z Z Z (λw0 _ hpin=>?_)
 refine vm3 ?_
 refine B1 4 Z Z Z Z Z Z Z ?_
 refine p6 ?_
 refine b76 ?_
 refine zcd (λh1=>?_) (λh1=>?_)
 ·have hG0:=c3m (x:=x) J
  refine zgo ?_
  exact c38
 have hn0:¬ x.st.length=0:=J
 have hG0:=c3l hn0
 obtain ⟨hla,hlb⟩:=b6S hG hn0
 have hls:=a8q hn0
 refine zgn ?_
 refine s5 (l1 15 [0,1,2,3,4] mixed a8 Z Z (λr0=>?_) (λ_ h=>h))
 refine c2o ?_
 refine d7 6 Z a8 a8 Z Z Z Z (c8 G Z Z Z Z Z J Y0) (d7 7 Z a8 a8 Z Z Z Z (j9 G Z Z Z Z Z (F9 J J) Z) (A4 (N:=6) Z (s7 (fuel:=6) [⟨12,5,5,true,.box (avR [.slice none 0 0,.slice none 0 0] [])⟩] (AllVOK.cons (VOK.boxS G Z Z Z Z Z) (AllVOK.nil)) (λhok=>?_))))
 refine n6 [(8,[])] a8 a8 (λe he=>hok e he) a8 (AllVS.cons ?_ AllVS.nil)
 refine VStep.mk0 [0,1,2,3,4] Z Z (λb1 _ hbn=>d3 8 Z Z Z (ArgsOK.of Z) (a3O x.qu _ hG.f.qu (by rw [hls];exact hla) (by rw [hls];exact hlb)) Z Z (b4 Z)) a8 a8 a8 a8 (v8 9 Z a8 Z Z Z Z (b8 Z Z) a8 a8 a8 (v8 10 Z a8 Z Z Z Z (f9 Z Z Z) a8 a8 a8 (v8 11 Z a8 Z Z Z Z (f9 Z Z Z) a8 a8 a8 (n6 [(13,[12])] a8 a8 (λe he=>hok e he) a8 (AllVS.cons ?_ AllVS.nil)))))
 refine VStep.mk1 [0,1,2,3,4] 5 (.ptr 5 0) 5 (.box (avR [.slice none 0 0,.slice none 0 0] [])) [] Z Z Z Z Z (λb1 _ hbn=>e9 G Z Z Z Z Z Z Z Z Z Z Z (b4 Z)) a8 a8 a8 a8 (G7 ?_)
 clear hok
 refine zsa 14 ?_
 refine G9 ?_
 refine s5 (l1 18 [0,1,2,3,5,6,7] mixed a8 Z Z (λr0=>?_) (λ_ h=>h))
 refine c2o ?_
 refine d7 6 Z a8 a8 Z Z Z Z (a5a G Z Z Z Z Z Z J b2k b2k) ?_
 refine c83 ?_
 refine d7 14 Z a8 a8 Z Z Z Z (c8 G Z Z Z Z Z J Y0) (d7 15 Z a8 a8 Z Z Z Z (j9 G Z Z Z Z Z (F9 J J) Z) (b6 (rs:=[7]) a8 Z (AllB.cons ?_ AllB.nil)))
 refine f8 [0,1,2,3,5,6,7] Z Z (d3 9 Z Z Z (ArgsOK.sub1 Z Z Y0 b0E) (H8 (x.st.take (x.st.length - 1)) b7a) Z Z (b4 ⟨Z,?_⟩))
 refine b6 (rs:=[9]) a8 Z (AllB.cons ?_ AllB.nil)
 refine f8 [0,1,2,3,5,6,7] Z Z ?_
 refine R9 ?_
 refine b6 (rs:=[16]) a8 Z (AllB.cons ?_ AllB.nil)
 refine f8 [0,1,2,3,5,6,7] Z Z ?_
 refine R9 ?_
 refine zsa 17 ?_
 refine G9 ?_
 exact c38
theorem a8x {x:Cur} {n:Int} (h:okC n x) (hn:n<=900000000000):CtrX (α:=Int×Cur) Tryz.prog 204 [.ptr 0 0] [.box [.lst 1 (x.c.map B7),.v (.int .i64 x.a),.v (.int .u64 x.s)]] (λy=>(True)/\okC (n+4) y.2) (λy=>.one (.v (.int .i64 y.1))) (λy=>[some (.box [.lst 1 (y.2.c.map B7),.v (.int .i64 y.2.a),.v (.int .u64 y.2.s)])]):=by
 refine CtrX.of (n:=10) (k:=1) G Tryz.func204 Z a8 Z Z Z Z (λ_=>Z) Z Z (λw0 _ hpin=>?_)
 refine zgo ?_
 refine a7 Z (d1 1 [0] Z Z Z (a26 h J (20)) Z (RowsIn.cons Z RowsIn.nil) Z (λ_=>Z) Z (λx1 ⟨hv1,hc1⟩=>?_))
 refine zcd (λh1=>?_) (λh1=>?_)
 ·refine zgo ?_
  refine a7 Z (o8 G 2 Z Z Z Z Z Z Z Z (a7 Z (d1 2 [0,1] Z Z Z (I5 hc1 J [-1,8] (-1) (8) (by decide) (by decide)) Z (RowsIn.cons Z (RowsIn.cons Z RowsIn.nil)) Z (λ_=>Z) Z (λx2 ⟨hv2,hc2⟩=>?_))))
  refine zgo ?_
  refine d8 (z8 ((_,⟨_,_,_⟩)) (o7 Z (j4 Z) Z (AftOK.stays Z Z Z AftOK.nil)) ⟨?_,?_⟩)
  all_goals (try rcases x1 with ⟨_,_⟩)
  all_goals (try rcases x2 with ⟨_,_⟩)
  all_goals (try dsimp only at *)
  all_goals (first | trivial | exact hc2.mono J | omega)
 refine zgo ?_
 refine a7 Z (d1 1 [0] Z Z Z (p7 hc1 J (8)) Z (RowsIn.cons Z RowsIn.nil) Z (λ_=>Z) Z (λx3 ⟨hv3,hc3⟩=>?_))
 refine zgo ?_
 refine d8 (z8 ((_,⟨_,_,_⟩)) (o7 Z (j4 Z) Z (AftOK.stays Z Z Z AftOK.nil)) ⟨?_,?_⟩)
 all_goals (try rcases x1 with ⟨_,_⟩)
 all_goals (try rcases x2 with ⟨_,_⟩)
 all_goals (try rcases x3 with ⟨_,_⟩)
 all_goals (try dsimp only at *)
 all_goals (first | trivial | exact hc3.mono J | omega)
theorem a7Q {x:Cur} {n:Int} (h:okC n x) (hn:n<=900000000000):CtrX (α:=Int×Cur) Tryz.prog 205 [.ptr 0 0] [.box [.lst 1 (x.c.map B7),.v (.int .i64 x.a),.v (.int .u64 x.s)]] (λy=>(True)/\okC (n+2) y.2) (λy=>.one (.v (.int .i64 y.1))) (λy=>[some (.box [.lst 1 (y.2.c.map B7),.v (.int .i64 y.2.a),.v (.int .u64 y.2.s)])]):=by
 refine CtrX.of (n:=6) (k:=1) G Tryz.func205 Z a8 Z Z Z Z (λ_=>Z) Z Z (λw0 _ hpin=>?_)
 refine zgo ?_
 refine a7 Z (o8 G 2 Z Z Z Z Z Z Z Z (a7 Z (d1 2 [0,1] Z Z Z (I5 h J [0,1,2,3,5,8,15,4,4,7,12,16,-1,6] (-1) (16) (by decide) (by decide)) Z (RowsIn.cons Z (RowsIn.cons Z RowsIn.nil)) Z (λ_=>Z) Z (λx1 ⟨hv1,hc1⟩=>?_))))
 refine zgo ?_
 refine d8 (z8 ((_,⟨_,_,_⟩)) (o7 Z (j4 Z) Z (AftOK.stays Z Z Z AftOK.nil)) ⟨?_,?_⟩)
 all_goals (try rcases x1 with ⟨_,_⟩)
 all_goals (try dsimp only at *)
 all_goals (first | trivial | exact hc1.mono J | omega)
theorem a6v {x:Cur} {n:Int} (h:okC n x) (hn:n<=900000000000):CtrX (α:=List Slot×Cur) Tryz.prog 203 [.ptr 0 0] [.box [.lst 1 (x.c.map B7),.v (.int .i64 x.a),.v (.int .u64 x.s)]] (λy=>(y.1.length<=5)/\okC (n+100) y.2) (λy=>.one (.fr 104 3 (y.1.map g8))) (λy=>[some (.box [.lst 1 (y.2.c.map B7),.v (.int .i64 y.2.a),.v (.int .u64 y.2.s)])]):=by
 refine CtrX.of (n:=88) (k:=1) G Tryz.func203 Z a8 Z Z Z Z (λ_=>Z) Z Z (λw0 _ hpin=>?_)
 refine vm3 ?_
 refine b4J ?_
 refine zgo ?_
 refine a7 Z (d1 2 [0] Z Z Z (p7 h J (9)) Z (RowsIn.cons Z RowsIn.nil) Z (λ_=>Z) Z (λx1 ⟨hv1,hc1⟩=>?_))
 refine zgo ?_
 refine g9 [0] [] (λ(z:Nat×Cur×List Slot)=>[(3,.own 1),(4,.v (.int .i64 (x1.1 - z.1)))]) (λ(z:Nat×Cur×List Slot)=>[(0,some (.box [.lst 1 (z.2.1.c.map B7),.v (.int .i64 z.2.1.a),.v (.int .u64 z.2.1.s)])),(1,some (.row 104 3 (z.2.2.map g8)))]) (λ(z:Nat×Cur×List Slot)=>(z.1:Int)<=x1.1/\(z.2.2.length=4)/\okC (n+2+8 * z.1) z.2.1) (λ(z:Nat×Cur×List Slot)=>x1.1.toNat - z.1) (0,x1.2,[zSl,zSl,zSl,zSl]) Z Z ?_ ?_ ?_ ?_
 ·exact ⟨hv1.1,Z,hc1.mono (by simp)⟩
 ·exact c4u
 ·exact b5X
 intro z hinv
 obtain ⟨hz1,hz2,hz⟩:=hinv
 refine vm2 ?_
 refine zcd (λh1=>?_) (λh1=>?_)
 ·refine zgo ?_
  refine a7 Z (d1 2 [0] Z Z Z (p7 hz J (4)) Z (RowsIn.cons Z RowsIn.nil) Z (λ_=>Z) Z (λx2 ⟨hv2,hc2⟩=>?_))
  refine zcd (λh2=>?_) (λh2=>?_)
  ·refine zwt ?_
   refine zgo ?_
   refine a7 Z (d1 2 [0] Z Z Z (p7 hc2 J (8)) Z (RowsIn.cons Z RowsIn.nil) Z (λ_=>Z) Z (λx3 ⟨hv3,hc3⟩=>?_))
   refine zgo ?_
   refine a7 Z (d1 2 [0] Z Z Z (p7 hc3 J (8)) Z (RowsIn.cons Z RowsIn.nil) Z (λ_=>Z) Z (λx4 ⟨hv4,hc4⟩=>?_))
   refine p6 ?_
   refine d3 3 Z Z Z (ArgsOK.of Z) (a4Z z.2.2 _ _ J) Z Z ?_
   refine zcd (λh3=>?_) (λh3=>?_)
   ·refine zgn ?_
    refine a3K ?_
    refine s6 (Gh.sub 2 1 A3 Z Z Z) (b4 ⟨(z.1+1,x4.2,(ptG z.2.2 x3.1 x4.1).1),?_,?_,⟨⟨_,Z,by (first | rfl | exact congrArg (λv=>AV.v (.int .i64 v)) E4)⟩,Z,⟨⟨_,Z,by (first | rfl | exact congrArg (λv=>AV.v (.int .i64 v)) E4)⟩,Z,trivial⟩⟩,⟨⟨_,Z,by rfl⟩,Z,Z,⟨⟨_,Z,by rfl⟩,Z,Z,trivial⟩⟩,Z,Z,Z⟩)
    ·exact c9G
    exact Y3
   refine zgo ?_
   refine ⟨(z.1+1,x4.2,z.2.2),?_,?_,⟨⟨_,Z,by (first | rfl | exact congrArg (λv=>AV.v (.int .i64 v)) E4)⟩,Z,⟨⟨_,Z,by (first | rfl | exact congrArg (λv=>AV.v (.int .i64 v)) E4)⟩,Z,trivial⟩⟩,⟨⟨_,Z,by rfl⟩,Z,Z,⟨⟨_,Z,by rfl⟩,Z,Z,trivial⟩⟩,Z,Z,Z⟩
   ·exact c9G
   exact Y3
  refine zcd (λh4=>?_) (λh4=>?_)
  ·refine zgo ?_
   refine a7 Z (d1 2 [0] Z Z Z (p7 hc2 J (8)) Z (RowsIn.cons Z RowsIn.nil) Z (λ_=>Z) Z (λx5 ⟨hv5,hc5⟩=>?_))
   refine zgo ?_
   refine a7 Z (d1 2 [0] Z Z Z (p7 hc5 J (8)) Z (RowsIn.cons Z RowsIn.nil) Z (λ_=>Z) Z (λx6 ⟨hv6,hc6⟩=>?_))
   refine p6 ?_
   refine d3 3 Z Z Z (ArgsOK.of Z) (a4Z z.2.2 _ _ J) Z Z ?_
   refine zcd (λh5=>?_) (λh5=>?_)
   ·refine zgn ?_
    refine a3K ?_
    refine s6 (Gh.sub 2 1 A3 Z Z Z) (b4 ⟨(z.1+1,x6.2,(ptG z.2.2 x5.1 x6.1).1),?_,?_,⟨⟨_,Z,by (first | rfl | exact congrArg (λv=>AV.v (.int .i64 v)) E4)⟩,Z,⟨⟨_,Z,by (first | rfl | exact congrArg (λv=>AV.v (.int .i64 v)) E4)⟩,Z,trivial⟩⟩,⟨⟨_,Z,by rfl⟩,Z,Z,⟨⟨_,Z,by rfl⟩,Z,Z,trivial⟩⟩,Z,Z,Z⟩)
    ·exact c9H
    exact Y3
   refine zgo ?_
   refine ⟨(z.1+1,x6.2,z.2.2),?_,?_,⟨⟨_,Z,by (first | rfl | exact congrArg (λv=>AV.v (.int .i64 v)) E4)⟩,Z,⟨⟨_,Z,by (first | rfl | exact congrArg (λv=>AV.v (.int .i64 v)) E4)⟩,Z,trivial⟩⟩,⟨⟨_,Z,by rfl⟩,Z,Z,⟨⟨_,Z,by rfl⟩,Z,Z,trivial⟩⟩,Z,Z,Z⟩
   ·exact c9H
   exact Y3
  refine zcd (λh6=>?_) (λh6=>?_)
  ·refine vm3 ?_
   refine J7 3 [1] Z Z Z (a9o z.2.2 16 J) Z (RowsIn.cons Z RowsIn.nil) Z Z Z ?_
   refine zgn ?_
   refine a3K ?_
   refine s6 (Gh.sub 2 1 A3 Z Z Z) (b4 ⟨(z.1+1,x2.2,(tkA z.2.2 16).1),?_,?_,⟨⟨_,Z,by (first | rfl | exact congrArg (λv=>AV.v (.int .i64 v)) E4)⟩,Z,⟨⟨_,Z,by (first | rfl | exact congrArg (λv=>AV.v (.int .i64 v)) E4)⟩,Z,trivial⟩⟩,⟨⟨_,Z,by rfl⟩,Z,Z,⟨⟨_,Z,by rfl⟩,Z,Z,trivial⟩⟩,Z,Z,Z⟩)
   ·exact c9I
   exact Y3
  refine zcd (λh7=>?_) (λh7=>?_)
  ·refine zgo ?_
   refine a7 Z (d1 2 [0] Z Z Z (p7 hc2 J (8)) Z (RowsIn.cons Z RowsIn.nil) Z (λ_=>Z) Z (λx7 ⟨hv7,hc7⟩=>?_))
   refine p6 ?_
   refine d3 3 Z Z Z (ArgsOK.of Z) (a40 z.2.2 _ J) Z Z ?_
   refine zcd (λh8=>?_) (λh8=>?_)
   ·refine zgo ?_
    refine l7 Z Z Z (d1 3 [0] Z Z Z (a26 hc7 J (2)) Z (RowsIn.cons Z RowsIn.nil) Z (λ_=>Z) Z (λx8 ⟨hv8,hc8⟩=>?_))
    refine zcd (λh9=>?_) (λh9=>?_)
    ·refine zgn ?_
     refine a3K ?_
     refine s6 (Gh.sub 2 1 A3 Z Z Z) (b4 ⟨(z.1+1,x8.2,(edG z.2.2 x7.1).1),?_,?_,⟨⟨_,Z,by (first | rfl | exact congrArg (λv=>AV.v (.int .i64 v)) E4)⟩,Z,⟨⟨_,Z,by (first | rfl | exact congrArg (λv=>AV.v (.int .i64 v)) E4)⟩,Z,trivial⟩⟩,⟨⟨_,Z,by rfl⟩,Z,Z,⟨⟨_,Z,by rfl⟩,Z,Z,trivial⟩⟩,Z,Z,Z⟩)
     ·exact c9J
     exact Y3
    refine zgo ?_
    refine ⟨(z.1+1,x8.2,z.2.2),?_,?_,⟨⟨_,Z,by (first | rfl | exact congrArg (λv=>AV.v (.int .i64 v)) E4)⟩,Z,⟨⟨_,Z,by (first | rfl | exact congrArg (λv=>AV.v (.int .i64 v)) E4)⟩,Z,trivial⟩⟩,⟨⟨_,Z,by rfl⟩,Z,Z,⟨⟨_,Z,by rfl⟩,Z,Z,trivial⟩⟩,Z,Z,Z⟩
    ·exact c9J
    exact Y3
   refine zwf ?_
   refine zgo ?_
   refine ⟨(z.1+1,x7.2,z.2.2),?_,?_,⟨⟨_,Z,by (first | rfl | exact congrArg (λv=>AV.v (.int .i64 v)) E4)⟩,Z,⟨⟨_,Z,by (first | rfl | exact congrArg (λv=>AV.v (.int .i64 v)) E4)⟩,Z,trivial⟩⟩,⟨⟨_,Z,by rfl⟩,Z,Z,⟨⟨_,Z,by rfl⟩,Z,Z,trivial⟩⟩,Z,Z,Z⟩
   ·first | exact ⟨by show ((z.1+1:Nat):Int)<=x1.1;omega,hz2,hc7.mono m8⟩ | exact ⟨by show ((z.1+1:Nat):Int)<=x1.1;omega,(a7y j5).trans hz2,hc7.mono m8⟩ | exact ⟨by show ((z.1+1:Nat):Int)<=x1.1;omega,a7A.trans hz2,hc7.mono m8⟩ | exact ⟨by show ((z.1+1:Nat):Int)<=x1.1;omega,(a7z j5).trans hz2,hc7.mono m8⟩
   exact Y3
  refine zgo ?_
  refine ⟨(z.1+1,x2.2,z.2.2),?_,?_,⟨⟨_,Z,by (first | rfl | exact congrArg (λv=>AV.v (.int .i64 v)) E4)⟩,Z,⟨⟨_,Z,by (first | rfl | exact congrArg (λv=>AV.v (.int .i64 v)) E4)⟩,Z,trivial⟩⟩,⟨⟨_,Z,by rfl⟩,Z,Z,⟨⟨_,Z,by rfl⟩,Z,Z,trivial⟩⟩,Z,Z,Z⟩
  ·exact c9I
  exact Y3
 refine zgo ?_
 refine a7 Z (d1 2 [0] Z Z Z (p7 hz J (24)) Z (RowsIn.cons Z RowsIn.nil) Z (λ_=>Z) Z (λx9 ⟨hv9,hc9⟩=>?_))
 refine zcd (λh10=>?_) (λh10=>?_)
 ·refine zgo ?_
  refine a7 Z (d1 2 [0] Z Z Z (p7 hc9 J (4)) Z (RowsIn.cons Z RowsIn.nil) Z (λ_=>Z) Z (λx10 ⟨hv10,hc10⟩=>?_))
  refine zgo ?_
  refine a7 Z (o8 G 3 Z Z Z Z Z Z Z Z (a7 Z (d1 3 [0,2] Z Z Z (I5 hc10 J [-1,4,1] (-1) (4) (by decide) (by decide)) Z (RowsIn.cons Z (RowsIn.cons Z RowsIn.nil)) Z (λ_=>Z) Z (λx11 ⟨hv11,hc11⟩=>?_))))
  refine zgo ?_
  refine a7 Z (o8 G 4 Z Z Z Z Z Z Z Z (a7 Z (d1 4 [0,3] Z Z Z (I5 hc11 J [-1,7,8] (-1) (8) (by decide) (by decide)) Z (RowsIn.cons Z (RowsIn.cons Z RowsIn.nil)) Z (λ_=>Z) Z (λx12 ⟨hv12,hc12⟩=>?_))))
  refine zgo ?_
  refine a7 Z (o8 G 5 Z Z Z Z Z Z Z Z (a7 Z (d1 5 [0,4] Z Z Z (I5 hc12 J [-1,15,16] (-1) (16) (by decide) (by decide)) Z (RowsIn.cons Z (RowsIn.cons Z RowsIn.nil)) Z (λ_=>Z) Z (λx13 ⟨hv13,hc13⟩=>?_))))
  refine c9a ?_
  refine d8 (z8 ((z.2.2.set x10.1.toNat ⟨x11.1,x12.1,x13.1⟩,x13.2)) (o7 Z (c7 Z ?_) Z (AftOK.stays Z ?_ Z AftOK.nil)) (⟨?_,?_⟩))
  all_goals (first | rfl | exact hc13.mono J | (dsimp only;rw [List.map_set];rfl) | (rw [List.map_append];rfl) | (show List.length _<=5;(try simp only [List.length_set,List.length_append,List.length_cons,List.length_nil]);omega))
 refine zcd (λh11=>?_) (λh11=>?_)
 ·refine vm3 ?_
  refine b4K ?_
  refine c86 ?_
  refine d8 (z8 ((z.2.2++[zSl],x9.2)) (o7 Z (c7 Z ?_) Z (AftOK.stays Z ?_ Z AftOK.nil)) (⟨?_,?_⟩))
  all_goals exact c6Z
 refine zcd (λh12=>?_) (λh12=>?_)
 ·refine c9a ?_
  refine d8 (z8 ((z.2.2.set 3 ⟨0,1,0⟩,x9.2)) (o7 Z (c7 Z ?_) Z (AftOK.stays Z ?_ Z AftOK.nil)) (⟨?_,?_⟩))
  all_goals exact c6Z
 refine zgo ?_
 refine d8 (z8 ((z.2.2,x9.2)) (o7 Z (c7 Z ?_) Z (AftOK.stays Z ?_ Z AftOK.nil)) (⟨?_,?_⟩))
 all_goals exact c6Z
theorem a1H {x:Cur} {n:Int} (h:okC n x) (hn:n<=890000000000):CtrX (α:=Que×Cur) Tryz.prog 153 [.ptr 0 0] [.box [.lst 1 (x.c.map B7),.v (.int .i64 x.a),.v (.int .u64 x.s)]] (λy=>(y.1.sl.length<=5/\y.1.wa.length<=10)/\okC (n+300) y.2) (λy=>.shp true [some 2] [.fr 104 3 (y.1.sl.map g8),.fr 76 2 (y.1.wa.map j6)]) (λy=>[some (.box [.lst 1 (y.2.c.map B7),.v (.int .i64 y.2.a),.v (.int .u64 y.2.s)])]):=by
 refine CtrX.of (n:=82) (k:=1) G Tryz.func153 Z a8 Z Z Z Z (λ_=>Z) Z Z (λw0 _ hpin=>?_)
 refine b4L ?_
 refine vm3 ?_
 refine b4K ?_
 refine p6 ?_
 refine c2x ?_
 refine vm3 ?_
 refine b76 ?_
 refine zgo ?_
 refine a7 Z (d1 5 [0] Z Z Z (p7 h J (14)) Z (RowsIn.cons Z RowsIn.nil) Z (λ_=>Z) Z (λx1 ⟨hv1,hc1⟩=>?_))
 refine zgo ?_
 refine g9 [0,2,3] [1] (λ(z:Nat×Cur×Que)=>[(4,.v (.int .i64 (x1.1 - z.1)))]) (λ(z:Nat×Cur×Que)=>[(0,some (.box [.lst 1 (z.2.1.c.map B7),.v (.int .i64 z.2.1.a),.v (.int .u64 z.2.1.s)])),(2,some (.row 104 3 (z.2.2.sl.map g8))),(3,some (.row 76 2 (z.2.2.wa.map j6))),(4,some (.box [.own 2,.own 3]))]) (λ(z:Nat×Cur×Que)=>(z.1:Int)<=x1.1/\(QF z.2.2)/\okC (n+2+6 * z.1) z.2.1) (λ(z:Nat×Cur×Que)=>x1.1.toNat - z.1) (0,x1.2,q0) Z Z ?_ ?_ ?_ ?_
 ·exact ⟨hv1.1,c8x,hc1.mono (by simp)⟩
 ·exact b0K
 ·exact ⟨⟨_,Z,by rfl⟩,Z,Z,⟨⟨_,Z,by rfl⟩,Z,Z,⟨⟨_,Z,by rfl⟩,Z,Z,⟨⟨_,Z,by rfl⟩,Z,Z,trivial⟩⟩⟩⟩
 intro z hinv
 obtain ⟨hz1,hz2,hz⟩:=hinv
 have hql:=hz2.sl.len
 have hqw:=hz2.wn8
 refine vm2 ?_
 refine zcd (λh1=>?_) (λh1=>?_)
 ·refine zgo ?_
  refine a7 Z (d1 5 [0] Z Z Z (p7 hz J (5)) Z (RowsIn.cons Z RowsIn.nil) Z (λ_=>Z) Z (λx2 ⟨hv2,hc2⟩=>?_))
  refine zcd (λh2=>?_) (λh2=>?_)
  ·refine zwt ?_
   refine S7 7 [1,2,3,4] [6] mixed a8 Z Z (λr0=>?_) (λ_ h=>h)
   refine v6 0 [5,6] Z a8 a8 a8 Z Z Z Z (c1 G Z Z Z Z Z Z) (v6 1 [2,4,5,6] Z a8 a8 a8 Z Z Z Z (b8 Z Z) (v6 3 [4,5,6] Z a8 a8 a8 Z Z Z Z (b8 Z Z) (w8 2 a8 (C0 [1,2,3,4] Z Z (d1 5 [0] Z Z Z (p7 hc2 J (8)) Z (RowsIn.cons Z RowsIn.nil) Z (λ_=>Z) Z (λx3 ⟨hv3,hc3⟩=>b4 ⟨Z,?_⟩))))))
   refine w8 4 a8 (C0 [1,2,3,4] Z Z (d1 5 [0] Z Z Z (p7 hc3 J (8)) Z (RowsIn.cons Z RowsIn.nil) Z (λ_=>Z) Z (λx4 ⟨hv4,hc4⟩=>b4 ⟨Z,?_⟩)))
   refine w8 5 a8 (C0 [1,2,3,4] Z Z (d3 7 Z Z Z (ArgsOK.of Z) (Y9 z.2.2 _ _ hz2 J J) Z Z (b4 ⟨Z,?_⟩)))
   refine b75 ?_
   refine s6 (Gh.sub 5 2 A3 Z Z Z) (s6 (Gh.sub 6 3 A3 Z Z Z) (b4 ⟨(z.1+1,x4.2,a1s z.2.2 x3.1 x4.1),?_,?_,⟨⟨_,Z,by (first | rfl | exact congrArg (λv=>AV.v (.int .i64 v)) E4)⟩,Z,trivial⟩,⟨⟨_,Z,by rfl⟩,Z,Z,⟨⟨_,Z,by rfl⟩,Z,Z,⟨⟨_,Z,by rfl⟩,Z,Z,⟨⟨_,Z,by rfl⟩,Z,Z,trivial⟩⟩⟩⟩,Z,Z,Z⟩))
   ·first | exact ⟨by show ((z.1+1:Nat):Int)<=x1.1;omega,(a4A hz2 J J).1,hc4.mono m8⟩ | exact ⟨by show ((z.1+1:Nat):Int)<=x1.1;omega,b2f hz2,hc4.mono m8⟩ | exact ⟨by show ((z.1+1:Nat):Int)<=x1.1;omega,b2g hz2 j5,hc4.mono m8⟩ | exact ⟨by show ((z.1+1:Nat):Int)<=x1.1;omega,hz2,hc4.mono m8⟩
   exact Y3
  refine zcd (λh3=>?_) (λh3=>?_)
  ·refine zwt ?_
   refine S7 7 [1,2,3,4] [6] mixed a8 Z Z (λr0=>?_) (λ_ h=>h)
   refine v6 0 [5,6] Z a8 a8 a8 Z Z Z Z (c1 G Z Z Z Z Z Z) (v6 1 [2,4,5,6] Z a8 a8 a8 Z Z Z Z (b8 Z Z) (v6 3 [4,5,6] Z a8 a8 a8 Z Z Z Z (b8 Z Z) (w8 2 a8 (C0 [1,2,3,4] Z Z (d1 5 [0] Z Z Z (p7 hc2 J (8)) Z (RowsIn.cons Z RowsIn.nil) Z (λ_=>Z) Z (λx5 ⟨hv5,hc5⟩=>b4 ⟨Z,?_⟩))))))
   refine w8 4 a8 (C0 [1,2,3,4] Z Z (d1 5 [0] Z Z Z (p7 hc5 J (8)) Z (RowsIn.cons Z RowsIn.nil) Z (λ_=>Z) Z (λx6 ⟨hv6,hc6⟩=>b4 ⟨Z,?_⟩)))
   refine w8 5 a8 (C0 [1,2,3,4] Z Z (d3 7 Z Z Z (ArgsOK.of Z) (Y9 z.2.2 _ _ hz2 J J) Z Z (b4 ⟨Z,?_⟩)))
   refine b75 ?_
   refine s6 (Gh.sub 5 2 A3 Z Z Z) (s6 (Gh.sub 6 3 A3 Z Z Z) (b4 ⟨(z.1+1,x6.2,a1s z.2.2 x5.1 x6.1),?_,?_,⟨⟨_,Z,by (first | rfl | exact congrArg (λv=>AV.v (.int .i64 v)) E4)⟩,Z,trivial⟩,⟨⟨_,Z,by rfl⟩,Z,Z,⟨⟨_,Z,by rfl⟩,Z,Z,⟨⟨_,Z,by rfl⟩,Z,Z,⟨⟨_,Z,by rfl⟩,Z,Z,trivial⟩⟩⟩⟩,Z,Z,Z⟩))
   ·first | exact ⟨by show ((z.1+1:Nat):Int)<=x1.1;omega,(a4A hz2 J J).1,hc6.mono m8⟩ | exact ⟨by show ((z.1+1:Nat):Int)<=x1.1;omega,b2f hz2,hc6.mono m8⟩ | exact ⟨by show ((z.1+1:Nat):Int)<=x1.1;omega,b2g hz2 j5,hc6.mono m8⟩ | exact ⟨by show ((z.1+1:Nat):Int)<=x1.1;omega,hz2,hc6.mono m8⟩
   exact Y3
  refine zcd (λh4=>?_) (λh4=>?_)
  ·refine S7 7 [1,2,3,4] [6] mixed a8 Z Z (λr0=>?_) (λ_ h=>h)
   refine v6 0 [5,6] Z a8 a8 a8 Z Z Z Z (c1 G Z Z Z Z Z Z) (v6 1 [2,4,5,6] Z a8 a8 a8 Z Z Z Z (b8 Z Z) (v6 3 [4,5,6] Z a8 a8 a8 Z Z Z Z (b8 Z Z) (w8 2 a8 (C0 [1,2,3,4] Z Z (d1 5 [0] Z Z Z (p7 hc2 J (8)) Z (RowsIn.cons Z RowsIn.nil) Z (λ_=>Z) Z (λx7 ⟨hv7,hc7⟩=>b4 ⟨Z,?_⟩))))))
   refine w8 4 a8 (C0 [1,2,3,4] Z Z (d1 5 [0] Z Z Z (p7 hc7 J (8)) Z (RowsIn.cons Z RowsIn.nil) Z (λ_=>Z) Z (λx8 ⟨hv8,hc8⟩=>b4 ⟨Z,?_⟩)))
   refine w8 5 a8 (C0 [1,2,3,4] Z Z (d3 7 Z Z Z (ArgsOK.of Z) (Y9 z.2.2 _ _ hz2 J J) Z Z (b4 ⟨Z,?_⟩)))
   refine b75 ?_
   refine s6 (Gh.sub 5 2 A3 Z Z Z) (s6 (Gh.sub 6 3 A3 Z Z Z) (b4 ⟨(z.1+1,x8.2,a1s z.2.2 x7.1 x8.1),?_,?_,⟨⟨_,Z,by (first | rfl | exact congrArg (λv=>AV.v (.int .i64 v)) E4)⟩,Z,trivial⟩,⟨⟨_,Z,by rfl⟩,Z,Z,⟨⟨_,Z,by rfl⟩,Z,Z,⟨⟨_,Z,by rfl⟩,Z,Z,⟨⟨_,Z,by rfl⟩,Z,Z,trivial⟩⟩⟩⟩,Z,Z,Z⟩))
   ·first | exact ⟨by show ((z.1+1:Nat):Int)<=x1.1;omega,(a4A hz2 J J).1,hc8.mono m8⟩ | exact ⟨by show ((z.1+1:Nat):Int)<=x1.1;omega,b2f hz2,hc8.mono m8⟩ | exact ⟨by show ((z.1+1:Nat):Int)<=x1.1;omega,b2g hz2 j5,hc8.mono m8⟩ | exact ⟨by show ((z.1+1:Nat):Int)<=x1.1;omega,hz2,hc8.mono m8⟩
   exact Y3
  refine zcd (λh5=>?_) (λh5=>?_)
  ·refine vm3 ?_
   refine d3 7 Z Z Z (ArgsOK.of Z) (a7O z.2.2 16 hz2) Z Z ?_
   refine zgn ?_
   refine a3K ?_
   refine s6 (Gh.sub 5 2 A3 Z Z Z) (s6 (Gh.sub 6 3 A3 Z Z Z) (b4 ⟨(z.1+1,x2.2,(tkQ z.2.2 16).1),?_,?_,⟨⟨_,Z,by (first | rfl | exact congrArg (λv=>AV.v (.int .i64 v)) E4)⟩,Z,trivial⟩,⟨⟨_,Z,by rfl⟩,Z,Z,⟨⟨_,Z,by rfl⟩,Z,Z,⟨⟨_,Z,by rfl⟩,Z,Z,⟨⟨_,Z,by rfl⟩,Z,Z,trivial⟩⟩⟩⟩,Z,Z,Z⟩))
   ·exact c9L
   exact Y3
  refine zcd (λh6=>?_) (λh6=>?_)
  ·refine s5 (l1 10 [1,2,3,4] mixed a8 Z Z (λr0=>?_) (λ_ h=>h))
   refine zsa 0 ?_
   refine zsa 1 ?_
   refine b6 (rs:=[2,7]) a8 Z (AllB.cons ?_ (AllB.cons ?_ AllB.nil))
   ·refine f8 [1,2,3,4] Z Z (d1 5 [0] Z Z Z (p7 hc2 J (8)) Z (RowsIn.cons Z RowsIn.nil) Z (λ_=>Z) Z (λx9 ⟨hv9,hc9⟩=>b4 ⟨Z,?_⟩))
    refine b6 (rs:=[3,7]) a8 Z (AllB.cons ?_ (AllB.cons ?_ AllB.nil))
    ·refine f8 [1,2,3,4] Z Z (d3 7 Z Z Z (ArgsOK.of Z) (a0o z.2.2 _ hz2) Z Z (b4 ⟨Z,?_⟩))
     refine a8t ?_
     refine b6 (rs:=[7]) a8 Z (AllB.cons ?_ AllB.nil)
     refine f8 [1,2,3,4] Z Z (d6 G 8 Z Z Z Z Z (b4 ⟨Z,?_⟩))
     refine b6 (rs:=[8]) a8 Z (AllB.cons ?_ AllB.nil)
     refine f8 [1,2,3,4] Z Z ?_
     refine R9 ?_
     refine zsa 9 ?_
     refine G9 ?_
     refine zcd (λh7=>?_) (λh7=>?_)
     ·refine zgn ?_
      refine a3K ?_
      refine s6 (Gh.sub 5 2 A3 Z Z Z) (s6 (Gh.sub 6 3 A3 Z Z Z) (b4 ⟨(z.1+1,x9.2,(enG z.2.2 x9.1).1),?_,?_,⟨⟨_,Z,by (first | rfl | exact congrArg (λv=>AV.v (.int .i64 v)) E4)⟩,Z,trivial⟩,⟨⟨_,Z,by rfl⟩,Z,Z,⟨⟨_,Z,by rfl⟩,Z,Z,⟨⟨_,Z,by rfl⟩,Z,Z,⟨⟨_,Z,by rfl⟩,Z,Z,trivial⟩⟩⟩⟩,Z,Z,Z⟩))
      ·exact c7d
      exact Y3
     exact c4L
    refine f8 [1,2,3,4] Z Z (d6 G 6 Z Z Z Z Z (b4 ⟨Z,?_⟩))
    refine b6 (rs:=[3]) a8 Z (AllB.cons ?_ AllB.nil)
    refine f8 [1,2,3,4] Z Z (d3 8 Z Z Z (ArgsOK.of Z) (a0o z.2.2 _ hz2) Z Z (b4 ⟨Z,?_⟩))
    refine a8t ?_
    refine b6 (rs:=[8]) a8 Z (AllB.cons ?_ AllB.nil)
    refine f8 [1,2,3,4] Z Z ?_
    refine R9 ?_
    refine zsa 9 ?_
    refine G9 ?_
    refine zcd (λh8=>?_) (λh8=>?_)
    ·refine zgn ?_
     refine a3K ?_
     refine s6 (Gh.sub 6 2 A3 Z Z Z) (s6 (Gh.sub 7 3 A3 Z Z Z) (b4 ⟨(z.1+1,x9.2,(enG z.2.2 x9.1).1),?_,?_,⟨⟨_,Z,by (first | rfl | exact congrArg (λv=>AV.v (.int .i64 v)) E4)⟩,Z,trivial⟩,⟨⟨_,Z,by rfl⟩,Z,Z,⟨⟨_,Z,by rfl⟩,Z,Z,⟨⟨_,Z,by rfl⟩,Z,Z,⟨⟨_,Z,by rfl⟩,Z,Z,trivial⟩⟩⟩⟩,Z,Z,Z⟩))
     ·exact c7d
     exact Y3
    exact c4L
   refine f8 [1,2,3,4] Z Z (d6 G 6 Z Z Z Z Z (b4 ⟨Z,?_⟩))
   refine b6 (rs:=[2]) a8 Z (AllB.cons ?_ AllB.nil)
   refine f8 [1,2,3,4] Z Z (d1 6 [0] Z Z Z (p7 hc2 J (8)) Z (RowsIn.cons Z RowsIn.nil) Z (λ_=>Z) Z (λx10 ⟨hv10,hc10⟩=>b4 ⟨Z,?_⟩))
   refine b6 (rs:=[3]) a8 Z (AllB.cons ?_ AllB.nil)
   refine f8 [1,2,3,4] Z Z (d3 8 Z Z Z (ArgsOK.of Z) (a0o z.2.2 _ hz2) Z Z (b4 ⟨Z,?_⟩))
   refine a8t ?_
   refine b6 (rs:=[8]) a8 Z (AllB.cons ?_ AllB.nil)
   refine f8 [1,2,3,4] Z Z ?_
   refine R9 ?_
   refine zsa 9 ?_
   refine G9 ?_
   refine zcd (λh9=>?_) (λh9=>?_)
   ·refine zgn ?_
    refine a3K ?_
    refine s6 (Gh.sub 6 2 A3 Z Z Z) (s6 (Gh.sub 7 3 A3 Z Z Z) (b4 ⟨(z.1+1,x10.2,(enG z.2.2 x10.1).1),?_,?_,⟨⟨_,Z,by (first | rfl | exact congrArg (λv=>AV.v (.int .i64 v)) E4)⟩,Z,trivial⟩,⟨⟨_,Z,by rfl⟩,Z,Z,⟨⟨_,Z,by rfl⟩,Z,Z,⟨⟨_,Z,by rfl⟩,Z,Z,⟨⟨_,Z,by rfl⟩,Z,Z,trivial⟩⟩⟩⟩,Z,Z,Z⟩))
    ·exact c9K
    exact Y3
   refine zgo ?_
   refine ⟨(z.1+1,x10.2,z.2.2),?_,?_,⟨⟨_,Z,by (first | rfl | exact congrArg (λv=>AV.v (.int .i64 v)) E4)⟩,Z,trivial⟩,⟨⟨_,Z,by rfl⟩,Z,Z,⟨⟨_,Z,by rfl⟩,Z,Z,⟨⟨_,Z,by rfl⟩,Z,Z,⟨⟨_,Z,by rfl⟩,Z,Z,trivial⟩⟩⟩⟩,Z,Z,Z⟩
   ·exact c9K
   exact Y3
  refine zgo ?_
  refine ⟨(z.1+1,x2.2,z.2.2),?_,?_,⟨⟨_,Z,by (first | rfl | exact congrArg (λv=>AV.v (.int .i64 v)) E4)⟩,Z,trivial⟩,⟨⟨_,Z,by rfl⟩,Z,Z,⟨⟨_,Z,by rfl⟩,Z,Z,⟨⟨_,Z,by rfl⟩,Z,Z,⟨⟨_,Z,by rfl⟩,Z,Z,trivial⟩⟩⟩⟩,Z,Z,Z⟩
  ·exact c9L
  exact Y3
 refine zgo ?_
 refine a7 Z (d1 5 [0] Z Z Z (p7 hz J (24)) Z (RowsIn.cons Z RowsIn.nil) Z (λ_=>Z) Z (λx11 ⟨hv11,hc11⟩=>?_))
 refine zcd (λh10=>?_) (λh10=>?_)
 ·refine zgo ?_
  refine a7 Z (d1 6 [0] Z Z Z (a6v hc11 J) Z (RowsIn.cons Z RowsIn.nil) Z (λ_=>Z) Z (λx12 ⟨hv12,hc12⟩=>?_))
  refine zgo ?_
  refine d8 (z8 ((⟨x12.1,z.2.2.wa⟩,x12.2)) (u6 Z Z Z Z (b3 (c7 Z ?_) (b3 (c7 Z ?_) d9)) Z (AftOK.stays Z ?_ Z AftOK.nil)) (⟨?_,?_⟩))
  all_goals (first | rfl | exact hc12.mono J | (dsimp only;rw [List.map_set];rfl) | (rw [List.map_append];rfl) | (refine ⟨?_,?_⟩<;>(show List.length _<=_;(try simp only [List.length_set,List.length_append,List.length_cons,List.length_nil]);omega)))
 refine zcd (λh11=>?_) (λh11=>?_)
 ·refine S7 11 [1,2,3,4] [8,10] mixed a8 Z Z (λr0=>?_) (λ_ h=>h)
  refine v6 0 [1,8,9,10] Z a8 a8 a8 Z Z Z Z (d5 G Z Z Z Z) (v6 1 [8,9,10] Z a8 a8 a8 Z Z Z Z (i8 G Z Z Z Z Z Z Z) (v6 2 [3,5,6,7,8,9,10] Z a8 a8 a8 Z Z Z Z (b8 Z Z) (v6 4 [5,6,7,8,9,10] Z a8 a8 a8 Z Z Z Z (b8 Z Z) (w8 3 a8 (C0 [1,2,3,4] Z Z (d1 5 [0] Z Z Z (a8x hc11 J) Z (RowsIn.cons Z RowsIn.nil) Z (λ_=>Z) Z (λx13 ⟨hv13,hc13⟩=>b4 ⟨Z,?_⟩)))))))
  refine w8 5 a8 (C0 [1,2,3,4] Z Z (d1 5 [0] Z Z Z (a7Q hc13 J) Z (RowsIn.cons Z RowsIn.nil) Z (λ_=>Z) Z (λx14 ⟨hv14,hc14⟩=>b4 ⟨Z,?_⟩)))
  refine v6 6 [7,8,9,10] Z a8 a8 a8 Z Z Z Z (w3 G Z Z Z Z) (w8 7 a8 (C0 [1,2,3,4] Z Z (o8 G 6 Z Z Z Z Z Z Z Z (b4 ⟨Z,?_⟩))))
  refine w8 8 a8 (a6n Z Z a8 (I3 (Gh.forget (id:=4) (k:=1) Z Z)<|I3 (Gh.keep [0,1,2,3,4,5] Z)<|a1n (tx:=60) 7 rfl rfl rfl rfl rfl<|j8 G X9 rfl rfl rfl rfl rfl rfl rfl rfl rfl J9 rfl rfl (b4 ?_)))
  refine w8 9 a8 (a6n Z Z a8 (b5 Z Z (d5 G Z Z Z Z) (b4 (w8 10 a8 ?_))))
  refine c60 ?_
  refine zgo ?_
  refine d8 (z8 ((⟨z.2.2.sl,z.2.2.wa++[⟨x13.1,x14.1⟩]⟩,x14.2)) (u6 Z Z Z Z (b3 (c7 Z ?_) (b3 (c7 Z ?_) d9)) Z (AftOK.stays Z ?_ Z AftOK.nil)) (⟨?_,?_⟩))
  all_goals (first | rfl | exact hc14.mono J | (dsimp only;rw [List.map_set];rfl) | (rw [List.map_append];rfl) | (refine ⟨?_,?_⟩<;>(show List.length _<=_;(try simp only [List.length_set,List.length_append,List.length_cons,List.length_nil]);omega)))
 refine zcd (λh12=>?_) (λh12=>?_)
 ·refine zcd (λh13=>?_) (λh13=>?_)
  ·refine l1 7 [1,3,4] mixed a8 Z Z (λr0=>?_) (λ_ h=>h)
   refine b77 ?_
   refine b6 (rs:=[3]) a8 Z (AllB.cons ?_ AllB.nil)
   refine f8 [1,3,4] Z Z (d1 5 [0] Z Z Z (p7 hc11 J (4)) Z (RowsIn.cons Z RowsIn.nil) Z (λ_=>Z) Z (λx15 ⟨hv15,hc15⟩=>b4 ⟨Z,?_⟩))
   refine b6 (rs:=[5]) a8 Z (AllB.cons ?_ AllB.nil)
   refine f8 [1,3,4] Z Z (b5 Z Z (c8 G Z Z Z Z Z J Y0) (b4 ⟨Z,?_⟩))
   refine b6 (rs:=[6]) a8 Z (AllB.cons ?_ AllB.nil)
   refine f8 [1,3,4] Z Z (l8 G Z Z Z Z Z (F9 J J) Z Z Z Z Z (Nat.le_of_ble_eq_true Z) Z (b4 ⟨Z,?_⟩))
   refine G9 ?_
   refine zgo ?_
   refine d8 (z8 ((⟨z.2.2.sl.set x15.1.toNat zSl,z.2.2.wa⟩,x15.2)) (u6 Z Z Z Z (b3 (c7 Z ?_) (b3 (c7 Z ?_) d9)) Z (AftOK.stays Z ?_ Z AftOK.nil)) (⟨?_,?_⟩))
   all_goals (first | rfl | exact hc15.mono J | (dsimp only;rw [List.map_set];rfl) | (rw [List.map_append];rfl) | (refine ⟨?_,?_⟩<;>(show List.length _<=_;(try simp only [List.length_set,List.length_append,List.length_cons,List.length_nil]);omega)))
  refine zgo ?_
  refine d8 (z8 ((z.2.2,x11.2)) (u6 Z Z Z Z (b3 (c7 Z ?_) (b3 (c7 Z ?_) d9)) Z (AftOK.stays Z ?_ Z AftOK.nil)) (⟨?_,?_⟩))
  all_goals exact c3N
 refine zgo ?_
 refine d8 (z8 ((z.2.2,x11.2)) (u6 Z Z Z Z (b3 (c7 Z ?_) (b3 (c7 Z ?_) d9)) Z (AftOK.stays Z ?_ Z AftOK.nil)) (⟨?_,?_⟩))
 all_goals exact c3N
theorem a1I {x:Cur} {n:Int} (h:okC n x) (hn:n<=880000000000):CtrX (α:=Ifc×Cur) Tryz.prog 99 [.ptr 0 0] [.box [.lst 1 (x.c.map B7),.v (.int .i64 x.a),.v (.int .u64 x.s)]] (λy=>(DrI y.1)/\okC (n+500) y.2) (λy=>.shp true [some 4] [.v (.int .i64 y.1.ma),.fr 3 1 (y.1.st.map Rf.r5),.fr 104 3 (y.1.qu.sl.map g8),.fr 76 2 (y.1.qu.wa.map j6)]) (λy=>[some (.box [.lst 1 (y.2.c.map B7),.v (.int .i64 y.2.a),.v (.int .u64 y.2.s)])]):=by
 refine CtrX.of (n:=76) (k:=1) G Tryz.func99 Z a8 Z Z Z Z (λ_=>Z) Z Z (λw0 _ hpin=>?_)
 refine b4L ?_
 refine vm3 ?_
 refine b4K ?_
 refine vm3 ?_
 refine c2x ?_
 refine p6 ?_
 refine o8 G 5 Z Z Z Z Z Z Z Z ?_
 refine vm3 ?_
 refine d6 G 6 Z Z Z Z Z ?_
 refine zgo ?_
 refine a7 Z (d1 6 [0] Z Z Z (p7 h J (14)) Z (RowsIn.cons Z RowsIn.nil) Z (λ_=>Z) Z (λx1 ⟨hv1,hc1⟩=>?_))
 refine zgo ?_
 refine g9 [0,2,3] [1] (λ(z:Nat×Cur×Ifc)=>[(4,.v (.int .i64 (x1.1 - z.1)))]) (λ(z:Nat×Cur×Ifc)=>[(0,some (.box [.lst 1 (z.2.1.c.map B7),.v (.int .i64 z.2.1.a),.v (.int .u64 z.2.1.s)])),(2,some (.row 3 1 (z.2.2.st.map Rf.r5))),(3,some (.row 104 3 (z.2.2.qu.sl.map g8))),(4,some (.row 76 2 (z.2.2.qu.wa.map j6))),(5,some (.box [.v (.int .i64 z.2.2.ma),.own 2,.own 3,.own 4]))]) (λ(z:Nat×Cur×Ifc)=>(z.1:Int)<=x1.1/\(IfG z.2.2)/\okC (n+2+6 * z.1) z.2.1) (λ(z:Nat×Cur×Ifc)=>x1.1.toNat - z.1) (0,x1.2,b7M) Z Z ?_ ?_ ?_ ?_
 ·exact ⟨hv1.1,c0b,hc1.mono (by simp)⟩
 ·exact b0K
 ·exact ⟨⟨_,Z,by rfl⟩,Z,Z,⟨⟨_,Z,by rfl⟩,Z,Z,⟨⟨_,Z,by rfl⟩,Z,Z,⟨⟨_,Z,by rfl⟩,Z,Z,⟨⟨_,Z,by rfl⟩,Z,Z,trivial⟩⟩⟩⟩⟩
 intro z hinv
 obtain ⟨hz1,hz2,hz⟩:=hinv
 have hql:=hz2.f.qu.sl.len
 have hqw:=hz2.f.qu.wn8
 have hqs:=hz2.f.sn
 refine vm2 ?_
 refine zcd (λh1=>?_) (λh1=>?_)
 ·refine zgo ?_
  refine a7 Z (d1 6 [0] Z Z Z (p7 hz J (6)) Z (RowsIn.cons Z RowsIn.nil) Z (λ_=>Z) Z (λx2 ⟨hv2,hc2⟩=>?_))
  refine zcd (λh2=>?_) (λh2=>?_)
  ·refine zwt ?_
   refine S7 7 [1,2,3,4,5] [6] mixed a8 Z Z (λr0=>?_) (λ_ h=>h)
   refine v6 0 [5,6] Z a8 a8 a8 Z Z Z Z (c1 G Z Z Z Z Z Z) (v6 1 [2,4,5,6] Z a8 a8 a8 Z Z Z Z (b8 Z Z) (v6 3 [4,5,6] Z a8 a8 a8 Z Z Z Z (b8 Z Z) (w8 2 a8 (C0 [1,2,3,4,5] Z Z (d1 6 [0] Z Z Z (p7 hc2 J (8)) Z (RowsIn.cons Z RowsIn.nil) Z (λ_=>Z) Z (λx3 ⟨hv3,hc3⟩=>b4 ⟨Z,?_⟩))))))
   refine w8 4 a8 (C0 [1,2,3,4,5] Z Z (d1 6 [0] Z Z Z (p7 hc3 J (12)) Z (RowsIn.cons Z RowsIn.nil) Z (λ_=>Z) Z (λx4 ⟨hv4,hc4⟩=>b4 ⟨Z,?_⟩)))
   refine w8 5 a8 (C0 [1,2,3,4,5] Z Z (d3 9 Z Z Z (ArgsOK.of Z) (T6 z.2.2 _ _ hz2.f J J) Z Z (b4 ⟨Z,?_⟩)))
   refine b75 ?_
   refine s6 (Gh.sub 6 2 A3 Z Z Z) (s6 (Gh.sub 7 3 A3 Z Z Z) (s6 (Gh.sub 8 4 A3 Z Z Z) (b4 ⟨(z.1+1,x4.2,a4D z.2.2 x3.1 x4.1),?_,?_,⟨⟨_,Z,by (first | rfl | exact congrArg (λv=>AV.v (.int .i64 v)) E4)⟩,Z,trivial⟩,⟨⟨_,Z,by rfl⟩,Z,Z,⟨⟨_,Z,by rfl⟩,Z,Z,⟨⟨_,Z,by rfl⟩,Z,Z,⟨⟨_,Z,by rfl⟩,Z,Z,⟨⟨_,Z,by rfl⟩,Z,Z,trivial⟩⟩⟩⟩⟩,Z,Z,Z⟩)))
   ·first | exact ⟨by show ((z.1+1:Nat):Int)<=x1.1;omega,b9H hz2 J J,hc4.mono m8⟩ | exact ⟨by show ((z.1+1:Nat):Int)<=x1.1;omega,b6W hz2,hc4.mono m8⟩ | exact ⟨by show ((z.1+1:Nat):Int)<=x1.1;omega,b6X hz2,hc4.mono m8⟩ | exact ⟨by show ((z.1+1:Nat):Int)<=x1.1;omega,hz2,hc4.mono m8⟩
   exact Y3
  refine zcd (λh3=>?_) (λh3=>?_)
  ·refine zwt ?_
   refine S7 7 [1,2,3,4,5] [6] mixed a8 Z Z (λr0=>?_) (λ_ h=>h)
   refine v6 0 [5,6] Z a8 a8 a8 Z Z Z Z (c1 G Z Z Z Z Z Z) (v6 1 [2,4,5,6] Z a8 a8 a8 Z Z Z Z (b8 Z Z) (v6 3 [4,5,6] Z a8 a8 a8 Z Z Z Z (b8 Z Z) (w8 2 a8 (C0 [1,2,3,4,5] Z Z (d1 6 [0] Z Z Z (p7 hc2 J (8)) Z (RowsIn.cons Z RowsIn.nil) Z (λ_=>Z) Z (λx5 ⟨hv5,hc5⟩=>b4 ⟨Z,?_⟩))))))
   refine w8 4 a8 (C0 [1,2,3,4,5] Z Z (d1 6 [0] Z Z Z (p7 hc5 J (12)) Z (RowsIn.cons Z RowsIn.nil) Z (λ_=>Z) Z (λx6 ⟨hv6,hc6⟩=>b4 ⟨Z,?_⟩)))
   refine w8 5 a8 (C0 [1,2,3,4,5] Z Z (d3 9 Z Z Z (ArgsOK.of Z) (T6 z.2.2 _ _ hz2.f J J) Z Z (b4 ⟨Z,?_⟩)))
   refine b75 ?_
   refine s6 (Gh.sub 6 2 A3 Z Z Z) (s6 (Gh.sub 7 3 A3 Z Z Z) (s6 (Gh.sub 8 4 A3 Z Z Z) (b4 ⟨(z.1+1,x6.2,a4D z.2.2 x5.1 x6.1),?_,?_,⟨⟨_,Z,by (first | rfl | exact congrArg (λv=>AV.v (.int .i64 v)) E4)⟩,Z,trivial⟩,⟨⟨_,Z,by rfl⟩,Z,Z,⟨⟨_,Z,by rfl⟩,Z,Z,⟨⟨_,Z,by rfl⟩,Z,Z,⟨⟨_,Z,by rfl⟩,Z,Z,⟨⟨_,Z,by rfl⟩,Z,Z,trivial⟩⟩⟩⟩⟩,Z,Z,Z⟩)))
   ·first | exact ⟨by show ((z.1+1:Nat):Int)<=x1.1;omega,b9H hz2 J J,hc6.mono m8⟩ | exact ⟨by show ((z.1+1:Nat):Int)<=x1.1;omega,b6W hz2,hc6.mono m8⟩ | exact ⟨by show ((z.1+1:Nat):Int)<=x1.1;omega,b6X hz2,hc6.mono m8⟩ | exact ⟨by show ((z.1+1:Nat):Int)<=x1.1;omega,hz2,hc6.mono m8⟩
   exact Y3
  refine zcd (λh4=>?_) (λh4=>?_)
  ·refine S7 7 [1,2,3,4,5] [6] mixed a8 Z Z (λr0=>?_) (λ_ h=>h)
   refine v6 0 [5,6] Z a8 a8 a8 Z Z Z Z (c1 G Z Z Z Z Z Z) (v6 1 [2,4,5,6] Z a8 a8 a8 Z Z Z Z (b8 Z Z) (v6 3 [4,5,6] Z a8 a8 a8 Z Z Z Z (b8 Z Z) (w8 2 a8 (C0 [1,2,3,4,5] Z Z (d1 6 [0] Z Z Z (p7 hc2 J (8)) Z (RowsIn.cons Z RowsIn.nil) Z (λ_=>Z) Z (λx7 ⟨hv7,hc7⟩=>b4 ⟨Z,?_⟩))))))
   refine w8 4 a8 (C0 [1,2,3,4,5] Z Z (d1 6 [0] Z Z Z (p7 hc7 J (12)) Z (RowsIn.cons Z RowsIn.nil) Z (λ_=>Z) Z (λx8 ⟨hv8,hc8⟩=>b4 ⟨Z,?_⟩)))
   refine w8 5 a8 (C0 [1,2,3,4,5] Z Z (d3 9 Z Z Z (ArgsOK.of Z) (T6 z.2.2 _ _ hz2.f J J) Z Z (b4 ⟨Z,?_⟩)))
   refine b75 ?_
   refine s6 (Gh.sub 6 2 A3 Z Z Z) (s6 (Gh.sub 7 3 A3 Z Z Z) (s6 (Gh.sub 8 4 A3 Z Z Z) (b4 ⟨(z.1+1,x8.2,a4D z.2.2 x7.1 x8.1),?_,?_,⟨⟨_,Z,by (first | rfl | exact congrArg (λv=>AV.v (.int .i64 v)) E4)⟩,Z,trivial⟩,⟨⟨_,Z,by rfl⟩,Z,Z,⟨⟨_,Z,by rfl⟩,Z,Z,⟨⟨_,Z,by rfl⟩,Z,Z,⟨⟨_,Z,by rfl⟩,Z,Z,⟨⟨_,Z,by rfl⟩,Z,Z,trivial⟩⟩⟩⟩⟩,Z,Z,Z⟩)))
   ·first | exact ⟨by show ((z.1+1:Nat):Int)<=x1.1;omega,b9H hz2 J J,hc8.mono m8⟩ | exact ⟨by show ((z.1+1:Nat):Int)<=x1.1;omega,b6W hz2,hc8.mono m8⟩ | exact ⟨by show ((z.1+1:Nat):Int)<=x1.1;omega,b6X hz2,hc8.mono m8⟩ | exact ⟨by show ((z.1+1:Nat):Int)<=x1.1;omega,hz2,hc8.mono m8⟩
   exact Y3
  refine zcd (λh5=>?_) (λh5=>?_)
  ·refine zwt ?_
   exact c4H
  refine zcd (λh6=>?_) (λh6=>?_)
  ·exact c4H
  refine zcd (λh7=>?_) (λh7=>?_)
  ·refine vm3 ?_
   refine J7 9 [2,3,4] Z Z Z (a7P z.2.2 hz2) Z (RowsIn.cons Z (RowsIn.cons Z (RowsIn.cons Z RowsIn.nil))) Z Z Z ?_
   refine zgn ?_
   refine a3K ?_
   refine s6 (Gh.sub 6 2 A3 Z Z Z) (s6 (Gh.sub 7 3 A3 Z Z Z) (s6 (Gh.sub 8 4 A3 Z Z Z) (b4 ⟨(z.1+1,x2.2,(lvX z.2.2).1),?_,?_,⟨⟨_,Z,by (first | rfl | exact congrArg (λv=>AV.v (.int .i64 v)) E4)⟩,Z,trivial⟩,⟨⟨_,Z,by rfl⟩,Z,Z,⟨⟨_,Z,by rfl⟩,Z,Z,⟨⟨_,Z,by rfl⟩,Z,Z,⟨⟨_,Z,by rfl⟩,Z,Z,⟨⟨_,Z,by rfl⟩,Z,Z,trivial⟩⟩⟩⟩⟩,Z,Z,Z⟩)))
   ·exact c7e
   exact Y3
  refine zgo ?_
  refine ⟨(z.1+1,x2.2,z.2.2),?_,?_,⟨⟨_,Z,by (first | rfl | exact congrArg (λv=>AV.v (.int .i64 v)) E4)⟩,Z,trivial⟩,⟨⟨_,Z,by rfl⟩,Z,Z,⟨⟨_,Z,by rfl⟩,Z,Z,⟨⟨_,Z,by rfl⟩,Z,Z,⟨⟨_,Z,by rfl⟩,Z,Z,⟨⟨_,Z,by rfl⟩,Z,Z,trivial⟩⟩⟩⟩⟩,Z,Z,Z⟩
  ·exact c7e
  exact Y3
 refine zgo ?_
 refine a7 Z (d1 6 [0] Z Z Z (a26 hz J (3)) Z (RowsIn.cons Z RowsIn.nil) Z (λ_=>Z) Z (λx9 ⟨hv9,hc9⟩=>?_))
 refine zcd (λh8=>?_) (λh8=>?_)
 ·refine zgo ?_
  refine a7 Z (o8 G 7 Z Z Z Z Z Z Z Z (a7 Z (d1 7 [0,6] Z Z Z (I5 hc9 J [0,4,8,15] (0) (15) (by decide) (by decide)) Z (RowsIn.cons Z (RowsIn.cons Z RowsIn.nil)) Z (λ_=>Z) Z (λx10 ⟨hv10,hc10⟩=>?_))))
  refine zgo ?_
  refine a7 Z (d1 7 [0] Z Z Z (p7 hc10 J (24)) Z (RowsIn.cons Z RowsIn.nil) Z (λ_=>Z) Z (λx11 ⟨hv11,hc11⟩=>?_))
  refine zcd (λh9=>?_) (λh9=>?_)
  ·refine zgo ?_
   refine a7 Z (o8 G 8 Z Z Z Z Z Z Z Z (a7 Z (d1 8 [0,7] Z Z Z (I5 hc11 J [-1,17] (-1) (17) (by decide) (by decide)) Z (RowsIn.cons Z (RowsIn.cons Z RowsIn.nil)) Z (λ_=>Z) Z (λx12 ⟨hv12,hc12⟩=>?_))))
   refine zgo ?_
   refine d8 (z8 ((⟨x12.1,z.2.2.st,z.2.2.qu⟩,x12.2)) (u6 Z Z Z Z (b3 (j4 ?_) (b3 (c7 Z ?_) (b3 (c7 Z ?_) (b3 (c7 Z ?_) d9)))) Z (AftOK.stays Z ?_ Z AftOK.nil)) (⟨?_,?_⟩))
   all_goals (first | rfl | exact hc12.mono J | (dsimp only;rw [List.map_set];rfl) | (rw [List.map_append];rfl) | (refine ⟨?_,?_,?_⟩<;>(show List.length _<=_;(try simp only [List.length_set,List.length_append,List.length_cons,List.length_nil]);omega)))
  refine zcd (λh10=>?_) (λh10=>?_)
  ·refine S7 8 [1,2,3,4,5,6] [5,7] mixed a8 Z Z (λr0=>?_) (λ_ h=>h)
   refine v6 0 [1,5,6,7] Z a8 a8 a8 Z Z Z Z (d5 G Z Z Z Z) (v6 1 [5,6,7] Z a8 a8 a8 Z Z Z Z (i8 G Z Z Z Z Z Z Z) (v6 2 [3,4,5,6,7] Z a8 a8 a8 Z Z Z Z (b8 Z Z) (w8 3 a8 (C0 [1,2,3,4,5,6] Z Z (d1 7 [0] Z Z Z (p7 hc11 J (8)) Z (RowsIn.cons Z RowsIn.nil) Z (λ_=>Z) Z (λx13 ⟨hv13,hc13⟩=>b4 ⟨Z,?_⟩))))))
   refine w8 4 a8 (C0 [1,2,3,4,5,6] Z Z (o8 G 8 Z Z Z Z Z Z Z Z (b4 ⟨Z,?_⟩)))
   refine w8 5 a8 (a6n Z Z a8 (I3 (Gh.forget (id:=5) (k:=1) Z Z)<|I3 (Gh.keep [0,1,2,3,4,5,6,7] Z)<|a1n (tx:=64) 9 rfl rfl rfl rfl rfl<|j8 G X9 rfl rfl rfl rfl rfl rfl rfl rfl rfl J9 rfl rfl (b4 ?_)))
   refine c68 ?_
   refine d8 (z8 ((⟨x10.1,z.2.2.st++[x13.1],z.2.2.qu⟩,x13.2)) (u6 Z Z Z Z (b3 (j4 ?_) (b3 (c7 Z ?_) (b3 (c7 Z ?_) (b3 (c7 Z ?_) d9)))) Z (AftOK.stays Z ?_ Z AftOK.nil)) (⟨?_,?_⟩))
   all_goals (first | rfl | exact hc13.mono J | (dsimp only;rw [List.map_set];rfl) | (rw [List.map_append];rfl) | (refine ⟨?_,?_,?_⟩<;>(show List.length _<=_;(try simp only [List.length_set,List.length_append,List.length_cons,List.length_nil]);omega)))
  refine zcd (λh11=>?_) (λh11=>?_)
  ·refine zgo ?_
   refine a7 Z (d1 9 [0] Z Z Z (a1H hc11 J) Z (RowsIn.cons Z RowsIn.nil) Z (λ_=>Z) Z (λx14 ⟨hv14,hc14⟩=>?_))
   refine zgo ?_
   refine d8 (z8 ((⟨x10.1,z.2.2.st,x14.1⟩,x14.2)) (u6 Z Z Z Z (b3 (j4 ?_) (b3 (c7 Z ?_) (b3 (c7 Z ?_) (b3 (c7 Z ?_) d9)))) Z (AftOK.stays Z ?_ Z AftOK.nil)) (⟨?_,?_⟩))
   all_goals (first | rfl | exact hc14.mono J | (dsimp only;rw [List.map_set];rfl) | (rw [List.map_append];rfl) | (refine ⟨?_,?_,?_⟩<;>(show List.length _<=_;(try simp only [List.length_set,List.length_append,List.length_cons,List.length_nil]);omega)))
  refine zgo ?_
  refine d8 (z8 ((⟨x10.1,z.2.2.st,z.2.2.qu⟩,x11.2)) (u6 Z Z Z Z (b3 (j4 ?_) (b3 (c7 Z ?_) (b3 (c7 Z ?_) (b3 (c7 Z ?_) d9)))) Z (AftOK.stays Z ?_ Z AftOK.nil)) (⟨?_,?_⟩))
  all_goals (first | rfl | exact hc11.mono J | (dsimp only;rw [List.map_set];rfl) | (rw [List.map_append];rfl) | (refine ⟨?_,?_,?_⟩<;>(show List.length _<=_;(try simp only [List.length_set,List.length_append,List.length_cons,List.length_nil]);omega)))
 refine zgo ?_
 refine a7 Z (d1 6 [0] Z Z Z (p7 hc9 J (24)) Z (RowsIn.cons Z RowsIn.nil) Z (λ_=>Z) Z (λx15 ⟨hv15,hc15⟩=>?_))
 refine zcd (λh12=>?_) (λh12=>?_)
 ·refine zgo ?_
  refine a7 Z (o8 G 7 Z Z Z Z Z Z Z Z (a7 Z (d1 7 [0,6] Z Z Z (I5 hc15 J [-1,17] (-1) (17) (by decide) (by decide)) Z (RowsIn.cons Z (RowsIn.cons Z RowsIn.nil)) Z (λ_=>Z) Z (λx16 ⟨hv16,hc16⟩=>?_))))
  refine zgo ?_
  refine d8 (z8 ((⟨x16.1,z.2.2.st,z.2.2.qu⟩,x16.2)) (u6 Z Z Z Z (b3 (j4 ?_) (b3 (c7 Z ?_) (b3 (c7 Z ?_) (b3 (c7 Z ?_) d9)))) Z (AftOK.stays Z ?_ Z AftOK.nil)) (⟨?_,?_⟩))
  all_goals (first | rfl | exact hc16.mono J | (dsimp only;rw [List.map_set];rfl) | (rw [List.map_append];rfl) | (refine ⟨?_,?_,?_⟩<;>(show List.length _<=_;(try simp only [List.length_set,List.length_append,List.length_cons,List.length_nil]);omega)))
 refine zcd (λh13=>?_) (λh13=>?_)
 ·refine S7 8 [1,2,3,4,5] [5,7] mixed a8 Z Z (λr0=>?_) (λ_ h=>h)
  refine v6 0 [1,5,6,7] Z a8 a8 a8 Z Z Z Z (d5 G Z Z Z Z) (v6 1 [5,6,7] Z a8 a8 a8 Z Z Z Z (i8 G Z Z Z Z Z Z Z) (v6 2 [3,4,5,6,7] Z a8 a8 a8 Z Z Z Z (b8 Z Z) (w8 3 a8 (C0 [1,2,3,4,5] Z Z (d1 6 [0] Z Z Z (p7 hc15 J (8)) Z (RowsIn.cons Z RowsIn.nil) Z (λ_=>Z) Z (λx17 ⟨hv17,hc17⟩=>b4 ⟨Z,?_⟩))))))
  refine w8 4 a8 (C0 [1,2,3,4,5] Z Z (o8 G 7 Z Z Z Z Z Z Z Z (b4 ⟨Z,?_⟩)))
  refine w8 5 a8 (a6n Z Z a8 (I3 (Gh.forget (id:=5) (k:=1) Z Z)<|I3 (Gh.keep [0,1,2,3,4,5,6] Z)<|a1n (tx:=64) 8 rfl rfl rfl rfl rfl<|j8 G X9 rfl rfl rfl rfl rfl rfl rfl rfl rfl J9 rfl rfl (b4 ?_)))
  refine c68 ?_
  refine d8 (z8 ((⟨z.2.2.ma,z.2.2.st++[x17.1],z.2.2.qu⟩,x17.2)) (u6 Z Z Z Z (b3 (j4 ?_) (b3 (c7 Z ?_) (b3 (c7 Z ?_) (b3 (c7 Z ?_) d9)))) Z (AftOK.stays Z ?_ Z AftOK.nil)) (⟨?_,?_⟩))
  all_goals (first | rfl | exact hc17.mono J | (dsimp only;rw [List.map_set];rfl) | (rw [List.map_append];rfl) | (refine ⟨?_,?_,?_⟩<;>(show List.length _<=_;(try simp only [List.length_set,List.length_append,List.length_cons,List.length_nil]);omega)))
 refine zcd (λh14=>?_) (λh14=>?_)
 ·refine zgo ?_
  refine a7 Z (d1 8 [0] Z Z Z (a1H hc15 J) Z (RowsIn.cons Z RowsIn.nil) Z (λ_=>Z) Z (λx18 ⟨hv18,hc18⟩=>?_))
  refine zgo ?_
  refine d8 (z8 ((⟨z.2.2.ma,z.2.2.st,x18.1⟩,x18.2)) (u6 Z Z Z Z (b3 (j4 ?_) (b3 (c7 Z ?_) (b3 (c7 Z ?_) (b3 (c7 Z ?_) d9)))) Z (AftOK.stays Z ?_ Z AftOK.nil)) (⟨?_,?_⟩))
  all_goals (first | rfl | exact hc18.mono J | (dsimp only;rw [List.map_set];rfl) | (rw [List.map_append];rfl) | (refine ⟨?_,?_,?_⟩<;>(show List.length _<=_;(try simp only [List.length_set,List.length_append,List.length_cons,List.length_nil]);omega)))
 refine zgo ?_
 refine d8 (z8 ((⟨z.2.2.ma,z.2.2.st,z.2.2.qu⟩,x15.2)) (u6 Z Z Z Z (b3 (j4 ?_) (b3 (c7 Z ?_) (b3 (c7 Z ?_) (b3 (c7 Z ?_) d9)))) Z (AftOK.stays Z ?_ Z AftOK.nil)) (⟨?_,?_⟩))
 all_goals (first | rfl | exact hc15.mono J | (dsimp only;rw [List.map_set];rfl) | (rw [List.map_append];rfl) | (refine ⟨?_,?_,?_⟩<;>(show List.length _<=_;(try simp only [List.length_set,List.length_append,List.length_cons,List.length_nil]);omega)))
end Go.Proofs.YtdhckhjphmjniaaGreatDoor
