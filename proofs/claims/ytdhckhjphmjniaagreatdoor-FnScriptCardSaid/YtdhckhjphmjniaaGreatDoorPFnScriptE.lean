/- Texts merged into one: M24, M26, D3, D4, D5. -/
import Derived.Test.YtdhckhjphmjniaaGreatDoorPFnScriptD
set_option maxHeartbeats 4000000
set_option linter.unusedSimpArgs false
set_option linter.unusedVariables false
set_option maxRecDepth 20000
namespace Go.Proofs.YtdhckhjphmjniaaGreatDoor
open Go Go.Rf
theorem b0J (m:Mach) (hM:MaG m):Ctr Tryz.prog 149 [.agg [.lst 2 (m.rs.map q9),.lst 1 (m.en.map m8),.lst 1 (m.ra.map m8),.nst none 4 (m.cp.map (r6 104 76))]] (.shp true [some 4] [.fr 132 2 ((b5p m).rs.map q9),.fr 4 1 ((b5p m).en.map m8),.fr 4 1 ((b5p m).ra.map m8),.ne 74 4 ((b5p m).cp.map (r6 104 76))]):=by
 have f1:=hM.n
 have f2:=hM.en
 have f3:=hM.ra
 have f4:=hM.rn
 refine Ctr.of (n:=63) G Tryz.func149 Z a8 Z Z Z (λw0=>?_)
 refine n8 0 Z (λ_=>Z) (λu0=>?_)
 refine vm1 ?_
 refine vm9 ?_
 refine vm3 ?_
 refine d4 6 Z Z Z (ArgsOK.of Z) (a2r m hM) Z Z ?_
 refine p6 ?_
 refine d7 G 7 Z Z Z Z Z ?_
 refine zgo ?_
 refine i7 [1,2,3] [0,1,2,3,6] (λ(i:Nat)=>[(4,.v (.int .i64 (i:Int)))]) (λ(i:Nat)=>[(4,some (.row 4 1 ((a82 m i).map m8))),(5,some (.nest 74 4 ((a2e m i).map (r6 104 76)) []))]) (λ(i:Nat)=>i<=8) (λ(i:Nat)=>8 - i) 0 Z Z ?_ ?_ ?_ ?_
 ·exact R9
 ·exact a84
 ·exact b3e
 intro i hi
 have hrl:=@a7o m i
 have hcl:=@T3 m i
 have htg:=λh=>hM.tg (i:=i) h
 refine vm2 ?_
 refine zcd (λh1=>?_) (λh1=>?_)
 ·obtain ⟨hta,htb,htc⟩:=htg J
  obtain ⟨hst,hIG⟩:=a7p hM (i:=i) (k:=tgM m i) J htb
  have htd:tgM m i < m.cp.length:=htb
  refine zcd (λh2=>?_) (λh2=>?_)
  ·refine zcd (λh3=>?_) (λh3=>?_)
   ·refine zgo ?_
    refine a0k ?_
    refine b3a ?_
    refine a0k ?_
    refine b7C ?_
    refine zcl (a3M (m.cp.getD (tgM m i) default).st _ (by have:=(hM.ok _ htd).f.sn;omega)) ?_
    refine zcd (λh4=>?_) (λh4=>?_)
    ·have hcn:=b9l (m:=m) (i:=i) h2 h3 h4
     refine c8E ?_
     refine J6 (Gh.open (id:=5) (i:=(tgM m i)) (k:=1) 8 Z Z (c5V J) Z Z) (J6 (Gh.open (id:=5) (i:=(tgM m i)) (k:=2) 9 Z Z (a3x N0 Z) Z Z) (J6 (Gh.open (id:=5) (i:=(tgM m i)) (k:=3) 10 Z Z (a3x N0 Z) Z Z) (l2 18 [0,1,2,3,4,6,7,8,9] mixed a8 Z Z (λr0=>?_) (λ_ h=>h))))
     refine a06 ?_
     refine zsa 4 ?_
     refine zsa 5 ?_
     refine zsa 8 ?_
     refine zsa 9 ?_
     refine zsa 10 ?_
     refine zsa 11 ?_
     refine zsa 12 ?_
     refine zsa 13 ?_
     refine zsa 14 ?_
     refine b7 (rs:=[6]) a8 Z (AllB.cons ?_ AllB.nil)
     first | refine f9 [0,1,2,3,4,6,7,8,9] Z Z (b5 Z Z (u5 G Z Z Z Z Z J T6) (b4 ⟨Z,?_⟩)) | refine f9 [0,1,2,3,4,6,7,8,9] Z Z (b5 Z Z (u5 G Z Z Z Z Z J N0) (b4 ⟨Z,?_⟩))
     refine b7 (rs:=[7]) a8 Z (AllB.cons ?_ AllB.nil)
     refine g9 [0,1,2,3,4,6,7,8,9] Z Z (b5 Z Z (U4 G Z Z Z Z (a3x N0 Z) Z (.v (.own a7y (.own a7y (.own a7y .nil))))) (b4 ⟨Z,?_⟩))
     refine b7 (rs:=[15]) a8 Z (AllB.cons ?_ AllB.nil)
     refine g9 [0,1,2,3,4,6,7,8,9] Z Z (d4 13 Z Z Z (ArgsOK.of Z) (U2 ((a2e m i).getD (tgM m i) default) _ _ hIG.f J htc) Z Z (b4 ⟨Z,?_⟩))
     refine a3P (Gh.detach (id:=5) Z) (a3P (Gh.detach (id:=5) Z) (a3P (Gh.detach (id:=5) Z) (b7 (rs:=[16]) a8 Z (AllB.cons ?_ AllB.nil))))
     first | refine f9 [0,1,2,3,4,6,7,8,9] Z Z (b5 Z Z (u5 G Z Z Z Z Z J T6) (b4 ⟨Z,?_⟩)) | refine f9 [0,1,2,3,4,6,7,8,9] Z Z (b5 Z Z (u5 G Z Z Z Z Z J N0) (b4 ⟨Z,?_⟩))
     refine b7 (rs:=[17]) a8 Z (AllB.cons ?_ AllB.nil)
     refine g9 [0,1,2,3,4,6,7,8,9] Z Z (r8 G Z Z Z Z Z (a3x N0 Z) Z Z (.v Z (.own Z (.own Z (.own Z .nil)))) Z Z Z (Nat.le_of_ble_eq_true Z) (λq h=>by cases h) Z (b4 ⟨Z,?_⟩))
     refine F3 ?_
     exact c13
    have hcn:=b9o (m:=m) (i:=i) h4
    exact c13
   have hcn:=b9n (m:=m) (i:=i) h3
   refine zwf ?_
   exact c13
  have hcn:=b9m (m:=m) (i:=i) h2
  refine zwf ?_
  exact c13
 obtain rfl:i=8:=J
 refine zgo ?_
 refine d8 (o8 Z Z Z Z (b3 (c8 Z ?_) (b3 (c8 Z ?_) (b3 (c8 Z ?_) (b3 (A8 Z ?_) d9)))))
 all_goals (rfl)
theorem a9j (z:Value) (sl:List Slot) (lim:Int) (hF:SlF sl) (hk:a0d sl lim=false):Ctr Tryz.prog 253 [.pin z 3 (sl.map j5),.v (.int .i64 lim)] (.many [.v z,.v (.int .i64 (-1))]):=by
 have hl4:=hF.len
 have hb:=@a04 sl true
 have hf:=@a1q sl
 have hkk:=a5d.mp hk
 refine Ctr.of (n:=33) G Tryz.func253 Z a8 Z Z Z (λw0=>?_)
 refine zcl (a0Q sl J) ?_
 refine zcd (λh1=>?_) (λh1=>?_)
 ·refine zwt ?_
  exact c34
 refine zgo ?_
 refine a0k ?_
 first | refine b5 Z Z (a1G G Z Z Z Z J (R1 J)) ?_ | refine b5 Z Z (a1G G Z Z Z Z J (A7 J J)) ?_ | refine b5 Z Z (a1G G Z Z Z Z J (A1 J J)) ?_
 refine zcd (λh2=>?_) (λh2=>?_)
 ·exact c34
 exfalso;omega
theorem a2Z (q:Que) (lim:Int) (hF:QF q) (hk:a0d q.sl lim=false):Ctr Tryz.prog 198 [.agg [.lst 3 (q.sl.map j5),.lst 2 (q.wa.map j9)],.v (.int .i64 lim)] (.shp false [some 2,none] [.fr 104 3 (q.sl.map j5),.fr 76 2 (q.wa.map j9),.v (.int .i64 (-1))]):=by
 have hl4:=hF.sl.len
 have hwn:=hF.wn
 refine Ctr.of (n:=24) G Tryz.func198 Z a8 Z Z Z (λw0=>?_)
 refine n8 0 Z (λ_=>Z) (λu0=>?_)
 refine vm1 ?_
 refine vm9 ?_
 refine zgo ?_
 refine c1E (t:=10) Z (λz10=>?_)
 refine p6 ?_
 refine b5 Z Z (j4 Z (ArgsOK.pin1 Z (ArgsOK.of Z)) (a9j _ q.sl lim hF.sl hk) Z) ?_
 refine zgn ?_
 refine s9 (J6 (Gh.asPin (d:=6) (t:=10) Z Z) (l2 11 [0] mixed a8 Z Z (λr0=>?_) (λ_ h=>h)))
 refine zsa 1 ?_
 refine zsa 4 ?_
 refine zsa 5 ?_
 refine zsa 8 ?_
 refine A9 (N:=4) Z (s7 (fuel:=5) [⟨0,15,2,false,.row 104 3 []⟩,⟨3,18,3,false,.row 76 2 []⟩] (AllVOK.cons (VOK.lit G Z Z Z Z Z) (AllVOK.cons (VOK.lit G Z Z Z Z Z) (AllVOK.nil))) (λhok=>?_))
 refine n6 [(2,[0])] a8 a8 (λe he=>hok e he) a8 (AllVS.cons ?_ AllVS.nil)
 refine VStep.mk1 [0] 15 (.own 2) 2 (.row 104 3 []) [⟨3,18,3,false,.row 76 2 []⟩] Z Z Z Z Z (λb1 _ hbn=>l1 G T5 Z Z Z Z Z Z Z Z Z m7 Z Z (b4 Z)) a8 a8 a8 a8 (n6 [(6,[3])] a8 a8 (λe he=>hok e (vin (is:=[0]) Z he)) a8 (AllVS.cons ?_ AllVS.nil))
 refine VStep.mk1 [0] 18 (.own 3) 3 (.row 76 2 []) [] Z Z Z Z Z (λb1 _ hbn=>l1 G T5 Z Z Z Z Z Z Z Z Z m7 Z Z (b4 Z)) a8 a8 a8 a8 (G0 ?_)
 clear hok
 refine b7 (rs:=[7]) a8 Z (AllB.cons ?_ AllB.nil)
 refine b3c ?_
 refine b7 (rs:=[9]) a8 Z (AllB.cons ?_ AllB.nil)
 refine b3c ?_
 refine zsa 10 ?_
 refine F3 ?_
 refine d8 (o8 Z Z Z Z (b3 (c8 Z ?_) (b3 (c8 Z ?_) (b3 (j8 ?_) d9))))
 all_goals (first | rfl | simp)
theorem a15 (x:Ifc) (hF:IfF x) (hk:okT x=false):Ctr Tryz.prog 150 [.agg [.v (.int .i64 x.ma),.lst 1 (x.st.map Rf.r7),.lst 3 (x.qu.sl.map j5),.lst 2 (x.qu.wa.map j9)]] (.shp false [some 4,none] [.v (.int .i64 x.ma),.fr 3 1 (x.st.map Rf.r7),.fr 104 3 (x.qu.sl.map j5),.fr 76 2 (x.qu.wa.map j9),.v (.int .i64 (-1))]):=by
 have hl4:=hF.qu.sl.len
 have hwn:=hF.qu.wn
 have hsn:=hF.sn
 refine Ctr.of (n:=35) G Tryz.func150 Z a8 Z Z Z (λw0=>?_)
 refine n8 0 Z (λ_=>Z) (λu0=>?_)
 refine vm1 ?_
 refine vm9 ?_
 refine zgn ?_
 refine s9 (l2 14 [0,1] mixed a8 Z Z (λr0=>?_) (λ_ h=>h))
 refine a06 ?_
 refine zsa 4 ?_
 refine A9 (N:=3) Z (s7 (fuel:=8) [⟨11,4,2,true,.box (avR [.slice none 0 0,.slice none 0 0] [])⟩] (AllVOK.cons (VOK.boxS G Z Z Z Z Z) (AllVOK.nil)) (λhok=>?_))
 refine n6 [(5,[])] a8 a8 (λe he=>hok e he) a8 (AllVS.cons ?_ AllVS.nil)
 refine VStep.mk0 [0,1] Z Z (λb1 _ hbn=>b5 Z Z (j4 Z (ArgsOK.of Z) (a14 x hF) Z) (b4 Z)) a8 a8 a8 a8 (n6 [(6,[])] a8 a8 (λe he=>hok e he) a8 (AllVS.cons ?_ AllVS.nil))
 refine VStep.mk0 [0,1] Z Z (λb1 _ hbn=>b5 Z Z (j4 Z (ArgsOK.of Z) (a4G _ _) Z) (b4 Z)) a8 a8 a8 a8 (n6 [(7,[])] a8 a8 (λe he=>hok e he) a8 (AllVS.cons ?_ AllVS.nil))
 refine VStep.mk0 [0,1] Z Z (λb1 _ hbn=>d4 5 Z Z Z (ArgsOK.of Z) (a2Z x.qu (b7l x) hF.qu hk) Z Z (b4 Z)) a8 a8 a8 a8 (v7 8 Z a8 Z Z Z Z (b9 Z Z) a8 a8 a8 (v7 9 Z a8 Z Z Z Z (i1 Z Z Z) a8 a8 a8 (v7 10 Z a8 Z Z Z Z (i1 Z Z Z) a8 a8 a8 (n6 [(12,[11])] a8 a8 (λe he=>hok e he) a8 (AllVS.cons ?_ AllVS.nil)))))
 refine c8D ?_
 clear hok
 refine zsa 13 ?_
 refine F3 ?_
 refine s9 (l2 9 [0,1,2,3,4] mixed a8 Z Z (λr0=>?_) (λ_ h=>h))
 refine a06 ?_
 refine zsa 5 ?_
 refine A9 (N:=6) Z (s7 (fuel:=3) [⟨7,6,5,true,.box (avR [.int .i64 0,.slice none 0 0,.slice none 0 0,.slice none 0 0] [])⟩] (AllVOK.cons (VOK.boxS G Z Z Z Z Z) (AllVOK.nil)) (λhok=>?_))
 refine n6 [(4,[])] a8 a8 (λe he=>hok e he) a8 (AllVS.cons ?_ AllVS.nil)
 refine VStep.mk0 [0,1,2,3,4] Z Z (λb1 _ hbn=>d4 7 Z Z Z (ArgsOK.of Z) (H6 x.st J) Z Z (b4 Z)) a8 a8 a8 a8 (n6 [(6,[])] a8 a8 (λe he=>hok e he) a8 (AllVS.cons ?_ AllVS.nil))
 refine VStep.mk0 [0,1,2,3,4] Z Z (λb1 _ hbn=>b5 Z Z (w9 G Z Z Z Z) (b4 Z)) a8 a8 a8 a8 (n6 [(8,[7])] a8 a8 (λe he=>hok e he) a8 (AllVS.cons ?_ AllVS.nil))
 refine c8A ?_
 clear hok
 refine F3 ?_
 refine zcd (λh1=>?_) (λh1=>?_)
 ·exfalso;omega
 refine zgo ?_
 refine d8 (o8 Z Z Z Z (b3 (j8 ?_) (b3 (c8 Z ?_) (b3 (c8 Z ?_) (b3 (c8 Z ?_) (b3 (j8 ?_) d9))))))
 all_goals (rfl)
theorem a6p (x:Ifc) (hn:x.st.length=0):CtrE (α:=Nat→Option Addr×Nat×Nat) Tryz.prog 151 [.agg [.v (.int .i64 x.ma),.lst 1 (x.st.map Rf.r7),.lst 3 (x.qu.sl.map j5),.lst 2 (x.qu.wa.map j9)]] (λy=>(.shp false [some 4,none] [.v (.int .i64 x.ma),.v (.slice (y 1).1 (y 1).2.1 (y 1).2.2),.v (.slice (y 2).1 (y 2).2.1 (y 2).2.2),.v (.slice (y 3).1 (y 3).2.1 (y 3).2.2),.v (.int .i64 (-1))])):=by
 refine CtrE.of (n:=41) G Tryz.func151 Z a8 Z Z Z (λw0=>?_)
 refine c5U 0 Z (λ_=>Z) (λu0=>?_)
 refine vm1 ?_
 refine vm9 ?_
 refine zcd (λh1=>?_) (λh1=>?_)
 ·refine zgo ?_
  refine d8 (c5b (u0) (o8 Z Z Z Z (b3 (j8 ?_) (b3 (b2s ?_) (b3 (b2s ?_) (b3 (b2s ?_) (b3 (j8 ?_) d9)))))))
  all_goals (rfl)
 exfalso;omega
theorem a4I (m:Mach) (sk sq sc sv:Int) (hM:MaG m) (hv:V9 m.cp.length ⟨sk,sq,sc,sv⟩=true) (ho:¬ b00 m ⟨sk,sq,sc,sv⟩):Ctr Tryz.prog 98 [.agg [.lst 2 (m.rs.map q9),.lst 1 (m.en.map m8),.lst 1 (m.ra.map m8),.nst none 4 (m.cp.map (r6 104 76))],.v (.agg ⟨[.int .i64 sk,.int .i64 sq,.int .i64 sc,.int .i64 sv]⟩)] (.shp false [some 4,none,none] [.fr 132 2 ((stM m ⟨sk,sq,sc,sv⟩).1.rs.map q9),.fr 4 1 ((stM m ⟨sk,sq,sc,sv⟩).1.en.map m8),.fr 4 1 ((stM m ⟨sk,sq,sc,sv⟩).1.ra.map m8),.ne 74 4 ((stM m ⟨sk,sq,sc,sv⟩).1.cp.map (r6 104 76)),.v (.int .i64 (stM m ⟨sk,sq,sc,sv⟩).2.1),.v (.bool (stM m ⟨sk,sq,sc,sv⟩).2.2)]):=by
 have f1:=hM.n
 have f2:=hM.en
 have f3:=hM.ra
 have f4:=hM.rn
 refine Ctr.of (n:=107) G Tryz.func98 Z a8 Z Z Z (λw0=>?_)
 refine n8 0 Z (λ_=>Z) (λu0=>?_)
 refine b5w ?_
 refine vm3 ?_
 refine d4 7 Z Z Z (ArgsOK.of Z) (a2r m hM) Z Z ?_
 refine p6 ?_
 refine b4q ?_
 refine zcd (λh1=>?_) (λh1=>?_)
 ·have hq:=c02 hv J
  obtain ⟨q,rfl⟩:∃q:Nat,sq=q:=⟨sq.toNat,by omega⟩
  have hS:=sm1 (m:=m) (sc:=sc) (sv:=sv) (q:=q) h1
  refine c1Q ?_
  refine zgn ?_
  refine s9 (l2 11 [0,1,3,4,5,6,7] mixed a8 Z Z (λr0=>?_) (λ_ h=>h))
  refine a06 ?_
  refine a8r ?_
  refine zsa 7 ?_
  refine b7 (rs:=[8]) a8 Z (AllB.cons ?_ AllB.nil)
  refine g9 [0,1,3,4,5,6,7] Z Z ?_
  refine N8 ?_
  refine zsa 9 ?_
  refine zsa 10 ?_
  refine F3 ?_
  exact b6F
 refine zcd (λh2=>?_) (λh2=>?_)
 ·have hS:=sm2 (m:=m) (sq:=sq) (sc:=sc) (sv:=sv) h2
  refine vm3 ?_
  refine d4 12 Z Z Z (ArgsOK.of Z) (b0J m hM) Z Z ?_
  refine zgo ?_
  exact b6F
 refine zcd (λh3=>?_) (λh3=>?_)
 ·have hc:=b2C hv J
  obtain ⟨c,rfl⟩:∃c:Nat,sc=c:=⟨sc.toNat,by omega⟩
  obtain ⟨g1,g2,g3⟩:=hM.lens (k:=c) J
  have hIG:=hM.ok c J
  have hk:=c9F ho h3
  have hS:=sm3 (m:=m) (sq:=sq) (sv:=sv) (c:=c) h3 hk
  have hbd:=b21 hIG hk
  refine vm3 ?_
  refine d4 11 Z Z Z (ArgsOK.of Z) (a4H (m.cp.getD c default) hIG.f hk) Z Z ?_
  exact c4E
 refine zcd (λh4=>?_) (λh4=>?_)
 ·have hc:=b2C hv J
  obtain ⟨c,rfl⟩:∃c:Nat,sc=c:=⟨sc.toNat,by omega⟩
  obtain ⟨g1,g2,g3⟩:=hM.lens (k:=c) J
  have hIG:=hM.ok c J
  have hk:=c9G ho h4
  have hS:=sm4 (m:=m) (sq:=sq) (sv:=sv) (c:=c) h4 hk
  have hbd:=b0z hIG hk
  refine vm3 ?_
  refine d4 11 Z Z Z (ArgsOK.of Z) (a9i (m.cp.getD c default) hIG hk) Z Z ?_
  exact c4E
 refine zcd (λh5=>?_) (λh5=>?_)
 ·have hc:=b2C hv J
  obtain ⟨c,rfl⟩:∃c:Nat,sc=c:=⟨sc.toNat,by omega⟩
  obtain ⟨g1,g2,g3⟩:=hM.lens (k:=c) J
  have hIG:=hM.ok c J
  have hS:=sm5 (m:=m) (sq:=sq) (sv:=sv) (c:=c) h5
  refine s9 (J6 (Gh.open (id:=6) (i:=c) (k:=1) 9 Z Z (c5V J) Z Z) (J6 (Gh.open (id:=6) (i:=c) (k:=2) 10 Z Z (a3x N0 Z) Z Z) (J6 (Gh.open (id:=6) (i:=c) (k:=3) 11 Z Z (a3x N0 Z) Z Z) ?_)))
  refine vm8 ?_
  refine b5 Z Z (U4 G Z Z Z Z (a3x N0 Z) Z (.v (.own a7y (.own a7y (.own a7y .nil))))) ?_
  refine p6 ?_
  refine c0a ?_
  refine zgn ?_
  refine zgn ?_
  refine s9 (J6 (Gh.detach (id:=6) Z) (J6 (Gh.detach (id:=6) Z) (J6 (Gh.detach (id:=6) Z) ?_)))
  exact c8Q
 have hk:=c7z hv
 have hq:=c02 hv J
 obtain ⟨q,rfl⟩:∃q:Nat,sq=q:=⟨sq.toNat,by omega⟩
 have hS:=sm6 (m:=m) (sk:=sk) (sc:=sc) (sv:=sv) (q:=q) J
 refine c1Q ?_
 refine zgo ?_
 exact b6F
theorem a16 (m:Mach) (sk sq sc sv:Int) (hM:MaG m) (hv:V9 m.cp.length ⟨sk,sq,sc,sv⟩=true) (ho:b00 m ⟨sk,sq,sc,sv⟩):Ctr Tryz.prog 98 [.agg [.lst 2 (m.rs.map q9),.lst 1 (m.en.map m8),.lst 1 (m.ra.map m8),.nst none 4 (m.cp.map (r6 104 76))],.v (.agg ⟨[.int .i64 sk,.int .i64 sq,.int .i64 sc,.int .i64 sv]⟩)] (.shp false [some 4,none,none] [.fr 132 2 (m.rs.map q9),.fr 4 1 (m.en.map m8),.fr 4 1 (m.ra.map m8),.ne 74 4 (m.cp.map a8m),.v (.int .i64 (-1)),.v (.bool false)]):=by
 have f1:=hM.n
 have f2:=hM.en
 have f3:=hM.ra
 have f4:=hM.rn
 refine Ctr.of (n:=107) G Tryz.func98 Z a8 Z Z Z (λw0=>?_)
 refine n8 0 Z (λ_=>Z) (λu0=>?_)
 refine b5w ?_
 refine vm3 ?_
 refine d4 7 Z Z Z (ArgsOK.of Z) (a2r m hM) Z Z ?_
 refine p6 ?_
 refine b4q ?_
 refine zcd (λh1=>?_) (λh1=>?_)
 ·exact absurd (b5q ho) J
 refine zcd (λh2=>?_) (λh2=>?_)
 ·exact absurd (b5q ho) J
 refine zcd (λh3=>?_) (λh3=>?_)
 ·have hc:=b2C hv J
  obtain ⟨c,rfl⟩:∃c:Nat,sc=c:=⟨sc.toNat,by omega⟩
  obtain ⟨g1,g2,g3⟩:=hM.lens (k:=c) J
  have hIG:=hM.ok c J
  have hk:=c5J ho h3
  refine vm3 ?_
  refine d4 11 Z Z Z (ArgsOK.of Z) (a15 (m.cp.getD c default) hIG.f hk) Z Z ?_
  refine vm3 ?_
  refine c0a ?_
  refine c8w ?_
  exact c3F
 refine zcd (λh4=>?_) (λh4=>?_)
 ·have hc:=b2C hv J
  obtain ⟨c,rfl⟩:∃c:Nat,sc=c:=⟨sc.toNat,by omega⟩
  obtain ⟨g1,g2,g3⟩:=hM.lens (k:=c) J
  have hIG:=hM.ok c J
  have hk:=c5K ho h4
  refine zgo ?_
  refine a7 Z (b0c 8 Z Z Z (ArgsOK.of Z) (a6p (m.cp.getD c default) hk) (λ_=>Z) Z (λy1=>?_))
  refine vm3 ?_
  refine d7 G 9 Z Z Z Z Z ?_
  refine vm8 ?_
  first | refine r8 G Z Z Z Z Z (A1 J J) Z Z (.v Z (.v Z (.v Z (.v Z .nil)))) Z Z Z (Nat.le_of_ble_eq_true Z) (λq h=>by cases h) Z ?_ | refine r8 G Z Z Z Z Z (A7 J J) Z Z (.v Z (.v Z (.v Z (.v Z .nil)))) Z Z Z (Nat.le_of_ble_eq_true Z) (λq h=>by cases h) Z ?_ | refine r8 G Z Z Z Z Z (a3x N0 Z) Z Z (.v Z (.v Z (.v Z (.v Z .nil)))) Z Z Z (Nat.le_of_ble_eq_true Z) (λq h=>by cases h) Z ?_
  exact c3F
 exact absurd (b5q ho) J
theorem a5M (a b:Int):Ctr Tryz.prog 62 [.v (.int .i64 a),.v (.int .i64 b)] (.one (.v (.int .i64 (max a b)))):=by
 refine Ctr.of (n:=10) G Tryz.func62 Z a8 Z Z Z (λw0=>?_)
 exact c30
theorem a4J (sl:List Slot) (irq p:Int) (hl:sl.length<=1048576):Ctr Tryz.prog 256 [.lst 3 (sl.map j5),.v (.int .i64 irq),.v (.int .i64 p)] (.many [.fr 104 3 ((ptG sl irq p).1.map j5),.v (.bool (ptG sl irq p).2)]):=by
 have hf:=@a1q sl irq
 have hg:=@b42 sl
 refine Ctr.of (n:=39) G Tryz.func256 Z a8 Z Z Z (λw0=>?_)
 refine zcl (F0 sl irq hl) ?_
 refine zcd (λh1=>?_) (λh1=>?_)
 ·have hG:=c78 (p:=p) h1
  refine a4y ?_
  refine zcd (λh2=>?_) (λh2=>?_)
  ·exact c4x
  exact c4x
 refine zcl (a2q sl hl) ?_
 refine zcd (λh3=>?_) (λh3=>?_)
 ·have hG:=c8a (p:=p) J h3
  refine b01 ?_
  exact c6Q
 have hG:=c79 (p:=p) (show p7 sl irq < 0 by omega) (show 0<=freS sl by omega)
 refine c6I ?_
 exact c6Q
theorem a4K (sl:List Slot) (irq:Int) (hl:sl.length<=1048576):Ctr Tryz.prog 254 [.lst 3 (sl.map j5),.v (.int .i64 irq)] (.many [.fr 104 3 ((edG sl irq).1.map j5),.v (.bool (edG sl irq).2)]):=by
 have hf:=@a1q sl irq
 refine Ctr.of (n:=41) G Tryz.func254 Z a8 Z Z Z (λw0=>?_)
 refine zcl (F0 sl irq hl) ?_
 refine zcd (λh1=>?_) (λh1=>?_)
 ·have hG:=b9I (sl:=sl) (irq:=irq) (.inl h1)
  refine zwt ?_
  exact c4C
 refine zcd (λh2=>?_) (λh2=>?_)
 ·have hG:=b9I (sl:=sl) (irq:=irq) (.inr h2)
  exact c4C
 refine zcd (λh3=>?_) (λh3=>?_)
 ·have hG:=c8b (sl:=sl) (irq:=irq) J h3
  refine c6I ?_
  exact c6W
 have hG:=c8c (sl:=sl) (irq:=irq) J h2 h3
 refine a4y ?_
 refine c1U ?_
 exact c6W
theorem a9k (sl:List Slot) (lim:Int) (hl:sl.length<=1048576):CtrM Tryz.prog 253 [.own 0,.v (.int .i64 lim)] [.row 104 3 (sl.map j5)] (.many [.fr 104 3 ((tkA sl lim).1.map j5),.v (.int .i64 (tkA sl lim).2)]) [none]:=by
 have hb:=@a04 sl true
 refine CtrM.of (n:=33) (k:=1) G Tryz.func253 Z a8 Z Z Z Z Z Z Z (λw0 _ hpin=>?_)
 refine zcl (a0Q sl hl) ?_
 refine zcd (λh1=>?_) (λh1=>?_)
 ·have hG:=b9J (sl:=sl) (lim:=lim) (a5d.mpr J)
  refine zwt ?_
  refine zgo ?_
  exact c0l
 refine zgo ?_
 refine a0k ?_
 refine c1T ?_
 refine a0k ?_
 refine c10 ?_
 refine a0k ?_
 refine b5 Z Z (f8 G Z Z Z Z Z (A7 J J) Z) ?_
 refine zcd (λh2=>?_) (λh2=>?_)
 ·have hG:=b9J (sl:=sl) (lim:=lim) (a5d.mpr J)
  refine zgo ?_
  exact c0l
 have hG:=c2L (sl:=sl) (lim:=lim) (L9.mpr J)
 refine vm3 ?_
 refine c1T ?_
 refine p6 ?_
 refine b5 Z Z (f6 G Z Z Z Z (A7 J J) Z) ?_
 refine vm9 ?_
 refine zgn ?_
 refine zgn ?_
 refine s9 (l2 8 [0,1] mixed a8 Z Z (λr0=>?_) (λ_ h=>h))
 refine b7F ?_
 refine zsa 5 ?_
 refine b7 (rs:=[3]) a8 Z (AllB.cons ?_ AllB.nil)
 refine g9 [0,1] Z Z (d4 3 Z Z Z (ArgsOK.of Z) (N5 sl _ ⟨_,_,_⟩ hl J) Z Z (b4 ⟨Z,?_⟩))
 refine zsa 6 ?_
 refine zsa 7 ?_
 refine F3 ?_
 exact c0l
theorem a9l (q:Que) (irq:Int) (hF:QF q) (hn:¬ (0<=p7 q.sl irq/\R7 (q.sl.getD (p7 q.sl irq).toNat default)=true)):Ctr Tryz.prog 201 [.agg [.lst 3 (q.sl.map j5),.lst 2 (q.wa.map j9)],.v (.int .i64 irq)] (.shp false [some 2,none] [.fr 104 3 ((⟨[],[]⟩:Que).sl.map j5),.fr 76 2 ((⟨[],[]⟩:Que).wa.map j9),.v (.bool false)]):=by
 have hl4:=hF.sl.len
 refine Ctr.of (n:=23) G Tryz.func201 Z a8 Z Z Z (λw0=>?_)
 refine n8 0 Z (λ_=>Z) (λu0=>?_)
 refine vm1 ?_
 refine vm9 ?_
 refine vm3 ?_
 refine d4 3 Z Z Z (ArgsOK.of Z) (Ctr.eq (a4K q.sl irq J) (b9K hF hn)) Z Z ?_
 refine zwt ?_
 refine zgo ?_
 refine d8 (o8 Z Z Z Z (b3 (H8 ?_) (b3 (H8 ?_) (b3 (j8 ?_) d9))))
 all_goals (rfl)
theorem a0l (q:Que) (irq:Int) (hF:QF q):Ctr Tryz.prog 201 [.agg [.lst 3 (q.sl.map j5),.lst 2 (q.wa.map j9)],.v (.int .i64 irq)] (.shp false [some 2,none] [.fr 104 3 ((enG q irq).1.sl.map j5),.fr 76 2 ((enG q irq).1.wa.map j9),.v (.bool (enG q irq).2)]):=by
 by_cases h:0<=p7 q.sl irq/\R7 (q.sl.getD (p7 q.sl irq).toNat default)=true
 ·rw [c2O h.1 h.2];exact a3K q irq hF h.1 h.2
 rw [c2P h];exact a9l q irq hF h
theorem a7F (q:Que) (lim:Int) (hF:QF q):Ctr Tryz.prog 198 [.agg [.lst 3 (q.sl.map j5),.lst 2 (q.wa.map j9)],.v (.int .i64 lim)] (.shp false [some 2,none] [.fr 104 3 ((tkQ q lim).1.sl.map j5),.fr 76 2 ((tkQ q lim).1.wa.map j9),.v (.int .i64 (tkQ q lim).2)]):=by
 cases h:a0d q.sl lim
 ·rw [c2N h];exact a2Z q lim hF h
 rw [c2M h];exact a5L q lim hF h
theorem a6j (x:Ifc) (hF:IfF x):Ctr Tryz.prog 150 [.agg [.v (.int .i64 x.ma),.lst 1 (x.st.map Rf.r7),.lst 3 (x.qu.sl.map j5),.lst 2 (x.qu.wa.map j9)]] (.shp false [some 4,none] [.v (.int .i64 (tkX x).1.ma),.fr 3 1 ((tkX x).1.st.map Rf.r7),.fr 104 3 ((tkX x).1.qu.sl.map j5),.fr 76 2 ((tkX x).1.qu.wa.map j9),.v (.int .i64 (tkX x).2)]):=by
 cases h:okT x
 ·rw [c2R h];exact a15 x hF h
 rw [c2Q h];exact a4H x hF h
theorem a7G (x:Ifc) (hG:IfG x):CtrM Tryz.prog 151 [.agg [.v (.int .i64 x.ma),.own 0,.own 1,.own 2]] [.row 3 1 (x.st.map Rf.r7),.row 104 3 (x.qu.sl.map j5),.row 76 2 (x.qu.wa.map j9)] (.shp false [some 4,none] [.v (.int .i64 (lvX x).1.ma),.fr 3 1 ((lvX x).1.st.map Rf.r7),.fr 104 3 ((lvX x).1.qu.sl.map j5),.fr 76 2 ((lvX x).1.qu.wa.map j9),.v (.int .i64 (lvX x).2)]) [none,none,none]:=by
 have hl4:=hG.f.qu.sl.len
 have hwn:=hG.f.qu.wn
 have hsn:=hG.f.sn
 refine CtrM.of (n:=41) (k:=3) G Tryz.func151 Z a8 Z Z Z Z Z Z Z (λw0 _ hpin=>?_)
 refine vm3 ?_
 refine B3 4 Z Z Z Z Z Z Z ?_
 refine p6 ?_
 refine b7E ?_
 refine zcd (λh1=>?_) (λh1=>?_)
 ·have hG0:=c2T (x:=x) J
  refine zgo ?_
  exact c3H
 have hn0:¬ x.st.length=0:=J
 have hG0:=c2S hn0
 obtain ⟨hla,hlb⟩:=b9x hG hn0
 have hls:=a8n hn0
 refine zgn ?_
 refine s9 (l2 15 [0,1,2,3,4] mixed a8 Z Z (λr0=>?_) (λ_ h=>h))
 refine c1R ?_
 refine d5 6 Z a8 a8 Z Z Z Z (c7 G Z Z Z Z Z J T6) (d5 7 Z a8 a8 Z Z Z Z (f8 G Z Z Z Z Z (A7 J J) Z) (A9 (N:=6) Z (s7 (fuel:=6) [⟨12,5,5,true,.box (avR [.slice none 0 0,.slice none 0 0] [])⟩] (AllVOK.cons (VOK.boxS G Z Z Z Z Z) (AllVOK.nil)) (λhok=>?_))))
 refine n6 [(8,[])] a8 a8 (λe he=>hok e he) a8 (AllVS.cons ?_ AllVS.nil)
 refine VStep.mk0 [0,1,2,3,4] Z Z (λb1 _ hbn=>d4 8 Z Z Z (ArgsOK.of Z) (a3K x.qu _ hG.f.qu (by rw [hls];exact hla) (by rw [hls];exact hlb)) Z Z (b4 Z)) a8 a8 a8 a8 (v7 9 Z a8 Z Z Z Z (b9 Z Z) a8 a8 a8 (v7 10 Z a8 Z Z Z Z (i1 Z Z Z) a8 a8 a8 (v7 11 Z a8 Z Z Z Z (i1 Z Z Z) a8 a8 a8 (n6 [(13,[12])] a8 a8 (λe he=>hok e he) a8 (AllVS.cons ?_ AllVS.nil)))))
 refine VStep.mk1 [0,1,2,3,4] 5 (.ptr 5 0) 5 (.box (avR [.slice none 0 0,.slice none 0 0] [])) [] Z Z Z Z Z (λb1 _ hbn=>e9 G Z Z Z Z Z Z Z Z Z Z Z (b4 Z)) a8 a8 a8 a8 (G0 ?_)
 clear hok
 refine zsa 14 ?_
 refine F3 ?_
 refine s9 (l2 18 [0,1,2,3,5,6,7] mixed a8 Z Z (λr0=>?_) (λ_ h=>h))
 refine c1R ?_
 refine d5 6 Z a8 a8 Z Z Z Z (a4W G Z Z Z Z Z Z J b17 b17) ?_
 refine c8G ?_
 refine d5 14 Z a8 a8 Z Z Z Z (c7 G Z Z Z Z Z J T6) (d5 15 Z a8 a8 Z Z Z Z (f8 G Z Z Z Z Z (A7 J J) Z) (b7 (rs:=[7]) a8 Z (AllB.cons ?_ AllB.nil)))
 refine g9 [0,1,2,3,5,6,7] Z Z (d4 9 Z Z Z (ArgsOK.sub1 Z Z T6 b0y) (H6 (x.st.take (x.st.length - 1)) b6E) Z Z (b4 ⟨Z,?_⟩))
 refine b7 (rs:=[9]) a8 Z (AllB.cons ?_ AllB.nil)
 refine g9 [0,1,2,3,5,6,7] Z Z ?_
 refine N8 ?_
 refine b7 (rs:=[16]) a8 Z (AllB.cons ?_ AllB.nil)
 refine g9 [0,1,2,3,5,6,7] Z Z ?_
 refine N8 ?_
 refine zsa 17 ?_
 refine F3 ?_
 exact c3H
theorem a8v {x:Cur} {n:Int} (h:okC n x) (hn:n<=900000000000):CtrX (α:=Int×Cur) Tryz.prog 204 [.ptr 0 0] [.box [.lst 1 (x.c.map B4),.v (.int .i64 x.a),.v (.int .u64 x.s)]] (λy=>(True)/\okC (n+4) y.2) (λy=>.one (.v (.int .i64 y.1))) (λy=>[some (.box [.lst 1 (y.2.c.map B4),.v (.int .i64 y.2.a),.v (.int .u64 y.2.s)])]):=by
 refine CtrX.of (n:=10) (k:=1) G Tryz.func204 Z a8 Z Z Z Z (λ_=>Z) Z Z (λw0 _ hpin=>?_)
 refine zgo ?_
 refine a7 Z (d6 1 [0] Z Z Z (a4B h J (20)) Z (RowsIn.cons Z RowsIn.nil) Z (λ_=>Z) Z (λx1 ⟨hv1,hc1⟩=>?_))
 refine zcd (λh1=>?_) (λh1=>?_)
 ·refine zgo ?_
  refine a7 Z (m5 G 2 Z Z Z Z Z Z Z Z (a7 Z (d6 2 [0,1] Z Z Z (I4 hc1 J [-1,8] (-1) (8) (by decide) (by decide)) Z (RowsIn.cons Z (RowsIn.cons Z RowsIn.nil)) Z (λ_=>Z) Z (λx2 ⟨hv2,hc2⟩=>?_))))
  refine zgo ?_
  refine d8 (A2 ((_,⟨_,_,_⟩)) (n9 Z (j8 Z) Z (AftOK.stays Z Z Z AftOK.nil)) ⟨?_,?_⟩)
  all_goals (try rcases x1 with ⟨_,_⟩)
  all_goals (try rcases x2 with ⟨_,_⟩)
  all_goals (try dsimp only at *)
  all_goals (first | trivial | exact hc2.mono J | omega)
 refine zgo ?_
 refine a7 Z (d6 1 [0] Z Z Z (p9 hc1 J (8)) Z (RowsIn.cons Z RowsIn.nil) Z (λ_=>Z) Z (λx3 ⟨hv3,hc3⟩=>?_))
 refine zgo ?_
 refine d8 (A2 ((_,⟨_,_,_⟩)) (n9 Z (j8 Z) Z (AftOK.stays Z Z Z AftOK.nil)) ⟨?_,?_⟩)
 all_goals (try rcases x1 with ⟨_,_⟩)
 all_goals (try rcases x2 with ⟨_,_⟩)
 all_goals (try rcases x3 with ⟨_,_⟩)
 all_goals (try dsimp only at *)
 all_goals (first | trivial | exact hc3.mono J | omega)
theorem a7H {x:Cur} {n:Int} (h:okC n x) (hn:n<=900000000000):CtrX (α:=Int×Cur) Tryz.prog 205 [.ptr 0 0] [.box [.lst 1 (x.c.map B4),.v (.int .i64 x.a),.v (.int .u64 x.s)]] (λy=>(True)/\okC (n+2) y.2) (λy=>.one (.v (.int .i64 y.1))) (λy=>[some (.box [.lst 1 (y.2.c.map B4),.v (.int .i64 y.2.a),.v (.int .u64 y.2.s)])]):=by
 refine CtrX.of (n:=6) (k:=1) G Tryz.func205 Z a8 Z Z Z Z (λ_=>Z) Z Z (λw0 _ hpin=>?_)
 refine zgo ?_
 refine a7 Z (m5 G 2 Z Z Z Z Z Z Z Z (a7 Z (d6 2 [0,1] Z Z Z (I4 h J [0,1,2,3,5,8,15,4,4,7,12,16,-1,6] (-1) (16) (by decide) (by decide)) Z (RowsIn.cons Z (RowsIn.cons Z RowsIn.nil)) Z (λ_=>Z) Z (λx1 ⟨hv1,hc1⟩=>?_))))
 refine zgo ?_
 refine d8 (A2 ((_,⟨_,_,_⟩)) (n9 Z (j8 Z) Z (AftOK.stays Z Z Z AftOK.nil)) ⟨?_,?_⟩)
 all_goals (try rcases x1 with ⟨_,_⟩)
 all_goals (try dsimp only at *)
 all_goals (first | trivial | exact hc1.mono J | omega)
theorem a6q {x:Cur} {n:Int} (h:okC n x) (hn:n<=900000000000):CtrX (α:=List Slot×Cur) Tryz.prog 203 [.ptr 0 0] [.box [.lst 1 (x.c.map B4),.v (.int .i64 x.a),.v (.int .u64 x.s)]] (λy=>(y.1.length<=5)/\okC (n+100) y.2) (λy=>.one (.fr 104 3 (y.1.map j5))) (λy=>[some (.box [.lst 1 (y.2.c.map B4),.v (.int .i64 y.2.a),.v (.int .u64 y.2.s)])]):=by
 refine CtrX.of (n:=88) (k:=1) G Tryz.func203 Z a8 Z Z Z Z (λ_=>Z) Z Z (λw0 _ hpin=>?_)
 refine vm3 ?_
 refine b3b ?_
 refine zgo ?_
 refine a7 Z (d6 2 [0] Z Z Z (p9 h J (9)) Z (RowsIn.cons Z RowsIn.nil) Z (λ_=>Z) Z (λx1 ⟨hv1,hc1⟩=>?_))
 refine zgo ?_
 refine i7 [0] [] (λ(z:Nat×Cur×List Slot)=>[(3,.own 1),(4,.v (.int .i64 (x1.1 - z.1)))]) (λ(z:Nat×Cur×List Slot)=>[(0,some (.box [.lst 1 (z.2.1.c.map B4),.v (.int .i64 z.2.1.a),.v (.int .u64 z.2.1.s)])),(1,some (.row 104 3 (z.2.2.map j5)))]) (λ(z:Nat×Cur×List Slot)=>(z.1:Int)<=x1.1/\(z.2.2.length=4)/\okC (n+2+8 * z.1) z.2.1) (λ(z:Nat×Cur×List Slot)=>x1.1.toNat - z.1) (0,x1.2,[zSl,zSl,zSl,zSl]) Z Z ?_ ?_ ?_ ?_
 ·exact ⟨hv1.1,Z,hc1.mono (by simp)⟩
 ·exact b6G
 ·exact b3e
 intro z hinv
 obtain ⟨hz1,hz2,hz⟩:=hinv
 refine vm2 ?_
 refine zcd (λh1=>?_) (λh1=>?_)
 ·refine zgo ?_
  refine a7 Z (d6 2 [0] Z Z Z (p9 hz J (4)) Z (RowsIn.cons Z RowsIn.nil) Z (λ_=>Z) Z (λx2 ⟨hv2,hc2⟩=>?_))
  refine zcd (λh2=>?_) (λh2=>?_)
  ·refine zwt ?_
   refine zgo ?_
   refine a7 Z (d6 2 [0] Z Z Z (p9 hc2 J (8)) Z (RowsIn.cons Z RowsIn.nil) Z (λ_=>Z) Z (λx3 ⟨hv3,hc3⟩=>?_))
   refine zgo ?_
   refine a7 Z (d6 2 [0] Z Z Z (p9 hc3 J (8)) Z (RowsIn.cons Z RowsIn.nil) Z (λ_=>Z) Z (λx4 ⟨hv4,hc4⟩=>?_))
   refine p6 ?_
   refine d4 3 Z Z Z (ArgsOK.of Z) (a4J z.2.2 _ _ J) Z Z ?_
   refine zcd (λh3=>?_) (λh3=>?_)
   ·refine zgn ?_
    refine a2m ?_
    refine r9 (Gh.sub 2 1 A4 Z Z Z) (b4 ⟨(z.1+1,x4.2,(ptG z.2.2 x3.1 x4.1).1),?_,?_,⟨⟨_,Z,by (first | rfl | exact congrArg (λv=>AV.v (.int .i64 v)) E0)⟩,Z,⟨⟨_,Z,by (first | rfl | exact congrArg (λv=>AV.v (.int .i64 v)) E0)⟩,Z,trivial⟩⟩,⟨⟨_,Z,by rfl⟩,Z,Z,⟨⟨_,Z,by rfl⟩,Z,Z,trivial⟩⟩,Z,Z,Z⟩)
    ·exact c9k
    exact Y0
   refine zgo ?_
   refine ⟨(z.1+1,x4.2,z.2.2),?_,?_,⟨⟨_,Z,by (first | rfl | exact congrArg (λv=>AV.v (.int .i64 v)) E0)⟩,Z,⟨⟨_,Z,by (first | rfl | exact congrArg (λv=>AV.v (.int .i64 v)) E0)⟩,Z,trivial⟩⟩,⟨⟨_,Z,by rfl⟩,Z,Z,⟨⟨_,Z,by rfl⟩,Z,Z,trivial⟩⟩,Z,Z,Z⟩
   ·exact c9k
   exact Y0
  refine zcd (λh4=>?_) (λh4=>?_)
  ·refine zgo ?_
   refine a7 Z (d6 2 [0] Z Z Z (p9 hc2 J (8)) Z (RowsIn.cons Z RowsIn.nil) Z (λ_=>Z) Z (λx5 ⟨hv5,hc5⟩=>?_))
   refine zgo ?_
   refine a7 Z (d6 2 [0] Z Z Z (p9 hc5 J (8)) Z (RowsIn.cons Z RowsIn.nil) Z (λ_=>Z) Z (λx6 ⟨hv6,hc6⟩=>?_))
   refine p6 ?_
   refine d4 3 Z Z Z (ArgsOK.of Z) (a4J z.2.2 _ _ J) Z Z ?_
   refine zcd (λh5=>?_) (λh5=>?_)
   ·refine zgn ?_
    refine a2m ?_
    refine r9 (Gh.sub 2 1 A4 Z Z Z) (b4 ⟨(z.1+1,x6.2,(ptG z.2.2 x5.1 x6.1).1),?_,?_,⟨⟨_,Z,by (first | rfl | exact congrArg (λv=>AV.v (.int .i64 v)) E0)⟩,Z,⟨⟨_,Z,by (first | rfl | exact congrArg (λv=>AV.v (.int .i64 v)) E0)⟩,Z,trivial⟩⟩,⟨⟨_,Z,by rfl⟩,Z,Z,⟨⟨_,Z,by rfl⟩,Z,Z,trivial⟩⟩,Z,Z,Z⟩)
    ·exact c9l
    exact Y0
   refine zgo ?_
   refine ⟨(z.1+1,x6.2,z.2.2),?_,?_,⟨⟨_,Z,by (first | rfl | exact congrArg (λv=>AV.v (.int .i64 v)) E0)⟩,Z,⟨⟨_,Z,by (first | rfl | exact congrArg (λv=>AV.v (.int .i64 v)) E0)⟩,Z,trivial⟩⟩,⟨⟨_,Z,by rfl⟩,Z,Z,⟨⟨_,Z,by rfl⟩,Z,Z,trivial⟩⟩,Z,Z,Z⟩
   ·exact c9l
   exact Y0
  refine zcd (λh6=>?_) (λh6=>?_)
  ·refine vm3 ?_
   refine L8 3 [1] Z Z Z (a9k z.2.2 16 J) Z (RowsIn.cons Z RowsIn.nil) Z Z Z ?_
   refine zgn ?_
   refine a2m ?_
   refine r9 (Gh.sub 2 1 A4 Z Z Z) (b4 ⟨(z.1+1,x2.2,(tkA z.2.2 16).1),?_,?_,⟨⟨_,Z,by (first | rfl | exact congrArg (λv=>AV.v (.int .i64 v)) E0)⟩,Z,⟨⟨_,Z,by (first | rfl | exact congrArg (λv=>AV.v (.int .i64 v)) E0)⟩,Z,trivial⟩⟩,⟨⟨_,Z,by rfl⟩,Z,Z,⟨⟨_,Z,by rfl⟩,Z,Z,trivial⟩⟩,Z,Z,Z⟩)
   ·exact c9m
   exact Y0
  refine zcd (λh7=>?_) (λh7=>?_)
  ·refine zgo ?_
   refine a7 Z (d6 2 [0] Z Z Z (p9 hc2 J (8)) Z (RowsIn.cons Z RowsIn.nil) Z (λ_=>Z) Z (λx7 ⟨hv7,hc7⟩=>?_))
   refine p6 ?_
   refine d4 3 Z Z Z (ArgsOK.of Z) (a4K z.2.2 _ J) Z Z ?_
   refine zcd (λh8=>?_) (λh8=>?_)
   ·refine zgo ?_
    refine o9 Z Z Z (d6 3 [0] Z Z Z (a4B hc7 J (2)) Z (RowsIn.cons Z RowsIn.nil) Z (λ_=>Z) Z (λx8 ⟨hv8,hc8⟩=>?_))
    refine zcd (λh9=>?_) (λh9=>?_)
    ·refine zgn ?_
     refine a2m ?_
     refine r9 (Gh.sub 2 1 A4 Z Z Z) (b4 ⟨(z.1+1,x8.2,(edG z.2.2 x7.1).1),?_,?_,⟨⟨_,Z,by (first | rfl | exact congrArg (λv=>AV.v (.int .i64 v)) E0)⟩,Z,⟨⟨_,Z,by (first | rfl | exact congrArg (λv=>AV.v (.int .i64 v)) E0)⟩,Z,trivial⟩⟩,⟨⟨_,Z,by rfl⟩,Z,Z,⟨⟨_,Z,by rfl⟩,Z,Z,trivial⟩⟩,Z,Z,Z⟩)
     ·exact c9n
     exact Y0
    refine zgo ?_
    refine ⟨(z.1+1,x8.2,z.2.2),?_,?_,⟨⟨_,Z,by (first | rfl | exact congrArg (λv=>AV.v (.int .i64 v)) E0)⟩,Z,⟨⟨_,Z,by (first | rfl | exact congrArg (λv=>AV.v (.int .i64 v)) E0)⟩,Z,trivial⟩⟩,⟨⟨_,Z,by rfl⟩,Z,Z,⟨⟨_,Z,by rfl⟩,Z,Z,trivial⟩⟩,Z,Z,Z⟩
    ·exact c9n
    exact Y0
   refine zwf ?_
   refine zgo ?_
   refine ⟨(z.1+1,x7.2,z.2.2),?_,?_,⟨⟨_,Z,by (first | rfl | exact congrArg (λv=>AV.v (.int .i64 v)) E0)⟩,Z,⟨⟨_,Z,by (first | rfl | exact congrArg (λv=>AV.v (.int .i64 v)) E0)⟩,Z,trivial⟩⟩,⟨⟨_,Z,by rfl⟩,Z,Z,⟨⟨_,Z,by rfl⟩,Z,Z,trivial⟩⟩,Z,Z,Z⟩
   ·first | exact ⟨by show ((z.1+1:Nat):Int)<=x1.1;omega,hz2,hc7.mono m7⟩ | exact ⟨by show ((z.1+1:Nat):Int)<=x1.1;omega,(a7s j7).trans hz2,hc7.mono m7⟩ | exact ⟨by show ((z.1+1:Nat):Int)<=x1.1;omega,a7u.trans hz2,hc7.mono m7⟩ | exact ⟨by show ((z.1+1:Nat):Int)<=x1.1;omega,(a7t j7).trans hz2,hc7.mono m7⟩
   exact Y0
  refine zgo ?_
  refine ⟨(z.1+1,x2.2,z.2.2),?_,?_,⟨⟨_,Z,by (first | rfl | exact congrArg (λv=>AV.v (.int .i64 v)) E0)⟩,Z,⟨⟨_,Z,by (first | rfl | exact congrArg (λv=>AV.v (.int .i64 v)) E0)⟩,Z,trivial⟩⟩,⟨⟨_,Z,by rfl⟩,Z,Z,⟨⟨_,Z,by rfl⟩,Z,Z,trivial⟩⟩,Z,Z,Z⟩
  ·exact c9m
  exact Y0
 refine zgo ?_
 refine a7 Z (d6 2 [0] Z Z Z (p9 hz J (24)) Z (RowsIn.cons Z RowsIn.nil) Z (λ_=>Z) Z (λx9 ⟨hv9,hc9⟩=>?_))
 refine zcd (λh10=>?_) (λh10=>?_)
 ·refine zgo ?_
  refine a7 Z (d6 2 [0] Z Z Z (p9 hc9 J (4)) Z (RowsIn.cons Z RowsIn.nil) Z (λ_=>Z) Z (λx10 ⟨hv10,hc10⟩=>?_))
  refine zgo ?_
  refine a7 Z (m5 G 3 Z Z Z Z Z Z Z Z (a7 Z (d6 3 [0,2] Z Z Z (I4 hc10 J [-1,4,1] (-1) (4) (by decide) (by decide)) Z (RowsIn.cons Z (RowsIn.cons Z RowsIn.nil)) Z (λ_=>Z) Z (λx11 ⟨hv11,hc11⟩=>?_))))
  refine zgo ?_
  refine a7 Z (m5 G 4 Z Z Z Z Z Z Z Z (a7 Z (d6 4 [0,3] Z Z Z (I4 hc11 J [-1,7,8] (-1) (8) (by decide) (by decide)) Z (RowsIn.cons Z (RowsIn.cons Z RowsIn.nil)) Z (λ_=>Z) Z (λx12 ⟨hv12,hc12⟩=>?_))))
  refine zgo ?_
  refine a7 Z (m5 G 5 Z Z Z Z Z Z Z Z (a7 Z (d6 5 [0,4] Z Z Z (I4 hc12 J [-1,15,16] (-1) (16) (by decide) (by decide)) Z (RowsIn.cons Z (RowsIn.cons Z RowsIn.nil)) Z (λ_=>Z) Z (λx13 ⟨hv13,hc13⟩=>?_))))
  refine c8M ?_
  refine d8 (A2 ((z.2.2.set x10.1.toNat ⟨x11.1,x12.1,x13.1⟩,x13.2)) (n9 Z (c8 Z ?_) Z (AftOK.stays Z ?_ Z AftOK.nil)) (⟨?_,?_⟩))
  all_goals (first | rfl | exact hc13.mono J | (dsimp only;rw [List.map_set];rfl) | (rw [List.map_append];rfl) | (show List.length _<=5;(try simp only [List.length_set,List.length_append,List.length_cons,List.length_nil]);omega))
 refine zcd (λh11=>?_) (λh11=>?_)
 ·refine b4o ?_
  refine c8J ?_
  refine d8 (A2 ((z.2.2++[zSl],x9.2)) (n9 Z (c8 Z ?_) Z (AftOK.stays Z ?_ Z AftOK.nil)) (⟨?_,?_⟩))
  all_goals exact c6x
 refine zcd (λh12=>?_) (λh12=>?_)
 ·refine c8M ?_
  refine d8 (A2 ((z.2.2.set 3 ⟨0,1,0⟩,x9.2)) (n9 Z (c8 Z ?_) Z (AftOK.stays Z ?_ Z AftOK.nil)) (⟨?_,?_⟩))
  all_goals exact c6x
 refine zgo ?_
 refine d8 (A2 ((z.2.2,x9.2)) (n9 Z (c8 Z ?_) Z (AftOK.stays Z ?_ Z AftOK.nil)) (⟨?_,?_⟩))
 all_goals exact c6x
theorem a1w {x:Cur} {n:Int} (h:okC n x) (hn:n<=890000000000):CtrX (α:=Que×Cur) Tryz.prog 153 [.ptr 0 0] [.box [.lst 1 (x.c.map B4),.v (.int .i64 x.a),.v (.int .u64 x.s)]] (λy=>(y.1.sl.length<=5/\y.1.wa.length<=10)/\okC (n+300) y.2) (λy=>.shp true [some 2] [.fr 104 3 (y.1.sl.map j5),.fr 76 2 (y.1.wa.map j9)]) (λy=>[some (.box [.lst 1 (y.2.c.map B4),.v (.int .i64 y.2.a),.v (.int .u64 y.2.s)])]):=by
 refine CtrX.of (n:=82) (k:=1) G Tryz.func153 Z a8 Z Z Z Z (λ_=>Z) Z Z (λw0 _ hpin=>?_)
 refine b4p ?_
 refine b4o ?_
 refine p6 ?_
 refine c11 ?_
 refine vm3 ?_
 refine b7E ?_
 refine zgo ?_
 refine a7 Z (d6 5 [0] Z Z Z (p9 h J (14)) Z (RowsIn.cons Z RowsIn.nil) Z (λ_=>Z) Z (λx1 ⟨hv1,hc1⟩=>?_))
 refine zgo ?_
 refine i7 [0,2,3] [1] (λ(z:Nat×Cur×Que)=>[(4,.v (.int .i64 (x1.1 - z.1)))]) (λ(z:Nat×Cur×Que)=>[(0,some (.box [.lst 1 (z.2.1.c.map B4),.v (.int .i64 z.2.1.a),.v (.int .u64 z.2.1.s)])),(2,some (.row 104 3 (z.2.2.sl.map j5))),(3,some (.row 76 2 (z.2.2.wa.map j9))),(4,some (.box [.own 2,.own 3]))]) (λ(z:Nat×Cur×Que)=>(z.1:Int)<=x1.1/\(QF z.2.2)/\okC (n+2+6 * z.1) z.2.1) (λ(z:Nat×Cur×Que)=>x1.1.toNat - z.1) (0,x1.2,q0) Z Z ?_ ?_ ?_ ?_
 ·exact ⟨hv1.1,c8d,hc1.mono (by simp)⟩
 ·exact b19
 ·exact ⟨⟨_,Z,by rfl⟩,Z,Z,⟨⟨_,Z,by rfl⟩,Z,Z,⟨⟨_,Z,by rfl⟩,Z,Z,⟨⟨_,Z,by rfl⟩,Z,Z,trivial⟩⟩⟩⟩
 intro z hinv
 obtain ⟨hz1,hz2,hz⟩:=hinv
 have hql:=hz2.sl.len
 have hqw:=hz2.wn8
 refine vm2 ?_
 refine zcd (λh1=>?_) (λh1=>?_)
 ·refine zgo ?_
  refine a7 Z (d6 5 [0] Z Z Z (p9 hz J (5)) Z (RowsIn.cons Z RowsIn.nil) Z (λ_=>Z) Z (λx2 ⟨hv2,hc2⟩=>?_))
  refine zcd (λh2=>?_) (λh2=>?_)
  ·refine zwt ?_
   refine T4 7 [1,2,3,4] [6] mixed a8 Z Z (λr0=>?_) (λ_ h=>h)
   refine v1 0 [5,6] Z a8 a8 a8 Z Z Z Z (d1 G Z Z Z Z Z Z) (v1 1 [2,4,5,6] Z a8 a8 a8 Z Z Z Z (b9 Z Z) (v1 3 [4,5,6] Z a8 a8 a8 Z Z Z Z (b9 Z Z) (w6 2 a8 (B7 [1,2,3,4] Z Z (d6 5 [0] Z Z Z (p9 hc2 J (8)) Z (RowsIn.cons Z RowsIn.nil) Z (λ_=>Z) Z (λx3 ⟨hv3,hc3⟩=>b4 ⟨Z,?_⟩))))))
   refine w6 4 a8 (B7 [1,2,3,4] Z Z (d6 5 [0] Z Z Z (p9 hc3 J (8)) Z (RowsIn.cons Z RowsIn.nil) Z (λ_=>Z) Z (λx4 ⟨hv4,hc4⟩=>b4 ⟨Z,?_⟩)))
   refine w6 5 a8 (B7 [1,2,3,4] Z Z (d4 7 Z Z Z (ArgsOK.of Z) (Y5 z.2.2 _ _ hz2 J J) Z Z (b4 ⟨Z,?_⟩)))
   refine b7D ?_
   refine r9 (Gh.sub 5 2 A4 Z Z Z) (r9 (Gh.sub 6 3 A4 Z Z Z) (b4 ⟨(z.1+1,x4.2,a2Q z.2.2 x3.1 x4.1),?_,?_,⟨⟨_,Z,by (first | rfl | exact congrArg (λv=>AV.v (.int .i64 v)) E0)⟩,Z,trivial⟩,⟨⟨_,Z,by rfl⟩,Z,Z,⟨⟨_,Z,by rfl⟩,Z,Z,⟨⟨_,Z,by rfl⟩,Z,Z,⟨⟨_,Z,by rfl⟩,Z,Z,trivial⟩⟩⟩⟩,Z,Z,Z⟩))
   ·first | exact ⟨by show ((z.1+1:Nat):Int)<=x1.1;omega,(a58 hz2 J J).1,hc4.mono m7⟩ | exact ⟨by show ((z.1+1:Nat):Int)<=x1.1;omega,b13 hz2,hc4.mono m7⟩ | exact ⟨by show ((z.1+1:Nat):Int)<=x1.1;omega,b14 hz2 j7,hc4.mono m7⟩ | exact ⟨by show ((z.1+1:Nat):Int)<=x1.1;omega,hz2,hc4.mono m7⟩
   exact Y0
  refine zcd (λh3=>?_) (λh3=>?_)
  ·refine zwt ?_
   refine T4 7 [1,2,3,4] [6] mixed a8 Z Z (λr0=>?_) (λ_ h=>h)
   refine v1 0 [5,6] Z a8 a8 a8 Z Z Z Z (d1 G Z Z Z Z Z Z) (v1 1 [2,4,5,6] Z a8 a8 a8 Z Z Z Z (b9 Z Z) (v1 3 [4,5,6] Z a8 a8 a8 Z Z Z Z (b9 Z Z) (w6 2 a8 (B7 [1,2,3,4] Z Z (d6 5 [0] Z Z Z (p9 hc2 J (8)) Z (RowsIn.cons Z RowsIn.nil) Z (λ_=>Z) Z (λx5 ⟨hv5,hc5⟩=>b4 ⟨Z,?_⟩))))))
   refine w6 4 a8 (B7 [1,2,3,4] Z Z (d6 5 [0] Z Z Z (p9 hc5 J (8)) Z (RowsIn.cons Z RowsIn.nil) Z (λ_=>Z) Z (λx6 ⟨hv6,hc6⟩=>b4 ⟨Z,?_⟩)))
   refine w6 5 a8 (B7 [1,2,3,4] Z Z (d4 7 Z Z Z (ArgsOK.of Z) (Y5 z.2.2 _ _ hz2 J J) Z Z (b4 ⟨Z,?_⟩)))
   refine b7D ?_
   refine r9 (Gh.sub 5 2 A4 Z Z Z) (r9 (Gh.sub 6 3 A4 Z Z Z) (b4 ⟨(z.1+1,x6.2,a2Q z.2.2 x5.1 x6.1),?_,?_,⟨⟨_,Z,by (first | rfl | exact congrArg (λv=>AV.v (.int .i64 v)) E0)⟩,Z,trivial⟩,⟨⟨_,Z,by rfl⟩,Z,Z,⟨⟨_,Z,by rfl⟩,Z,Z,⟨⟨_,Z,by rfl⟩,Z,Z,⟨⟨_,Z,by rfl⟩,Z,Z,trivial⟩⟩⟩⟩,Z,Z,Z⟩))
   ·first | exact ⟨by show ((z.1+1:Nat):Int)<=x1.1;omega,(a58 hz2 J J).1,hc6.mono m7⟩ | exact ⟨by show ((z.1+1:Nat):Int)<=x1.1;omega,b13 hz2,hc6.mono m7⟩ | exact ⟨by show ((z.1+1:Nat):Int)<=x1.1;omega,b14 hz2 j7,hc6.mono m7⟩ | exact ⟨by show ((z.1+1:Nat):Int)<=x1.1;omega,hz2,hc6.mono m7⟩
   exact Y0
  refine zcd (λh4=>?_) (λh4=>?_)
  ·refine T4 7 [1,2,3,4] [6] mixed a8 Z Z (λr0=>?_) (λ_ h=>h)
   refine v1 0 [5,6] Z a8 a8 a8 Z Z Z Z (d1 G Z Z Z Z Z Z) (v1 1 [2,4,5,6] Z a8 a8 a8 Z Z Z Z (b9 Z Z) (v1 3 [4,5,6] Z a8 a8 a8 Z Z Z Z (b9 Z Z) (w6 2 a8 (B7 [1,2,3,4] Z Z (d6 5 [0] Z Z Z (p9 hc2 J (8)) Z (RowsIn.cons Z RowsIn.nil) Z (λ_=>Z) Z (λx7 ⟨hv7,hc7⟩=>b4 ⟨Z,?_⟩))))))
   refine w6 4 a8 (B7 [1,2,3,4] Z Z (d6 5 [0] Z Z Z (p9 hc7 J (8)) Z (RowsIn.cons Z RowsIn.nil) Z (λ_=>Z) Z (λx8 ⟨hv8,hc8⟩=>b4 ⟨Z,?_⟩)))
   refine w6 5 a8 (B7 [1,2,3,4] Z Z (d4 7 Z Z Z (ArgsOK.of Z) (Y5 z.2.2 _ _ hz2 J J) Z Z (b4 ⟨Z,?_⟩)))
   refine b7D ?_
   refine r9 (Gh.sub 5 2 A4 Z Z Z) (r9 (Gh.sub 6 3 A4 Z Z Z) (b4 ⟨(z.1+1,x8.2,a2Q z.2.2 x7.1 x8.1),?_,?_,⟨⟨_,Z,by (first | rfl | exact congrArg (λv=>AV.v (.int .i64 v)) E0)⟩,Z,trivial⟩,⟨⟨_,Z,by rfl⟩,Z,Z,⟨⟨_,Z,by rfl⟩,Z,Z,⟨⟨_,Z,by rfl⟩,Z,Z,⟨⟨_,Z,by rfl⟩,Z,Z,trivial⟩⟩⟩⟩,Z,Z,Z⟩))
   ·first | exact ⟨by show ((z.1+1:Nat):Int)<=x1.1;omega,(a58 hz2 J J).1,hc8.mono m7⟩ | exact ⟨by show ((z.1+1:Nat):Int)<=x1.1;omega,b13 hz2,hc8.mono m7⟩ | exact ⟨by show ((z.1+1:Nat):Int)<=x1.1;omega,b14 hz2 j7,hc8.mono m7⟩ | exact ⟨by show ((z.1+1:Nat):Int)<=x1.1;omega,hz2,hc8.mono m7⟩
   exact Y0
  refine zcd (λh5=>?_) (λh5=>?_)
  ·refine vm3 ?_
   refine d4 7 Z Z Z (ArgsOK.of Z) (a7F z.2.2 16 hz2) Z Z ?_
   refine zgn ?_
   refine a2m ?_
   refine r9 (Gh.sub 5 2 A4 Z Z Z) (r9 (Gh.sub 6 3 A4 Z Z Z) (b4 ⟨(z.1+1,x2.2,(tkQ z.2.2 16).1),?_,?_,⟨⟨_,Z,by (first | rfl | exact congrArg (λv=>AV.v (.int .i64 v)) E0)⟩,Z,trivial⟩,⟨⟨_,Z,by rfl⟩,Z,Z,⟨⟨_,Z,by rfl⟩,Z,Z,⟨⟨_,Z,by rfl⟩,Z,Z,⟨⟨_,Z,by rfl⟩,Z,Z,trivial⟩⟩⟩⟩,Z,Z,Z⟩))
   ·exact c9p
   exact Y0
  refine zcd (λh6=>?_) (λh6=>?_)
  ·refine s9 (l2 10 [1,2,3,4] mixed a8 Z Z (λr0=>?_) (λ_ h=>h))
   refine zsa 0 ?_
   refine zsa 1 ?_
   refine b7 (rs:=[2,7]) a8 Z (AllB.cons ?_ (AllB.cons ?_ AllB.nil))
   ·refine g9 [1,2,3,4] Z Z (d6 5 [0] Z Z Z (p9 hc2 J (8)) Z (RowsIn.cons Z RowsIn.nil) Z (λ_=>Z) Z (λx9 ⟨hv9,hc9⟩=>b4 ⟨Z,?_⟩))
    refine b7 (rs:=[3,7]) a8 Z (AllB.cons ?_ (AllB.cons ?_ AllB.nil))
    ·refine g9 [1,2,3,4] Z Z (d4 7 Z Z Z (ArgsOK.of Z) (a0l z.2.2 _ hz2) Z Z (b4 ⟨Z,?_⟩))
     refine a8r ?_
     refine b7 (rs:=[7]) a8 Z (AllB.cons ?_ AllB.nil)
     refine g9 [1,2,3,4] Z Z (d7 G 8 Z Z Z Z Z (b4 ⟨Z,?_⟩))
     refine b7 (rs:=[8]) a8 Z (AllB.cons ?_ AllB.nil)
     refine g9 [1,2,3,4] Z Z ?_
     refine N8 ?_
     refine zsa 9 ?_
     refine F3 ?_
     refine zcd (λh7=>?_) (λh7=>?_)
     ·refine zgn ?_
      refine a2m ?_
      refine r9 (Gh.sub 5 2 A4 Z Z Z) (r9 (Gh.sub 6 3 A4 Z Z Z) (b4 ⟨(z.1+1,x9.2,(enG z.2.2 x9.1).1),?_,?_,⟨⟨_,Z,by (first | rfl | exact congrArg (λv=>AV.v (.int .i64 v)) E0)⟩,Z,trivial⟩,⟨⟨_,Z,by rfl⟩,Z,Z,⟨⟨_,Z,by rfl⟩,Z,Z,⟨⟨_,Z,by rfl⟩,Z,Z,⟨⟨_,Z,by rfl⟩,Z,Z,trivial⟩⟩⟩⟩,Z,Z,Z⟩))
      ·exact c6M
      exact Y0
     exact c4l
    refine g9 [1,2,3,4] Z Z (d7 G 6 Z Z Z Z Z (b4 ⟨Z,?_⟩))
    refine b7 (rs:=[3]) a8 Z (AllB.cons ?_ AllB.nil)
    refine g9 [1,2,3,4] Z Z (d4 8 Z Z Z (ArgsOK.of Z) (a0l z.2.2 _ hz2) Z Z (b4 ⟨Z,?_⟩))
    refine a8r ?_
    refine b7 (rs:=[8]) a8 Z (AllB.cons ?_ AllB.nil)
    refine g9 [1,2,3,4] Z Z ?_
    refine N8 ?_
    refine zsa 9 ?_
    refine F3 ?_
    refine zcd (λh8=>?_) (λh8=>?_)
    ·refine zgn ?_
     refine a2m ?_
     refine r9 (Gh.sub 6 2 A4 Z Z Z) (r9 (Gh.sub 7 3 A4 Z Z Z) (b4 ⟨(z.1+1,x9.2,(enG z.2.2 x9.1).1),?_,?_,⟨⟨_,Z,by (first | rfl | exact congrArg (λv=>AV.v (.int .i64 v)) E0)⟩,Z,trivial⟩,⟨⟨_,Z,by rfl⟩,Z,Z,⟨⟨_,Z,by rfl⟩,Z,Z,⟨⟨_,Z,by rfl⟩,Z,Z,⟨⟨_,Z,by rfl⟩,Z,Z,trivial⟩⟩⟩⟩,Z,Z,Z⟩))
     ·exact c6M
     exact Y0
    exact c4l
   refine g9 [1,2,3,4] Z Z (d7 G 6 Z Z Z Z Z (b4 ⟨Z,?_⟩))
   refine b7 (rs:=[2]) a8 Z (AllB.cons ?_ AllB.nil)
   refine g9 [1,2,3,4] Z Z (d6 6 [0] Z Z Z (p9 hc2 J (8)) Z (RowsIn.cons Z RowsIn.nil) Z (λ_=>Z) Z (λx10 ⟨hv10,hc10⟩=>b4 ⟨Z,?_⟩))
   refine b7 (rs:=[3]) a8 Z (AllB.cons ?_ AllB.nil)
   refine g9 [1,2,3,4] Z Z (d4 8 Z Z Z (ArgsOK.of Z) (a0l z.2.2 _ hz2) Z Z (b4 ⟨Z,?_⟩))
   refine a8r ?_
   refine b7 (rs:=[8]) a8 Z (AllB.cons ?_ AllB.nil)
   refine g9 [1,2,3,4] Z Z ?_
   refine N8 ?_
   refine zsa 9 ?_
   refine F3 ?_
   refine zcd (λh9=>?_) (λh9=>?_)
   ·refine zgn ?_
    refine a2m ?_
    refine r9 (Gh.sub 6 2 A4 Z Z Z) (r9 (Gh.sub 7 3 A4 Z Z Z) (b4 ⟨(z.1+1,x10.2,(enG z.2.2 x10.1).1),?_,?_,⟨⟨_,Z,by (first | rfl | exact congrArg (λv=>AV.v (.int .i64 v)) E0)⟩,Z,trivial⟩,⟨⟨_,Z,by rfl⟩,Z,Z,⟨⟨_,Z,by rfl⟩,Z,Z,⟨⟨_,Z,by rfl⟩,Z,Z,⟨⟨_,Z,by rfl⟩,Z,Z,trivial⟩⟩⟩⟩,Z,Z,Z⟩))
    ·exact c9o
    exact Y0
   refine zgo ?_
   refine ⟨(z.1+1,x10.2,z.2.2),?_,?_,⟨⟨_,Z,by (first | rfl | exact congrArg (λv=>AV.v (.int .i64 v)) E0)⟩,Z,trivial⟩,⟨⟨_,Z,by rfl⟩,Z,Z,⟨⟨_,Z,by rfl⟩,Z,Z,⟨⟨_,Z,by rfl⟩,Z,Z,⟨⟨_,Z,by rfl⟩,Z,Z,trivial⟩⟩⟩⟩,Z,Z,Z⟩
   ·exact c9o
   exact Y0
  refine zgo ?_
  refine ⟨(z.1+1,x2.2,z.2.2),?_,?_,⟨⟨_,Z,by (first | rfl | exact congrArg (λv=>AV.v (.int .i64 v)) E0)⟩,Z,trivial⟩,⟨⟨_,Z,by rfl⟩,Z,Z,⟨⟨_,Z,by rfl⟩,Z,Z,⟨⟨_,Z,by rfl⟩,Z,Z,⟨⟨_,Z,by rfl⟩,Z,Z,trivial⟩⟩⟩⟩,Z,Z,Z⟩
  ·exact c9p
  exact Y0
 refine zgo ?_
 refine a7 Z (d6 5 [0] Z Z Z (p9 hz J (24)) Z (RowsIn.cons Z RowsIn.nil) Z (λ_=>Z) Z (λx11 ⟨hv11,hc11⟩=>?_))
 refine zcd (λh10=>?_) (λh10=>?_)
 ·refine zgo ?_
  refine a7 Z (d6 6 [0] Z Z Z (a6q hc11 J) Z (RowsIn.cons Z RowsIn.nil) Z (λ_=>Z) Z (λx12 ⟨hv12,hc12⟩=>?_))
  refine zgo ?_
  refine d8 (A2 ((⟨x12.1,z.2.2.wa⟩,x12.2)) (v6 Z Z Z Z (b3 (c8 Z ?_) (b3 (c8 Z ?_) d9)) Z (AftOK.stays Z ?_ Z AftOK.nil)) (⟨?_,?_⟩))
  all_goals (first | rfl | exact hc12.mono J | (dsimp only;rw [List.map_set];rfl) | (rw [List.map_append];rfl) | (refine ⟨?_,?_⟩<;>(show List.length _<=_;(try simp only [List.length_set,List.length_append,List.length_cons,List.length_nil]);omega)))
 refine zcd (λh11=>?_) (λh11=>?_)
 ·refine T4 11 [1,2,3,4] [8,10] mixed a8 Z Z (λr0=>?_) (λ_ h=>h)
  refine v1 0 [1,8,9,10] Z a8 a8 a8 Z Z Z Z (d3 G Z Z Z Z) (v1 1 [8,9,10] Z a8 a8 a8 Z Z Z Z (f7 G Z Z Z Z Z Z Z) (v1 2 [3,5,6,7,8,9,10] Z a8 a8 a8 Z Z Z Z (b9 Z Z) (v1 4 [5,6,7,8,9,10] Z a8 a8 a8 Z Z Z Z (b9 Z Z) (w6 3 a8 (B7 [1,2,3,4] Z Z (d6 5 [0] Z Z Z (a8v hc11 J) Z (RowsIn.cons Z RowsIn.nil) Z (λ_=>Z) Z (λx13 ⟨hv13,hc13⟩=>b4 ⟨Z,?_⟩)))))))
  refine w6 5 a8 (B7 [1,2,3,4] Z Z (d6 5 [0] Z Z Z (a7H hc13 J) Z (RowsIn.cons Z RowsIn.nil) Z (λ_=>Z) Z (λx14 ⟨hv14,hc14⟩=>b4 ⟨Z,?_⟩)))
  refine v1 6 [7,8,9,10] Z a8 a8 a8 Z Z Z Z (w9 G Z Z Z Z) (w6 7 a8 (B7 [1,2,3,4] Z Z (m5 G 6 Z Z Z Z Z Z Z Z (b4 ⟨Z,?_⟩))))
  refine w6 8 a8 (a6i Z Z a8 (I0 (Gh.forget (id:=4) (k:=1) Z Z)<|I0 (Gh.keep [0,1,2,3,4,5] Z)<|a1n (tx:=60) 7 rfl rfl rfl rfl rfl<|l1 G X9 rfl rfl rfl rfl rfl rfl rfl rfl rfl M8 rfl rfl (b4 ?_)))
  refine w6 9 a8 (a6i Z Z a8 (b5 Z Z (d3 G Z Z Z Z) (b4 (w6 10 a8 ?_))))
  refine c6y ?_
  refine zgo ?_
  refine d8 (A2 ((⟨z.2.2.sl,z.2.2.wa++[⟨x13.1,x14.1⟩]⟩,x14.2)) (v6 Z Z Z Z (b3 (c8 Z ?_) (b3 (c8 Z ?_) d9)) Z (AftOK.stays Z ?_ Z AftOK.nil)) (⟨?_,?_⟩))
  all_goals (first | rfl | exact hc14.mono J | (dsimp only;rw [List.map_set];rfl) | (rw [List.map_append];rfl) | (refine ⟨?_,?_⟩<;>(show List.length _<=_;(try simp only [List.length_set,List.length_append,List.length_cons,List.length_nil]);omega)))
 refine zcd (λh12=>?_) (λh12=>?_)
 ·refine zcd (λh13=>?_) (λh13=>?_)
  ·refine l2 7 [1,3,4] mixed a8 Z Z (λr0=>?_) (λ_ h=>h)
   refine b7F ?_
   refine b7 (rs:=[3]) a8 Z (AllB.cons ?_ AllB.nil)
   refine g9 [1,3,4] Z Z (d6 5 [0] Z Z Z (p9 hc11 J (4)) Z (RowsIn.cons Z RowsIn.nil) Z (λ_=>Z) Z (λx15 ⟨hv15,hc15⟩=>b4 ⟨Z,?_⟩))
   refine b7 (rs:=[5]) a8 Z (AllB.cons ?_ AllB.nil)
   refine g9 [1,3,4] Z Z (b5 Z Z (c7 G Z Z Z Z Z J T6) (b4 ⟨Z,?_⟩))
   refine b7 (rs:=[6]) a8 Z (AllB.cons ?_ AllB.nil)
   refine g9 [1,3,4] Z Z (l8 G Z Z Z Z Z (A7 J J) Z Z Z Z Z (Nat.le_of_ble_eq_true Z) Z (b4 ⟨Z,?_⟩))
   refine F3 ?_
   refine zgo ?_
   refine d8 (A2 ((⟨z.2.2.sl.set x15.1.toNat zSl,z.2.2.wa⟩,x15.2)) (v6 Z Z Z Z (b3 (c8 Z ?_) (b3 (c8 Z ?_) d9)) Z (AftOK.stays Z ?_ Z AftOK.nil)) (⟨?_,?_⟩))
   all_goals (first | rfl | exact hc15.mono J | (dsimp only;rw [List.map_set];rfl) | (rw [List.map_append];rfl) | (refine ⟨?_,?_⟩<;>(show List.length _<=_;(try simp only [List.length_set,List.length_append,List.length_cons,List.length_nil]);omega)))
  refine zgo ?_
  refine d8 (A2 ((z.2.2,x11.2)) (v6 Z Z Z Z (b3 (c8 Z ?_) (b3 (c8 Z ?_) d9)) Z (AftOK.stays Z ?_ Z AftOK.nil)) (⟨?_,?_⟩))
  all_goals exact c3m
 refine zgo ?_
 refine d8 (A2 ((z.2.2,x11.2)) (v6 Z Z Z Z (b3 (c8 Z ?_) (b3 (c8 Z ?_) d9)) Z (AftOK.stays Z ?_ Z AftOK.nil)) (⟨?_,?_⟩))
 all_goals exact c3m
theorem a1x {x:Cur} {n:Int} (h:okC n x) (hn:n<=880000000000):CtrX (α:=Ifc×Cur) Tryz.prog 99 [.ptr 0 0] [.box [.lst 1 (x.c.map B4),.v (.int .i64 x.a),.v (.int .u64 x.s)]] (λy=>(DrI y.1)/\okC (n+500) y.2) (λy=>.shp true [some 4] [.v (.int .i64 y.1.ma),.fr 3 1 (y.1.st.map Rf.r7),.fr 104 3 (y.1.qu.sl.map j5),.fr 76 2 (y.1.qu.wa.map j9)]) (λy=>[some (.box [.lst 1 (y.2.c.map B4),.v (.int .i64 y.2.a),.v (.int .u64 y.2.s)])]):=by
 refine CtrX.of (n:=76) (k:=1) G Tryz.func99 Z a8 Z Z Z Z (λ_=>Z) Z Z (λw0 _ hpin=>?_)
 refine b4p ?_
 refine b4o ?_
 refine vm3 ?_
 refine c11 ?_
 refine p6 ?_
 refine m5 G 5 Z Z Z Z Z Z Z Z ?_
 refine vm3 ?_
 refine d7 G 6 Z Z Z Z Z ?_
 refine zgo ?_
 refine a7 Z (d6 6 [0] Z Z Z (p9 h J (14)) Z (RowsIn.cons Z RowsIn.nil) Z (λ_=>Z) Z (λx1 ⟨hv1,hc1⟩=>?_))
 refine zgo ?_
 refine i7 [0,2,3] [1] (λ(z:Nat×Cur×Ifc)=>[(4,.v (.int .i64 (x1.1 - z.1)))]) (λ(z:Nat×Cur×Ifc)=>[(0,some (.box [.lst 1 (z.2.1.c.map B4),.v (.int .i64 z.2.1.a),.v (.int .u64 z.2.1.s)])),(2,some (.row 3 1 (z.2.2.st.map Rf.r7))),(3,some (.row 104 3 (z.2.2.qu.sl.map j5))),(4,some (.row 76 2 (z.2.2.qu.wa.map j9))),(5,some (.box [.v (.int .i64 z.2.2.ma),.own 2,.own 3,.own 4]))]) (λ(z:Nat×Cur×Ifc)=>(z.1:Int)<=x1.1/\(IfG z.2.2)/\okC (n+2+6 * z.1) z.2.1) (λ(z:Nat×Cur×Ifc)=>x1.1.toNat - z.1) (0,x1.2,b7j) Z Z ?_ ?_ ?_ ?_
 ·exact ⟨hv1.1,b9L,hc1.mono (by simp)⟩
 ·exact b19
 ·exact ⟨⟨_,Z,by rfl⟩,Z,Z,⟨⟨_,Z,by rfl⟩,Z,Z,⟨⟨_,Z,by rfl⟩,Z,Z,⟨⟨_,Z,by rfl⟩,Z,Z,⟨⟨_,Z,by rfl⟩,Z,Z,trivial⟩⟩⟩⟩⟩
 intro z hinv
 obtain ⟨hz1,hz2,hz⟩:=hinv
 have hql:=hz2.f.qu.sl.len
 have hqw:=hz2.f.qu.wn8
 have hqs:=hz2.f.sn
 refine vm2 ?_
 refine zcd (λh1=>?_) (λh1=>?_)
 ·refine zgo ?_
  refine a7 Z (d6 6 [0] Z Z Z (p9 hz J (6)) Z (RowsIn.cons Z RowsIn.nil) Z (λ_=>Z) Z (λx2 ⟨hv2,hc2⟩=>?_))
  refine zcd (λh2=>?_) (λh2=>?_)
  ·refine zwt ?_
   refine T4 7 [1,2,3,4,5] [6] mixed a8 Z Z (λr0=>?_) (λ_ h=>h)
   refine v1 0 [5,6] Z a8 a8 a8 Z Z Z Z (d1 G Z Z Z Z Z Z) (v1 1 [2,4,5,6] Z a8 a8 a8 Z Z Z Z (b9 Z Z) (v1 3 [4,5,6] Z a8 a8 a8 Z Z Z Z (b9 Z Z) (w6 2 a8 (B7 [1,2,3,4,5] Z Z (d6 6 [0] Z Z Z (p9 hc2 J (8)) Z (RowsIn.cons Z RowsIn.nil) Z (λ_=>Z) Z (λx3 ⟨hv3,hc3⟩=>b4 ⟨Z,?_⟩))))))
   refine w6 4 a8 (B7 [1,2,3,4,5] Z Z (d6 6 [0] Z Z Z (p9 hc3 J (12)) Z (RowsIn.cons Z RowsIn.nil) Z (λ_=>Z) Z (λx4 ⟨hv4,hc4⟩=>b4 ⟨Z,?_⟩)))
   refine w6 5 a8 (B7 [1,2,3,4,5] Z Z (d4 9 Z Z Z (ArgsOK.of Z) (U2 z.2.2 _ _ hz2.f J J) Z Z (b4 ⟨Z,?_⟩)))
   refine b7D ?_
   refine r9 (Gh.sub 6 2 A4 Z Z Z) (r9 (Gh.sub 7 3 A4 Z Z Z) (r9 (Gh.sub 8 4 A4 Z Z Z) (b4 ⟨(z.1+1,x4.2,a6b z.2.2 x3.1 x4.1),?_,?_,⟨⟨_,Z,by (first | rfl | exact congrArg (λv=>AV.v (.int .i64 v)) E0)⟩,Z,trivial⟩,⟨⟨_,Z,by rfl⟩,Z,Z,⟨⟨_,Z,by rfl⟩,Z,Z,⟨⟨_,Z,by rfl⟩,Z,Z,⟨⟨_,Z,by rfl⟩,Z,Z,⟨⟨_,Z,by rfl⟩,Z,Z,trivial⟩⟩⟩⟩⟩,Z,Z,Z⟩)))
   ·first | exact ⟨by show ((z.1+1:Nat):Int)<=x1.1;omega,b9j hz2 J J,hc4.mono m7⟩ | exact ⟨by show ((z.1+1:Nat):Int)<=x1.1;omega,b6t hz2,hc4.mono m7⟩ | exact ⟨by show ((z.1+1:Nat):Int)<=x1.1;omega,b6u hz2,hc4.mono m7⟩ | exact ⟨by show ((z.1+1:Nat):Int)<=x1.1;omega,hz2,hc4.mono m7⟩
   exact Y0
  refine zcd (λh3=>?_) (λh3=>?_)
  ·refine zwt ?_
   refine T4 7 [1,2,3,4,5] [6] mixed a8 Z Z (λr0=>?_) (λ_ h=>h)
   refine v1 0 [5,6] Z a8 a8 a8 Z Z Z Z (d1 G Z Z Z Z Z Z) (v1 1 [2,4,5,6] Z a8 a8 a8 Z Z Z Z (b9 Z Z) (v1 3 [4,5,6] Z a8 a8 a8 Z Z Z Z (b9 Z Z) (w6 2 a8 (B7 [1,2,3,4,5] Z Z (d6 6 [0] Z Z Z (p9 hc2 J (8)) Z (RowsIn.cons Z RowsIn.nil) Z (λ_=>Z) Z (λx5 ⟨hv5,hc5⟩=>b4 ⟨Z,?_⟩))))))
   refine w6 4 a8 (B7 [1,2,3,4,5] Z Z (d6 6 [0] Z Z Z (p9 hc5 J (12)) Z (RowsIn.cons Z RowsIn.nil) Z (λ_=>Z) Z (λx6 ⟨hv6,hc6⟩=>b4 ⟨Z,?_⟩)))
   refine w6 5 a8 (B7 [1,2,3,4,5] Z Z (d4 9 Z Z Z (ArgsOK.of Z) (U2 z.2.2 _ _ hz2.f J J) Z Z (b4 ⟨Z,?_⟩)))
   refine b7D ?_
   refine r9 (Gh.sub 6 2 A4 Z Z Z) (r9 (Gh.sub 7 3 A4 Z Z Z) (r9 (Gh.sub 8 4 A4 Z Z Z) (b4 ⟨(z.1+1,x6.2,a6b z.2.2 x5.1 x6.1),?_,?_,⟨⟨_,Z,by (first | rfl | exact congrArg (λv=>AV.v (.int .i64 v)) E0)⟩,Z,trivial⟩,⟨⟨_,Z,by rfl⟩,Z,Z,⟨⟨_,Z,by rfl⟩,Z,Z,⟨⟨_,Z,by rfl⟩,Z,Z,⟨⟨_,Z,by rfl⟩,Z,Z,⟨⟨_,Z,by rfl⟩,Z,Z,trivial⟩⟩⟩⟩⟩,Z,Z,Z⟩)))
   ·first | exact ⟨by show ((z.1+1:Nat):Int)<=x1.1;omega,b9j hz2 J J,hc6.mono m7⟩ | exact ⟨by show ((z.1+1:Nat):Int)<=x1.1;omega,b6t hz2,hc6.mono m7⟩ | exact ⟨by show ((z.1+1:Nat):Int)<=x1.1;omega,b6u hz2,hc6.mono m7⟩ | exact ⟨by show ((z.1+1:Nat):Int)<=x1.1;omega,hz2,hc6.mono m7⟩
   exact Y0
  refine zcd (λh4=>?_) (λh4=>?_)
  ·refine T4 7 [1,2,3,4,5] [6] mixed a8 Z Z (λr0=>?_) (λ_ h=>h)
   refine v1 0 [5,6] Z a8 a8 a8 Z Z Z Z (d1 G Z Z Z Z Z Z) (v1 1 [2,4,5,6] Z a8 a8 a8 Z Z Z Z (b9 Z Z) (v1 3 [4,5,6] Z a8 a8 a8 Z Z Z Z (b9 Z Z) (w6 2 a8 (B7 [1,2,3,4,5] Z Z (d6 6 [0] Z Z Z (p9 hc2 J (8)) Z (RowsIn.cons Z RowsIn.nil) Z (λ_=>Z) Z (λx7 ⟨hv7,hc7⟩=>b4 ⟨Z,?_⟩))))))
   refine w6 4 a8 (B7 [1,2,3,4,5] Z Z (d6 6 [0] Z Z Z (p9 hc7 J (12)) Z (RowsIn.cons Z RowsIn.nil) Z (λ_=>Z) Z (λx8 ⟨hv8,hc8⟩=>b4 ⟨Z,?_⟩)))
   refine w6 5 a8 (B7 [1,2,3,4,5] Z Z (d4 9 Z Z Z (ArgsOK.of Z) (U2 z.2.2 _ _ hz2.f J J) Z Z (b4 ⟨Z,?_⟩)))
   refine b7D ?_
   refine r9 (Gh.sub 6 2 A4 Z Z Z) (r9 (Gh.sub 7 3 A4 Z Z Z) (r9 (Gh.sub 8 4 A4 Z Z Z) (b4 ⟨(z.1+1,x8.2,a6b z.2.2 x7.1 x8.1),?_,?_,⟨⟨_,Z,by (first | rfl | exact congrArg (λv=>AV.v (.int .i64 v)) E0)⟩,Z,trivial⟩,⟨⟨_,Z,by rfl⟩,Z,Z,⟨⟨_,Z,by rfl⟩,Z,Z,⟨⟨_,Z,by rfl⟩,Z,Z,⟨⟨_,Z,by rfl⟩,Z,Z,⟨⟨_,Z,by rfl⟩,Z,Z,trivial⟩⟩⟩⟩⟩,Z,Z,Z⟩)))
   ·first | exact ⟨by show ((z.1+1:Nat):Int)<=x1.1;omega,b9j hz2 J J,hc8.mono m7⟩ | exact ⟨by show ((z.1+1:Nat):Int)<=x1.1;omega,b6t hz2,hc8.mono m7⟩ | exact ⟨by show ((z.1+1:Nat):Int)<=x1.1;omega,b6u hz2,hc8.mono m7⟩ | exact ⟨by show ((z.1+1:Nat):Int)<=x1.1;omega,hz2,hc8.mono m7⟩
   exact Y0
  refine zcd (λh5=>?_) (λh5=>?_)
  ·refine zwt ?_
   exact c4h
  refine zcd (λh6=>?_) (λh6=>?_)
  ·exact c4h
  refine zcd (λh7=>?_) (λh7=>?_)
  ·refine vm3 ?_
   refine L8 9 [2,3,4] Z Z Z (a7G z.2.2 hz2) Z (RowsIn.cons Z (RowsIn.cons Z (RowsIn.cons Z RowsIn.nil))) Z Z Z ?_
   refine zgn ?_
   refine a2m ?_
   refine r9 (Gh.sub 6 2 A4 Z Z Z) (r9 (Gh.sub 7 3 A4 Z Z Z) (r9 (Gh.sub 8 4 A4 Z Z Z) (b4 ⟨(z.1+1,x2.2,(lvX z.2.2).1),?_,?_,⟨⟨_,Z,by (first | rfl | exact congrArg (λv=>AV.v (.int .i64 v)) E0)⟩,Z,trivial⟩,⟨⟨_,Z,by rfl⟩,Z,Z,⟨⟨_,Z,by rfl⟩,Z,Z,⟨⟨_,Z,by rfl⟩,Z,Z,⟨⟨_,Z,by rfl⟩,Z,Z,⟨⟨_,Z,by rfl⟩,Z,Z,trivial⟩⟩⟩⟩⟩,Z,Z,Z⟩)))
   ·exact c6N
   exact Y0
  refine zgo ?_
  refine ⟨(z.1+1,x2.2,z.2.2),?_,?_,⟨⟨_,Z,by (first | rfl | exact congrArg (λv=>AV.v (.int .i64 v)) E0)⟩,Z,trivial⟩,⟨⟨_,Z,by rfl⟩,Z,Z,⟨⟨_,Z,by rfl⟩,Z,Z,⟨⟨_,Z,by rfl⟩,Z,Z,⟨⟨_,Z,by rfl⟩,Z,Z,⟨⟨_,Z,by rfl⟩,Z,Z,trivial⟩⟩⟩⟩⟩,Z,Z,Z⟩
  ·exact c6N
  exact Y0
 refine zgo ?_
 refine a7 Z (d6 6 [0] Z Z Z (a4B hz J (3)) Z (RowsIn.cons Z RowsIn.nil) Z (λ_=>Z) Z (λx9 ⟨hv9,hc9⟩=>?_))
 refine zcd (λh8=>?_) (λh8=>?_)
 ·refine zgo ?_
  refine a7 Z (m5 G 7 Z Z Z Z Z Z Z Z (a7 Z (d6 7 [0,6] Z Z Z (I4 hc9 J [0,4,8,15] (0) (15) (by decide) (by decide)) Z (RowsIn.cons Z (RowsIn.cons Z RowsIn.nil)) Z (λ_=>Z) Z (λx10 ⟨hv10,hc10⟩=>?_))))
  refine zgo ?_
  refine a7 Z (d6 7 [0] Z Z Z (p9 hc10 J (24)) Z (RowsIn.cons Z RowsIn.nil) Z (λ_=>Z) Z (λx11 ⟨hv11,hc11⟩=>?_))
  refine zcd (λh9=>?_) (λh9=>?_)
  ·refine zgo ?_
   refine a7 Z (m5 G 8 Z Z Z Z Z Z Z Z (a7 Z (d6 8 [0,7] Z Z Z (I4 hc11 J [-1,17] (-1) (17) (by decide) (by decide)) Z (RowsIn.cons Z (RowsIn.cons Z RowsIn.nil)) Z (λ_=>Z) Z (λx12 ⟨hv12,hc12⟩=>?_))))
   refine zgo ?_
   refine d8 (A2 ((⟨x12.1,z.2.2.st,z.2.2.qu⟩,x12.2)) (v6 Z Z Z Z (b3 (j8 ?_) (b3 (c8 Z ?_) (b3 (c8 Z ?_) (b3 (c8 Z ?_) d9)))) Z (AftOK.stays Z ?_ Z AftOK.nil)) (⟨?_,?_⟩))
   all_goals (first | rfl | exact hc12.mono J | (dsimp only;rw [List.map_set];rfl) | (rw [List.map_append];rfl) | (refine ⟨?_,?_,?_⟩<;>(show List.length _<=_;(try simp only [List.length_set,List.length_append,List.length_cons,List.length_nil]);omega)))
  refine zcd (λh10=>?_) (λh10=>?_)
  ·refine T4 8 [1,2,3,4,5,6] [5,7] mixed a8 Z Z (λr0=>?_) (λ_ h=>h)
   refine v1 0 [1,5,6,7] Z a8 a8 a8 Z Z Z Z (d3 G Z Z Z Z) (v1 1 [5,6,7] Z a8 a8 a8 Z Z Z Z (f7 G Z Z Z Z Z Z Z) (v1 2 [3,4,5,6,7] Z a8 a8 a8 Z Z Z Z (b9 Z Z) (w6 3 a8 (B7 [1,2,3,4,5,6] Z Z (d6 7 [0] Z Z Z (p9 hc11 J (8)) Z (RowsIn.cons Z RowsIn.nil) Z (λ_=>Z) Z (λx13 ⟨hv13,hc13⟩=>b4 ⟨Z,?_⟩))))))
   refine w6 4 a8 (B7 [1,2,3,4,5,6] Z Z (m5 G 8 Z Z Z Z Z Z Z Z (b4 ⟨Z,?_⟩)))
   refine w6 5 a8 (a6i Z Z a8 (I0 (Gh.forget (id:=5) (k:=1) Z Z)<|I0 (Gh.keep [0,1,2,3,4,5,6,7] Z)<|a1n (tx:=64) 9 rfl rfl rfl rfl rfl<|l1 G X9 rfl rfl rfl rfl rfl rfl rfl rfl rfl M8 rfl rfl (b4 ?_)))
   refine c6H ?_
   refine d8 (A2 ((⟨x10.1,z.2.2.st++[x13.1],z.2.2.qu⟩,x13.2)) (v6 Z Z Z Z (b3 (j8 ?_) (b3 (c8 Z ?_) (b3 (c8 Z ?_) (b3 (c8 Z ?_) d9)))) Z (AftOK.stays Z ?_ Z AftOK.nil)) (⟨?_,?_⟩))
   all_goals (first | rfl | exact hc13.mono J | (dsimp only;rw [List.map_set];rfl) | (rw [List.map_append];rfl) | (refine ⟨?_,?_,?_⟩<;>(show List.length _<=_;(try simp only [List.length_set,List.length_append,List.length_cons,List.length_nil]);omega)))
  refine zcd (λh11=>?_) (λh11=>?_)
  ·refine zgo ?_
   refine a7 Z (d6 9 [0] Z Z Z (a1w hc11 J) Z (RowsIn.cons Z RowsIn.nil) Z (λ_=>Z) Z (λx14 ⟨hv14,hc14⟩=>?_))
   refine zgo ?_
   refine d8 (A2 ((⟨x10.1,z.2.2.st,x14.1⟩,x14.2)) (v6 Z Z Z Z (b3 (j8 ?_) (b3 (c8 Z ?_) (b3 (c8 Z ?_) (b3 (c8 Z ?_) d9)))) Z (AftOK.stays Z ?_ Z AftOK.nil)) (⟨?_,?_⟩))
   all_goals (first | rfl | exact hc14.mono J | (dsimp only;rw [List.map_set];rfl) | (rw [List.map_append];rfl) | (refine ⟨?_,?_,?_⟩<;>(show List.length _<=_;(try simp only [List.length_set,List.length_append,List.length_cons,List.length_nil]);omega)))
  refine zgo ?_
  refine d8 (A2 ((⟨x10.1,z.2.2.st,z.2.2.qu⟩,x11.2)) (v6 Z Z Z Z (b3 (j8 ?_) (b3 (c8 Z ?_) (b3 (c8 Z ?_) (b3 (c8 Z ?_) d9)))) Z (AftOK.stays Z ?_ Z AftOK.nil)) (⟨?_,?_⟩))
  all_goals (first | rfl | exact hc11.mono J | (dsimp only;rw [List.map_set];rfl) | (rw [List.map_append];rfl) | (refine ⟨?_,?_,?_⟩<;>(show List.length _<=_;(try simp only [List.length_set,List.length_append,List.length_cons,List.length_nil]);omega)))
 refine zgo ?_
 refine a7 Z (d6 6 [0] Z Z Z (p9 hc9 J (24)) Z (RowsIn.cons Z RowsIn.nil) Z (λ_=>Z) Z (λx15 ⟨hv15,hc15⟩=>?_))
 refine zcd (λh12=>?_) (λh12=>?_)
 ·refine zgo ?_
  refine a7 Z (m5 G 7 Z Z Z Z Z Z Z Z (a7 Z (d6 7 [0,6] Z Z Z (I4 hc15 J [-1,17] (-1) (17) (by decide) (by decide)) Z (RowsIn.cons Z (RowsIn.cons Z RowsIn.nil)) Z (λ_=>Z) Z (λx16 ⟨hv16,hc16⟩=>?_))))
  refine zgo ?_
  refine d8 (A2 ((⟨x16.1,z.2.2.st,z.2.2.qu⟩,x16.2)) (v6 Z Z Z Z (b3 (j8 ?_) (b3 (c8 Z ?_) (b3 (c8 Z ?_) (b3 (c8 Z ?_) d9)))) Z (AftOK.stays Z ?_ Z AftOK.nil)) (⟨?_,?_⟩))
  all_goals (first | rfl | exact hc16.mono J | (dsimp only;rw [List.map_set];rfl) | (rw [List.map_append];rfl) | (refine ⟨?_,?_,?_⟩<;>(show List.length _<=_;(try simp only [List.length_set,List.length_append,List.length_cons,List.length_nil]);omega)))
 refine zcd (λh13=>?_) (λh13=>?_)
 ·refine T4 8 [1,2,3,4,5] [5,7] mixed a8 Z Z (λr0=>?_) (λ_ h=>h)
  refine v1 0 [1,5,6,7] Z a8 a8 a8 Z Z Z Z (d3 G Z Z Z Z) (v1 1 [5,6,7] Z a8 a8 a8 Z Z Z Z (f7 G Z Z Z Z Z Z Z) (v1 2 [3,4,5,6,7] Z a8 a8 a8 Z Z Z Z (b9 Z Z) (w6 3 a8 (B7 [1,2,3,4,5] Z Z (d6 6 [0] Z Z Z (p9 hc15 J (8)) Z (RowsIn.cons Z RowsIn.nil) Z (λ_=>Z) Z (λx17 ⟨hv17,hc17⟩=>b4 ⟨Z,?_⟩))))))
  refine w6 4 a8 (B7 [1,2,3,4,5] Z Z (m5 G 7 Z Z Z Z Z Z Z Z (b4 ⟨Z,?_⟩)))
  refine w6 5 a8 (a6i Z Z a8 (I0 (Gh.forget (id:=5) (k:=1) Z Z)<|I0 (Gh.keep [0,1,2,3,4,5,6] Z)<|a1n (tx:=64) 8 rfl rfl rfl rfl rfl<|l1 G X9 rfl rfl rfl rfl rfl rfl rfl rfl rfl M8 rfl rfl (b4 ?_)))
  refine c6H ?_
  refine d8 (A2 ((⟨z.2.2.ma,z.2.2.st++[x17.1],z.2.2.qu⟩,x17.2)) (v6 Z Z Z Z (b3 (j8 ?_) (b3 (c8 Z ?_) (b3 (c8 Z ?_) (b3 (c8 Z ?_) d9)))) Z (AftOK.stays Z ?_ Z AftOK.nil)) (⟨?_,?_⟩))
  all_goals (first | rfl | exact hc17.mono J | (dsimp only;rw [List.map_set];rfl) | (rw [List.map_append];rfl) | (refine ⟨?_,?_,?_⟩<;>(show List.length _<=_;(try simp only [List.length_set,List.length_append,List.length_cons,List.length_nil]);omega)))
 refine zcd (λh14=>?_) (λh14=>?_)
 ·refine zgo ?_
  refine a7 Z (d6 8 [0] Z Z Z (a1w hc15 J) Z (RowsIn.cons Z RowsIn.nil) Z (λ_=>Z) Z (λx18 ⟨hv18,hc18⟩=>?_))
  refine zgo ?_
  refine d8 (A2 ((⟨z.2.2.ma,z.2.2.st,x18.1⟩,x18.2)) (v6 Z Z Z Z (b3 (j8 ?_) (b3 (c8 Z ?_) (b3 (c8 Z ?_) (b3 (c8 Z ?_) d9)))) Z (AftOK.stays Z ?_ Z AftOK.nil)) (⟨?_,?_⟩))
  all_goals (first | rfl | exact hc18.mono J | (dsimp only;rw [List.map_set];rfl) | (rw [List.map_append];rfl) | (refine ⟨?_,?_,?_⟩<;>(show List.length _<=_;(try simp only [List.length_set,List.length_append,List.length_cons,List.length_nil]);omega)))
 refine zgo ?_
 refine d8 (A2 ((⟨z.2.2.ma,z.2.2.st,z.2.2.qu⟩,x15.2)) (v6 Z Z Z Z (b3 (j8 ?_) (b3 (c8 Z ?_) (b3 (c8 Z ?_) (b3 (c8 Z ?_) d9)))) Z (AftOK.stays Z ?_ Z AftOK.nil)) (⟨?_,?_⟩))
 all_goals (first | rfl | exact hc15.mono J | (dsimp only;rw [List.map_set];rfl) | (rw [List.map_append];rfl) | (refine ⟨?_,?_,?_⟩<;>(show List.length _<=_;(try simp only [List.length_set,List.length_append,List.length_cons,List.length_nil]);omega)))
end Go.Proofs.YtdhckhjphmjniaaGreatDoor
