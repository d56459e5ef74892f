/- Texts merged into one: M26, Q3, L7, Q6, R4, Q7. -/
import Derived.Test.YtpfhomblkgmkkaaGreatDoorPFnExactRunScriptG
set_option maxHeartbeats 4000000
set_option linter.unusedSimpArgs false
set_option linter.unusedVariables false
set_option maxRecDepth 20000
namespace Go.Proofs.YtpfhomblkgmkkaaGreatDoor
open Go Go.Rf
theorem a8A (z:Value) (sl:List Slot) (lim:Int) (hF:SlF sl) (hk:a2p sl lim=false):Ctr Tryz.prog 293 [.pin z 3 (sl.map e9),.v (.int .i64 lim)] (.many [.v z,.v (.int .i64 (-1))]):=by
 have hl4:=hF.len
 have hb:=@a0X sl true
 have hf:=@a2o sl
 have hkk:=b19.mp hk
 refine Ctr.of (n:=33) G Tryz.func293 Z a8 Z Z Z (λw0=>?_)
 refine zcl (a2G sl J) ?_
 refine zcd (λh1=>?_) (λh1=>?_)
 ·refine zwt ?_
  exact c3o
 refine zgo ?_
 refine a1j ?_
 first | refine b5 Z Z (a25 G Z Z Z Z J (a1r J)) ?_ | refine b5 Z Z (a25 G Z Z Z Z J (V9 J J)) ?_ | refine b5 Z Z (a25 G Z Z Z Z J (x7 J J)) ?_
 refine zcd (λh2=>?_) (λh2=>?_)
 ·exact c3o
 exfalso;omega
theorem a7v (q:Que) (lim:Int) (hF:QF q) (hk:a2p q.sl lim=false):Ctr Tryz.prog 242 [.agg [.lst 3 (q.sl.map e9),.lst 2 (q.wa.map f7)],.v (.int .i64 lim)] (.shp false [some 2,none] [.fr 169 3 (q.sl.map e9),.fr 182 2 (q.wa.map f7),.v (.int .i64 (-1))]):=by
 have hl4:=hF.sl.len
 have hwn:=hF.wn
 refine Ctr.of (n:=24) G Tryz.func242 Z a8 Z Z Z (λw0=>?_)
 refine j5 0 Z (λ_=>Z) (λu0=>?_)
 refine N0 ?_
 refine zgo ?_
 refine c1b (t:=10) Z (λz10=>?_)
 refine vm5 ?_
 refine b5 Z Z (f9 Z (ArgsOK.pin1 Z (ArgsOK.of Z)) (a8A _ q.sl lim hF.sl hk) Z) ?_
 refine zgn ?_
 refine p6 (B4 (Gh.asPin (d:=6) (t:=10) Z Z) (j7 11 [0] mixed a8 Z Z (λr0=>?_) (λ_ h=>h)))
 refine zsa 1 ?_
 refine zsa 4 ?_
 refine zsa 5 ?_
 refine zsa 8 ?_
 refine x5 (N:=4) Z (r7 (fuel:=5) [⟨0,15,2,false,.row 169 3 []⟩,⟨3,18,3,false,.row 182 2 []⟩] (AllVOK.cons (VOK.lit G Z Z Z Z Z) (AllVOK.cons (VOK.lit G Z Z Z Z Z) (AllVOK.nil))) (λhok=>?_))
 refine m5 [(2,[0])] a8 a8 (λe he=>hok e he) a8 (AllVS.cons ?_ AllVS.nil)
 refine VStep.mk1 [0] 15 (.own 2) 2 (.row 169 3 []) [⟨3,18,3,false,.row 182 2 []⟩] Z Z Z Z Z (λb1 _ hbn=>j3 G O8 Z Z Z Z Z Z Z Z Z B1 Z Z (b6 Z)) a8 a8 a8 a8 (m5 [(6,[3])] a8 a8 (λe he=>hok e (vin (is:=[0]) Z he)) a8 (AllVS.cons ?_ AllVS.nil))
 refine VStep.mk1 [0] 18 (.own 3) 3 (.row 182 2 []) [] Z Z Z Z Z (λb1 _ hbn=>j3 G O8 Z Z Z Z Z Z Z Z Z B1 Z Z (b6 Z)) a8 a8 a8 a8 (D0 ?_)
 clear hok
 refine b7 (rs:=[7]) a8 Z (AllB.cons ?_ AllB.nil)
 refine b2G ?_
 refine b7 (rs:=[9]) a8 Z (AllB.cons ?_ AllB.nil)
 refine b2G ?_
 refine zsa 10 ?_
 refine H4 ?_
 refine e6 (m8 Z Z Z Z (b4 (d6 Z ?_) (b4 (d6 Z ?_) (b4 (l3 ?_) f6))))
 all_goals (first | rfl | simp)
theorem a6z (x:Ifc) (hF:IfF x) (hk:okT x=false):Ctr Tryz.prog 196 [.agg [.v (.int .i64 x.ma),.lst 1 (x.st.map Rf.n8),.lst 3 (x.qu.sl.map e9),.lst 2 (x.qu.wa.map f7)]] (.shp false [some 4,none] [.v (.int .i64 x.ma),.fr 3 1 (x.st.map Rf.n8),.fr 169 3 (x.qu.sl.map e9),.fr 182 2 (x.qu.wa.map f7),.v (.int .i64 (-1))]):=by
 have hl4:=hF.qu.sl.len
 have hwn:=hF.qu.wn
 have hsn:=hF.sn
 refine Ctr.of (n:=35) G Tryz.func196 Z a8 Z Z Z (λw0=>?_)
 refine j5 0 Z (λ_=>Z) (λu0=>?_)
 refine N0 ?_
 refine zgn ?_
 refine p6 (j7 14 [0,1] mixed a8 Z Z (λr0=>?_) (λ_ h=>h))
 refine a0C ?_
 refine zsa 4 ?_
 refine x5 (N:=3) Z (r7 (fuel:=8) [⟨11,4,2,true,.box (avR [.slice none 0 0,.slice none 0 0] [])⟩] (AllVOK.cons (VOK.boxS G Z Z Z Z Z) (AllVOK.nil)) (λhok=>?_))
 refine m5 [(5,[])] a8 a8 (λe he=>hok e he) a8 (AllVS.cons ?_ AllVS.nil)
 refine VStep.mk0 [0,1] Z Z (λb1 _ hbn=>b5 Z Z (f9 Z (ArgsOK.of Z) (a06 x hF) Z) (b6 Z)) a8 a8 a8 a8 (m5 [(6,[])] a8 a8 (λe he=>hok e he) a8 (AllVS.cons ?_ AllVS.nil))
 refine VStep.mk0 [0,1] Z Z (λb1 _ hbn=>b5 Z Z (f9 Z (ArgsOK.of Z) (a3B _ _) Z) (b6 Z)) a8 a8 a8 a8 (m5 [(7,[])] a8 a8 (λe he=>hok e he) a8 (AllVS.cons ?_ AllVS.nil))
 refine VStep.mk0 [0,1] Z Z (λb1 _ hbn=>c8 5 Z Z Z (ArgsOK.of Z) (a7v x.qu (c0P x) hF.qu hk) Z Z (b6 Z)) a8 a8 a8 a8 (s8 8 Z a8 Z Z Z Z (c7 Z Z) a8 a8 a8 (s8 9 Z a8 Z Z Z Z (j8 Z Z Z) a8 a8 a8 (s8 10 Z a8 Z Z Z Z (j8 Z Z Z) a8 a8 a8 (m5 [(12,[11])] a8 a8 (λe he=>hok e he) a8 (AllVS.cons ?_ AllVS.nil)))))
 refine c7G ?_
 clear hok
 refine zsa 13 ?_
 refine H4 ?_
 refine p6 (j7 9 [0,1,2,3,4] mixed a8 Z Z (λr0=>?_) (λ_ h=>h))
 refine a0C ?_
 refine zsa 5 ?_
 refine x5 (N:=6) Z (r7 (fuel:=3) [⟨7,6,5,true,.box (avR [.int .i64 0,.slice none 0 0,.slice none 0 0,.slice none 0 0] [])⟩] (AllVOK.cons (VOK.boxS G Z Z Z Z Z) (AllVOK.nil)) (λhok=>?_))
 refine m5 [(4,[])] a8 a8 (λe he=>hok e he) a8 (AllVS.cons ?_ AllVS.nil)
 refine VStep.mk0 [0,1,2,3,4] Z Z (λb1 _ hbn=>c8 7 Z Z Z (ArgsOK.of Z) (E1 x.st J) Z Z (b6 Z)) a8 a8 a8 a8 (m5 [(6,[])] a8 a8 (λe he=>hok e he) a8 (AllVS.cons ?_ AllVS.nil))
 refine VStep.mk0 [0,1,2,3,4] Z Z (λb1 _ hbn=>b5 Z Z (w5 G Z Z Z Z) (b6 Z)) a8 a8 a8 a8 (m5 [(8,[7])] a8 a8 (λe he=>hok e he) a8 (AllVS.cons ?_ AllVS.nil))
 refine c7D ?_
 clear hok
 refine H4 ?_
 refine zcd (λh1=>?_) (λh1=>?_)
 ·exfalso;omega
 refine zgo ?_
 refine e6 (m8 Z Z Z Z (b4 (l3 ?_) (b4 (d6 Z ?_) (b4 (d6 Z ?_) (b4 (d6 Z ?_) (b4 (l3 ?_) f6))))))
 all_goals (rfl)
theorem a5e (x:Ifc) (hn:x.st.length=0):CtrE (α:=Nat→Option Addr×Nat×Nat) Tryz.prog 197 [.agg [.v (.int .i64 x.ma),.lst 1 (x.st.map Rf.n8),.lst 3 (x.qu.sl.map e9),.lst 2 (x.qu.wa.map f7)]] (λy=>(.shp false [some 4,none] [.v (.int .i64 x.ma),.v (.slice (y 1).1 (y 1).2.1 (y 1).2.2),.v (.slice (y 2).1 (y 2).2.1 (y 2).2.2),.v (.slice (y 3).1 (y 3).2.1 (y 3).2.2),.v (.int .i64 (-1))])):=by
 refine CtrE.of (n:=41) G Tryz.func197 Z a8 Z Z Z (λw0=>?_)
 refine c5g 0 Z (λ_=>Z) (λu0=>?_)
 refine N0 ?_
 refine zcd (λh1=>?_) (λh1=>?_)
 ·refine zgo ?_
  refine e6 (c4r (u0) (m8 Z Z Z Z (b4 (l3 ?_) (b4 (b1V ?_) (b4 (b1V ?_) (b4 (b1V ?_) (b4 (l3 ?_) f6)))))))
  all_goals (rfl)
 exfalso;omega
theorem b0h (m:Mach) (sk sq sc sv:Int) (hM:MaG m) (hv:O4 m.cp.length ⟨sk,sq,sc,sv⟩=true) (ho:¬ b2t m ⟨sk,sq,sc,sv⟩):Ctr Tryz.prog 148 [.agg [.lst 2 (m.rs.map l7),.lst 1 (m.en.map j6),.lst 1 (m.ra.map j6),.nst none 4 (m.cp.map (l6 169 182))],.v (.agg ⟨[.int .i64 sk,.int .i64 sq,.int .i64 sc,.int .i64 sv]⟩)] (.shp false [some 4,none,none] [.fr 83 2 ((stM m ⟨sk,sq,sc,sv⟩).1.rs.map l7),.fr 4 1 ((stM m ⟨sk,sq,sc,sv⟩).1.en.map j6),.fr 4 1 ((stM m ⟨sk,sq,sc,sv⟩).1.ra.map j6),.ne 135 4 ((stM m ⟨sk,sq,sc,sv⟩).1.cp.map (l6 169 182)),.v (.int .i64 (stM m ⟨sk,sq,sc,sv⟩).2.1),.v (.bool (stM m ⟨sk,sq,sc,sv⟩).2.2)]):=by
 have f1:=hM.n
 have f2:=hM.en
 have f3:=hM.ra
 have f4:=hM.rn
 refine Ctr.of (n:=107) G Tryz.func148 Z a8 Z Z Z (λw0=>?_)
 refine j5 0 Z (λ_=>Z) (λu0=>?_)
 refine a2u ?_
 refine a7e ?_
 refine n9 ?_
 refine c8 7 Z Z Z (ArgsOK.of Z) (a1m m hM) Z Z ?_
 refine vm5 ?_
 refine b4W ?_
 refine zcd (λh1=>?_) (λh1=>?_)
 ·have hq:=c0u hv J
  obtain ⟨q,rfl⟩:∃q:Nat,sq=q:=⟨sq.toNat,by omega⟩
  have hS:=sm1 (m:=m) (sc:=sc) (sv:=sv) (q:=q) h1
  refine c1m ?_
  refine zgn ?_
  refine p6 (j7 11 [0,1,3,4,5,6,7] mixed a8 Z Z (λr0=>?_) (λ_ h=>h))
  refine a0C ?_
  refine b0u ?_
  refine zsa 7 ?_
  refine b7 (rs:=[8]) a8 Z (AllB.cons ?_ AllB.nil)
  refine f8 [0,1,3,4,5,6,7] Z Z ?_
  refine J5 ?_
  refine zsa 9 ?_
  refine zsa 10 ?_
  refine H4 ?_
  exact b50
 refine zcd (λh2=>?_) (λh2=>?_)
 ·have hS:=sm2 (m:=m) (sq:=sq) (sc:=sc) (sv:=sv) h2
  refine n9 ?_
  refine c8 12 Z Z Z (ArgsOK.of Z) (b0g m hM) Z Z ?_
  refine zgo ?_
  exact b50
 refine zcd (λh3=>?_) (λh3=>?_)
 ·have hc:=b14 hv J
  obtain ⟨c,rfl⟩:∃c:Nat,sc=c:=⟨sc.toNat,by omega⟩
  obtain ⟨g1,g2,g3⟩:=hM.lens (k:=c) J
  have hIG:=hM.ok c J
  have hk:=c8z ho h3
  have hS:=sm3 (m:=m) (sq:=sq) (sv:=sv) (c:=c) h3 hk
  have hbd:=b2x hIG hk
  refine n9 ?_
  refine c8 11 Z Z Z (ArgsOK.of Z) (a91 (m.cp.getD c default) hIG.f hk) Z Z ?_
  exact c3U
 refine zcd (λh4=>?_) (λh4=>?_)
 ·have hc:=b14 hv J
  obtain ⟨c,rfl⟩:∃c:Nat,sc=c:=⟨sc.toNat,by omega⟩
  obtain ⟨g1,g2,g3⟩:=hM.lens (k:=c) J
  have hIG:=hM.ok c J
  have hk:=c8A ho h4
  have hS:=sm4 (m:=m) (sq:=sq) (sv:=sv) (c:=c) h4 hk
  have hbd:=a9S hIG hk
  refine n9 ?_
  refine c8 11 Z Z Z (ArgsOK.of Z) (a8z (m.cp.getD c default) hIG hk) Z Z ?_
  exact c3U
 refine zcd (λh5=>?_) (λh5=>?_)
 ·have hc:=b14 hv J
  obtain ⟨c,rfl⟩:∃c:Nat,sc=c:=⟨sc.toNat,by omega⟩
  obtain ⟨g1,g2,g3⟩:=hM.lens (k:=c) J
  have hIG:=hM.ok c J
  have hS:=sm5 (m:=m) (sq:=sq) (sv:=sv) (c:=c) h5
  refine p6 (B4 (Gh.open (id:=6) (i:=c) (k:=1) 9 Z Z (c5h J) Z Z) (B4 (Gh.open (id:=6) (i:=c) (k:=2) 10 Z Z (Y4 F8 Z) Z Z) (B4 (Gh.open (id:=6) (i:=c) (k:=3) 11 Z Z (Y4 F8 Z) Z Z) ?_)))
  refine c1l ?_
  refine b5 Z Z (L8 G Z Z Z Z (Y4 F8 Z) Z (.v (.own a6p (.own a6p (.own a6p .nil))))) ?_
  refine vm5 ?_
  refine b9z ?_
  refine zgn ?_
  refine zgn ?_
  refine p6 (B4 (Gh.detach (id:=6) Z) (B4 (Gh.detach (id:=6) Z) (B4 (Gh.detach (id:=6) Z) ?_)))
  exact c7R
 have hk:=c6F hv
 have hq:=c0u hv J
 obtain ⟨q,rfl⟩:∃q:Nat,sq=q:=⟨sq.toNat,by omega⟩
 have hS:=sm6 (m:=m) (sk:=sk) (sc:=sc) (sv:=sv) (q:=q) J
 refine c1m ?_
 refine zgo ?_
 exact b50
theorem a6A (m:Mach) (sk sq sc sv:Int) (hM:MaG m) (hv:O4 m.cp.length ⟨sk,sq,sc,sv⟩=true) (ho:b2t m ⟨sk,sq,sc,sv⟩):Ctr Tryz.prog 148 [.agg [.lst 2 (m.rs.map l7),.lst 1 (m.en.map j6),.lst 1 (m.ra.map j6),.nst none 4 (m.cp.map (l6 169 182))],.v (.agg ⟨[.int .i64 sk,.int .i64 sq,.int .i64 sc,.int .i64 sv]⟩)] (.shp false [some 4,none,none] [.fr 83 2 (m.rs.map l7),.fr 4 1 (m.en.map j6),.fr 4 1 (m.ra.map j6),.ne 135 4 (m.cp.map a7c),.v (.int .i64 (-1)),.v (.bool false)]):=by
 have f1:=hM.n
 have f2:=hM.en
 have f3:=hM.ra
 have f4:=hM.rn
 refine Ctr.of (n:=107) G Tryz.func148 Z a8 Z Z Z (λw0=>?_)
 refine j5 0 Z (λ_=>Z) (λu0=>?_)
 refine a2u ?_
 refine a7e ?_
 refine n9 ?_
 refine c8 7 Z Z Z (ArgsOK.of Z) (a1m m hM) Z Z ?_
 refine vm5 ?_
 refine b4W ?_
 refine zcd (λh1=>?_) (λh1=>?_)
 ·exact absurd (b4R ho) J
 refine zcd (λh2=>?_) (λh2=>?_)
 ·exact absurd (b4R ho) J
 refine zcd (λh3=>?_) (λh3=>?_)
 ·have hc:=b14 hv J
  obtain ⟨c,rfl⟩:∃c:Nat,sc=c:=⟨sc.toNat,by omega⟩
  obtain ⟨g1,g2,g3⟩:=hM.lens (k:=c) J
  have hIG:=hM.ok c J
  have hk:=c47 ho h3
  refine n9 ?_
  refine c8 11 Z Z Z (ArgsOK.of Z) (a6z (m.cp.getD c default) hIG.f hk) Z Z ?_
  refine n9 ?_
  refine b9z ?_
  refine c7z ?_
  exact c8j
 refine zcd (λh4=>?_) (λh4=>?_)
 ·have hc:=b14 hv J
  obtain ⟨c,rfl⟩:∃c:Nat,sc=c:=⟨sc.toNat,by omega⟩
  obtain ⟨g1,g2,g3⟩:=hM.lens (k:=c) J
  have hIG:=hM.ok c J
  have hk:=c48 ho h4
  refine zgo ?_
  refine a7 Z (a9u 8 Z Z Z (ArgsOK.of Z) (a5e (m.cp.getD c default) hk) (λ_=>Z) Z (λy1=>?_))
  refine n9 ?_
  refine d8 G 9 Z Z Z Z Z ?_
  refine c1l ?_
  first | refine p5 G Z Z Z Z Z (x7 J J) Z Z (.v Z (.v Z (.v Z (.v Z .nil)))) Z Z Z (Nat.le_of_ble_eq_true Z) (λq h=>by cases h) Z ?_ | refine p5 G Z Z Z Z Z (V9 J J) Z Z (.v Z (.v Z (.v Z (.v Z .nil)))) Z Z Z (Nat.le_of_ble_eq_true Z) (λq h=>by cases h) Z ?_ | refine p5 G Z Z Z Z Z (Y4 F8 Z) Z Z (.v Z (.v Z (.v Z (.v Z .nil)))) Z Z Z (Nat.le_of_ble_eq_true Z) (λq h=>by cases h) Z ?_
  exact c8j
 exact absurd (b4R ho) J
theorem a5f (m:Mach) (sk sq sc sv:Int) (hs:SmallM m):Ctr Tryz.prog 74 [.agg [.lst 2 (m.rs.map l7),.lst 1 (m.en.map j6),.lst 1 (m.ra.map j6),.nst none 4 (m.cp.map (l6 169 182))],.v (.agg ⟨[.int .i64 sk,.int .i64 sq,.int .i64 sc,.int .i64 sv]⟩)] (.shp false [some 4,none,none] [.fr 83 2 ((smT m ⟨sk,sq,sc,sv⟩).1.rs.map l7),.fr 4 1 ((smT m ⟨sk,sq,sc,sv⟩).1.en.map j6),.fr 4 1 ((smT m ⟨sk,sq,sc,sv⟩).1.ra.map j6),.ne 135 4 ((smT m ⟨sk,sq,sc,sv⟩).1.cp.map (a1h 169 182)),.v (.int .i64 (smT m ⟨sk,sq,sc,sv⟩).2.1),.v (.bool (smT m ⟨sk,sq,sc,sv⟩).2.2)]):=by
 have hcp:=hs.cp
 refine Ctr.of (n:=32) G Tryz.func74 Z a8 Z Z Z (λw0=>?_)
 refine j5 0 Z (λ_=>Z) (λu0=>?_)
 refine a2u ?_
 refine a7e ?_
 refine zcl (V2 m hs) ?_
 refine zcd (λh1=>?_) (λh1=>?_)
 ·exact c3V
 have hM:=(maF h1).g
 refine zcl (a4e m ⟨sk,sq,sc,sv⟩ J) ?_
 refine zcd (λh2=>?_) (λh2=>?_)
 ·have hO:=b1x (m:=m) (.inr (.inl h2))
  exact b7c
 refine n9 ?_
 refine c8 7 Z Z Z (ArgsOK.of Z) (a5d m sk sq sc sv hM h2) Z Z ?_
 refine n9 ?_
 refine b4W ?_
 refine zcd (λh3=>?_) (λh3=>?_)
 ·have hO:=b1x (.inr (.inr h3))
  exact b7c
 have hO:=c18 h1 h2 h3
 refine zgo ?_
 refine e6 (m8 Z Z Z Z (b4 (d6 Z ?_) (b4 (d6 Z ?_) (b4 (d6 Z ?_) (b4 (C6 Z ?_) (b4 (l3 ?_) (b4 (l3 ?_) f6)))))))
 all_goals (first | rfl | (rw [hO];done) | (rw [hO];rfl))
theorem u6 (m:Mach) (sk sq sc sv:Int) (hs:SmallM m):Ctr Tryz.prog 100 [.agg [.lst 2 (m.rs.map l7),.lst 1 (m.en.map j6),.lst 1 (m.ra.map j6),.nst none 4 (m.cp.map (l6 169 182))],.v (.agg ⟨[.int .i64 sk,.int .i64 sq,.int .i64 sc,.int .i64 sv]⟩)] (.shp false [some 4,none,none] [.fr 83 2 ((smT m ⟨sk,sq,sc,sv⟩).1.rs.map l7),.fr 4 1 ((smT m ⟨sk,sq,sc,sv⟩).1.en.map j6),.fr 4 1 ((smT m ⟨sk,sq,sc,sv⟩).1.ra.map j6),.ne 135 4 ((smT m ⟨sk,sq,sc,sv⟩).1.cp.map (l6 169 182)),.v (.int .i64 (smT m ⟨sk,sq,sc,sv⟩).2.1),.v (.bool (smT m ⟨sk,sq,sc,sv⟩).2.2)]):=by
 have hcp:=hs.cp
 refine Ctr.of (n:=32) G Tryz.func100 Z a8 Z Z Z (λw0=>?_)
 refine j5 0 Z (λ_=>Z) (λu0=>?_)
 refine a2u ?_
 refine a7e ?_
 refine zcl (a3F m hs) ?_
 refine zcd (λh1=>?_) (λh1=>?_)
 ·exact c3V
 have hM:=(maF h1).g
 refine zcl (a7o m ⟨sk,sq,sc,sv⟩ J) ?_
 refine zcd (λh2=>?_) (λh2=>?_)
 ·have hO:=b1x (m:=m) (.inr (.inl h2))
  exact b7c
 refine zgn ?_
 refine p6 ?_
 by_cases hno:b2t m ⟨sk,sq,sc,sv⟩
 ·have hO:=b1x (.inr (.inr (c49 hno)))
  refine n9 ?_
  refine c8 7 Z Z Z (ArgsOK.of Z) (a6A m sk sq sc sv hM h2 hno) Z Z ?_
  refine n9 ?_
  refine b4W ?_
  refine zwt ?_
  exact b7c
 refine n9 ?_
 refine c8 7 Z Z Z (ArgsOK.of Z) (b0h m sk sq sc sv hM h2 hno) Z Z ?_
 refine n9 ?_
 refine b4W ?_
 refine zcd (λh3=>?_) (λh3=>?_)
 ·have hO:=b1x (.inr (.inr h3))
  exact b7c
 have hO:=c18 h1 h2 h3
 refine zgo ?_
 refine e6 (m8 Z Z Z Z (b4 (d6 Z ?_) (b4 (d6 Z ?_) (b4 (d6 Z ?_) (b4 (C6 Z ?_) (b4 (l3 ?_) (b4 (l3 ?_) f6)))))))
 all_goals (first | rfl | (rw [hO];done) | (rw [hO];rfl))
theorem t7 (x:Lg) (r:Rec) (hx:x.d.size+x.p.size<=1048576) (hr:r.c.size<=9223372036854775807/\r.r.size<=9223372036854775807):Ctr Tryz.prog 30 [.v (a9i x),.v (b29 r)] (.many [.v (a9i (apE x r)),.v (.int .i64 (apN x r))]):=by
 refine Ctr.of (n:=32) G Tryz.func30 Z a8 Z Z Z (λw0=>?_)
 refine a2u ?_
 refine a7e ?_
 refine zcl (a4A _ a1Q) ?_
 refine zcd (λh1=>?_) (λh1=>?_)
 ·have hO:=c04 (x:=x) (r:=r) (c15 h1)
  refine zwt ?_
  exact b1F
 refine zcl (a0H _ i1) ?_
 refine zcd (λh2=>?_) (λh2=>?_)
 ·have hO:=c04 (x:=x) (r:=r) (c16 h2)
  exact b1F
 refine zcd (λh3=>?_) (λh3=>?_)
 ·have hO:=c60 (x:=x) (r:=r) h1 h2 h3
  exact b1F
 have hz:=a8R (x:=x) i1
 have hls:=a7d (k:=x.n) (x:=r) J J i1
 have hO:=c61 (x:=x) (r:=r) h1 h2 h3
 refine zgo ?_
 apply x8 [2,4] [0,2] 3 9 [1,2] mixed a8 Z Z (λ_ h=>znk h)
 ·intro r0
  refine zsa 0 ?_
  refine zsa 2 ?_
  refine zsa 4 ?_
  refine b7 (rs:=[1,3]) a8 Z (AllB.cons ?_ (AllB.cons ?_ AllB.nil))
  ·refine f8 [1,2] Z Z ?_
   refine J5 ?_
   refine b7 (rs:=[3]) a8 Z (AllB.cons ?_ AllB.nil)
   exact c3X
  refine f8 [1,2] Z Z ?_
  refine J5 ?_
  refine b7 (rs:=[1,5]) a8 Z (AllB.cons ?_ (AllB.cons ?_ AllB.nil))
  ·exact c3X
  refine f8 [1,2] Z Z (b5 Z Z (f9 Z (ArgsOK.of Z) (a0E _ _ a1Q a1Q i1) Z) (b6 ⟨Z,?_⟩))
  refine b7 (rs:=[1]) a8 Z (AllB.cons ?_ AllB.nil)
  refine f8 [1,2] Z Z ?_
  refine J5 ?_
  exact c3B
 refine zgo ?_
 refine e6 (p8 Z Z Z Z (b4 (a08 Z ?_) (b4 (l3 ?_) f6)))
 all_goals (first | (rw [hO.1];done) | (rw [hO.1];rfl) | (rw [hO.2];done) | (rw [hO.2];rfl))
theorem Z4 (x:Lg) (r:Rec) (hx:x.d.size+x.p.size<=1048576) (hr:r.c.size<=9223372036854775807/\r.r.size<=9223372036854775807):Ctr Tryz.prog 36 [.v (a9i x),.v (b29 r)] (.many [.v (a9i (apE x r)),.v (.int .i64 (apN x r))]):=by
 refine Ctr.of (n:=34) G Tryz.func36 Z a8 Z Z Z (λw0=>?_)
 refine a2u ?_
 refine a7e ?_
 refine zcl (a07 _ a1Q) ?_
 refine zcd (λh1=>?_) (λh1=>?_)
 ·have hO:=c04 (x:=x) (r:=r) (c15 h1)
  refine zwt ?_
  exact b1F
 refine zcl (H7 _ i1) ?_
 refine zcd (λh2=>?_) (λh2=>?_)
 ·have hO:=c04 (x:=x) (r:=r) (c16 h2)
  exact b1F
 refine zcd (λh3=>?_) (λh3=>?_)
 ·have hO:=c60 (x:=x) (r:=r) h1 h2 h3
  exact b1F
 have hz:=a8R (x:=x) i1
 have hls:=a7d (k:=x.n) (x:=r) J J i1
 have hO:=c61 (x:=x) (r:=r) h1 h2 h3
 refine zgn ?_
 refine p6 (j7 15 [0,1] mixed a8 Z Z (λr0=>?_) (λ_ h=>h))
 refine a0C ?_
 refine b0u ?_
 refine zsa 9 ?_
 refine zsa 10 ?_
 first | refine d4 11 Z a8 a8 Z Z Z Z (v6 Z Z Z Z J J) ?_ | refine d4 11 Z a8 a8 Z Z Z Z (A4 Z Z Z Z) ?_
 refine b7 (rs:=[7]) a8 Z (AllB.cons ?_ AllB.nil)
 refine f8 [0,1] Z Z (b5 Z Z (f9 Z (ArgsOK.of Z) (Z5 _ _ a1Q a1Q i1) Z) (b6 ⟨Z,?_⟩))
 refine d4 8 Z a8 a8 Z Z Z Z (F5 Z Z Z b5V) ?_
 refine zsa 12 ?_
 refine b7 (rs:=[13]) a8 Z (AllB.cons ?_ AllB.nil)
 refine f8 [0,1] Z Z ?_
 refine J5 ?_
 refine zsa 14 ?_
 refine H4 ?_
 exact c7Y
theorem S8 (m:Mach) (x:Lg) (s:ByteArray) (hs:SmallM m) (hx:x.d.size+x.p.size<=1048576) (hz:s.size<=1048576):Ctr Tryz.prog 9 [.agg [.lst 2 (m.rs.map l7),.lst 1 (m.en.map j6),.lst 1 (m.ra.map j6),.nst none 4 (m.cp.map (l6 169 182)),.v (.string x.d),.v (.string x.p),.v (.int .i64 x.n)],.v (.string s)] (.shp false [some 7,none] [.fr 83 2 ((exC m x s).1.rs.map l7),.fr 4 1 ((exC m x s).1.en.map j6),.fr 4 1 ((exC m x s).1.ra.map j6),.ne 135 4 ((exC m x s).1.cp.map (a1h 169 182)),.v (.string (exC m x s).2.1.d),.v (.string (exC m x s).2.1.p),.v (.int .i64 (exC m x s).2.1.n),.v (.string (exC m x s).2.2)]):=by
 refine Ctr.of (n:=53) G Tryz.func9 Z Y Z Z Z (λw0=>?_)
 refine j5 0 Z (λ_=>Z) (λu0=>?_)
 refine zgo ?_
 refine a7 Z (y9 1 Z Z Z Z Z Z Z (a7 Z (d8 G 2 Z Z Z Z Z ?_)))
 refine zcl (S7 m x hs hx) ?_
 refine zcd (λh1=>?_) (λh1=>?_)
 ·have hO:=c2c (s:=s) h1
  exact b9V
 obtain ⟨hM,hLg⟩:=b8Y h1
 refine zgo ?_
 refine a7 Z (b5 Z Z (f9 Z (ArgsOK.of Z) (H7 ⟨s,⟨#[]⟩⟩ ⟨by show s.size<=_;omega,H1 (by decide)⟩) Z) ?_)
 refine zcd (λh2=>?_) (λh2=>?_)
 ·have hO:=c2d h1 h2
  exact b9V
 refine zcd (λh3=>?_) (λh3=>?_)
 ·have hO:=c2e h1 h2 h3
  exact b9V
 refine zgo ?_
 refine a7 Z (c8 6 Z Z Z (ArgsOK.of Z) (Ctr.shpTo (a03 m x hs hx) (.cons .s (.cons .s (.cons .s (.cons (.n flM) (.cons .s (.cons .s (.cons .s .nil)))))))) Z Z (a7 Z (d8 G 7 Z Z Z Z Z ?_)))
 refine zgo ?_
 refine a7 Z (a01 (n:=88) G Z Z Z Tryz.func35 Z Y Z Z Z Z ?_)
 intro b hen hpin
 have hwn:1<=(e7 s 32).length/\(e7 s 32).length<=s.size+1:=G6
 have hml:((e7 s 32).map U0).length=(e7 s 32).length:=List.length_map _
 refine zgo ?_
 refine a7 Z (c8 8 Z Z Z (ArgsOK.of Z) (b7g s hz) Z Z ?_)
 refine zgo ?_
 refine a7 Z ?_
 first | refine b5 Z Z (b9 G Z Z Z Z Z J (by rw [List.length_map];omega)) ?_ | refine b5 Z Z (b9 G Z Z Z Z Z J J) ?_
 refine a7 Z ?_
 first | refine b5 Z Z (i7 G Z Z Z Z Z (c1f J) Z) ?_ | refine b5 Z Z (i7 G Z Z Z Z Z (x7 J J) Z) ?_
 refine zcl (a48 (wrd s 0)) ?_
 refine zcd (λh101=>?_) (λh101=>?_)
 ·refine zgo ?_
  refine e6 ⟨.inr Z,_,Z,Z,?_⟩
  have hO:=H2 h1 h2 h3 (a40 (b9f h101))
  refine zwt ?_
  exact b1E
 refine zgo ?_
 refine a7 Z (s4 G 9 Z Z Z Z Z Z Z Z ?_)
 refine zgo ?_
 refine a7 Z (b5 Z Z (a6L G Z Z Z Z Z Z J (by first | omega | (simp;done) | (simp;omega)) (by first | omega | (simp;done) | (simp;omega))) ?_)
 refine zgo ?_
 refine d9 [0,6,29,30] [0,1,2,3,4,5,6,7] (λ(i:Nat)=>[(7,.own 8),(31,.v (.int .i64 (i:Int)))]) (λ(i:Nat)=>[(8,some (.row 3 1 ((z6 s i).map Rf.n8)))]) (λ(i:Nat)=>i<=(e7 s 32).length - 1/\∀j,j < i→nmK (wrd s (j+1))=true) (λ(i:Nat)=>(e7 s 32).length - 1 - i) 0 Z Z ?_ ?_ ?_ ?_
 ·exact D9
 ·exact a0e
 ·exact a1k
 intro i hinv
 have hnl:=@a3r s i
 simp only [List.cons_append,List.nil_append]
 refine zcd (λh102=>?_) (λh102=>?_)
 ·refine zgo ?_
  refine a7 Z (b5 Z Z (b2W G Z Z Z Z Z J J) (a7 Z ?_))
  first | refine b5 Z Z (i7 G Z Z Z Z Z (c1f J) Z) ?_ | refine b5 Z Z (i7 G Z Z Z Z Z (x7 J J) Z) ?_
  refine zcl (a8r (wrd s (i+1)) (by have:=@b9c s (i+1);omega)) ?_
  refine zcd (λh103=>?_) (λh103=>?_)
  ·refine zgo ?_
   refine e6 ⟨.inr Z,_,Z,Z,?_⟩
   have hO:=H2 h1 h2 h3 (a40 (b9g (b9d h103 (by show i < (e7 s 32).length - 1;omega))))
   refine zwt ?_
   exact b1E
  refine zgo ?_
  refine a7 Z (s4 G 10 Z Z Z Z Z Z Z Z (a7 Z (j3 G (by rw [hpin];decide) Z Z Z Z Z Z Z Z Z (by first | (simp only [List.length_map,List.length_cons,List.length_nil];omega) | (simp;omega)) Z Z ?_)))
  exact c23
 obtain rfl:i=(e7 s 32).length - 1:=J
 have hNK:B5 s=true:=b9e hinv.2 (Nat.le_refl _)
 have hal:a1g (l9 (wrd s 0))=(x4 s).length:=(by rw [b6V];show _=(((e7 s 32).length - 1:Nat):Int);omega)
 refine zgo ?_
 refine a7 Z ?_
 first | refine b5 Z Z (b9 G Z Z Z Z Z J (by rw [List.length_map];omega)) ?_ | refine b5 Z Z (b9 G Z Z Z Z Z J J) ?_
 refine a7 Z ?_
 first | refine b5 Z Z (i7 G Z Z Z Z Z (c1f J) Z) ?_ | refine b5 Z Z (i7 G Z Z Z Z Z (x7 J J) Z) ?_
 refine zcl (b0H (wrd s 0) (x4 s) hal) ?_
 refine zgo ?_
 refine a7 Z (d8 G 10 Z Z Z Z Z ?_)
 refine zcd (λh104=>?_) (λh104=>?_)
 ·have cA:=b2O m (wrd s 0) (x4 s) hs hM hal h104
  have hC:=b9h (m:=m) h101 hNK h104
  generalize a4X m (l9 (wrd s 0)) (x4 s)=ra at cA hC
  obtain ⟨r,ok⟩:=ra
  dsimp only at cA
  refine zgd ?_
  refine zgo ?_
  refine j4 Z (r5 Z Z (N4 Z Z) ?_)
  refine zgo ?_
  refine j4 Z ?_
  first | refine r5 Z Z (b9 G Z Z Z Z Z J (by rw [List.length_map];omega)) ?_ | refine r5 Z Z (b9 G Z Z Z Z Z J J) ?_
  refine j4 Z ?_
  first | refine r5 Z Z (i7 G Z Z Z Z Z (c1f J) Z) ?_ | refine r5 Z Z (i7 G Z Z Z Z Z (x7 J J) Z) ?_
  refine zcl (Ctr.argsTo cA (λw vs h=>c66 flM vs h)) ?_
  refine zgo ?_
  refine e6 ⟨.inr Z,_,Z,Z,?_⟩
  refine zcd (λh105=>?_) (λh105=>?_)
  ·have hO:=H2 h1 h2 h3 (a40 (hC.trans (by rw [h105])))
   exact b1E
  have hO:=H2 h1 h2 h3 (b2y (hC.trans (by rw [h105])))
  exact b1E
 have hD:=b9i (m:=m) h101 hNK h104
 have hir:=@a3s m (X6 (l9 (wrd s 0)) (x4 s)).1
 have cS:=a5f m (X6 (l9 (wrd s 0)) (x4 s)).1.k (X6 (l9 (wrd s 0)) (x4 s)).1.q (X6 (l9 (wrd s 0)) (x4 s)).1.c (X6 (l9 (wrd s 0)) (x4 s)).1.v hs
 have est:(⟨(X6 (l9 (wrd s 0)) (x4 s)).1.k,(X6 (l9 (wrd s 0)) (x4 s)).1.q,(X6 (l9 (wrd s 0)) (x4 s)).1.c,(X6 (l9 (wrd s 0)) (x4 s)).1.v⟩:MStep)=(X6 (l9 (wrd s 0)) (x4 s)).1:=rfl
 rw [est] at cS
 unfold b3T at hD
 generalize smT m (X6 (l9 (wrd s 0)) (x4 s)).1=sr at cS hD hir
 obtain ⟨m1,ir,ok⟩:=sr
 dsimp only at cS hD hir
 refine zgn ?_
 refine p6 (j7 14 [0,1,2,3,4,5,6,7,8,9] mixed Y Z Z (λr0=>?_) (λ_ h=>h))
 refine zsa 0 ?_
 refine zsa 4 ?_
 refine x5 (N:=11) Z (r7 (fuel:=11) [⟨10,14,10,true,.box (avR [.slice none 0 0,.slice none 0 0,.slice none 0 0,.slice none 0 0] [])⟩] (AllVOK.cons (VOK.boxS G Z Z Z Z Z) (AllVOK.nil)) (λhok=>?_))
 refine m5 [(1,[])] Y Y (λe he=>hok e he) Y (AllVS.cons ?_ AllVS.nil)
 refine VStep.mk0 [0,1,2,3,4,5,6,7,8,9] Z Z (λb1 _ hbn=>b5 Z Z (N4 Z Z) (b6 Z)) Y Y Y Y (s8 2 Z Y Z Z Z Z (m9 G Z Z Z Z) Y Y Y (s8 3 Z Y Z Z Z Z (i6 G Z Z Z Z Z Z) Y Y Y (m5 [(5,[])] Y Y (λe he=>hok e he) Y (AllVS.cons ?_ AllVS.nil))))
 refine VStep.mk0 [0,1,2,3,4,5,6,7,8,9] Z Z (λb1 _ hbn=>c8 15 Z Z Z (ArgsOK.of Z) (Ctr.argsTo cS (λw vs h=>c66 flM vs h)) Z Z (b6 Z)) Y Y Y Y (s8 6 Z Y Z Z Z Z (c7 Z Z) Y Y Y (s8 7 Z Y Z Z Z Z (j8 Z Z Z) Y Y Y (s8 8 Z Y Z Z Z Z (j8 Z Z Z) Y Y Y (s8 9 Z Y Z Z Z Z (j8 Z Z Z) Y Y Y (m5 [(11,[10])] Y Y (λe he=>hok e he) Y (AllVS.cons ?_ AllVS.nil))))))
 refine VStep.mk1 [0,1,2,3,4,5,6,7,8,9] 14 (.ptr 10 0) 10 (.box (avR [.slice none 0 0,.slice none 0 0,.slice none 0 0,.slice none 0 0] [])) [] Z Z Z Z Z (λb1 _ hbn=>m4 G Z Z Z Z Z Z Z Z Z Z Z (b6 Z)) Y Y Y Y (D0 ?_)
 clear hok
 refine zsa 12 ?_
 refine zsa 13 ?_
 refine C4 Y ?_
 refine znk ?_
 refine zcd (λh105=>?_) (λh105=>?_)
 ·refine zgo ?_
  refine e6 ⟨.inr Z,_,Z,Z,?_⟩
  have hO:=H2 h1 h2 h3 (a40 (hD.trans (by rw [h105];rfl)))
  refine zwt ?_
  exact b1E
 refine zgo ?_
 refine a7 Z (b5 Z Z (N4 Z Z) ?_)
 refine zcd (λh106=>?_) (λh106=>?_)
 ·refine zcl (x9 ir J J) ?_
  refine zgo ?_
  refine e6 ⟨.inr Z,_,Z,Z,?_⟩
  have hO:=H2 h1 h2 h3 (b2y (hD.trans (by rw [h105,if_pos Z,if_neg h106])))
  refine zwf ?_
  exact b1E
 refine zgo ?_
 refine e6 ⟨.inr Z,_,Z,Z,?_⟩
 have hO:=H2 h1 h2 h3 (b2y (hD.trans (by rw [h105,if_pos Z,if_pos h106])))
 refine zwf ?_
 refine zgo ?_
 refine a7 Z (b5 Z Z (o9 G Z Z Z) ?_)
 refine zcd (λh110=>?_) (λh110=>?_)
 ·try rw [b2z J] at hO
  exact b9T
 try rw [a1i J] at hO
 have hrs:=h110
 refine zgo ?_
 refine a7 Z (b5 Z Z (f9 Z (ArgsOK.of Z) (Z4 x ⟨s,_⟩ hx ⟨by show s.size<=_;omega,by first | exact H1 (by decide) | exact F2 J | exact F2 (Int.ofNat_le.1 hrs)⟩) Z) ?_)
 refine zgo ?_
 refine e6 (m8 Z Z Z Z (b4 (d6 Z ?_) (b4 (d6 Z ?_) (b4 (d6 Z ?_) (b4 (C6 Z ?_) (b4 (l3 ?_) (b4 (l3 ?_) (b4 (l3 ?_) (b4 (l3 ?_) f6)))))))))
 all_goals (first | (rw [hO];done) | (rw [hO];rfl))
theorem a7w (m:Mach) (y:Lg) (t:ByteArray) (hs:SmallM m) (hx:y.d.size+y.p.size<=1048576) (hz:t.size<=1048576):Ctr Tryz.prog 14 [.agg [.lst 2 (m.rs.map l7),.lst 1 (m.en.map j6),.lst 1 (m.ra.map j6),.nst none 4 (m.cp.map (l6 169 182)),.v (.string y.d),.v (.string y.p),.v (.int .i64 y.n)],.v (.string t)] (.many [.fr 9 1 ((scT m y t).1.map U0),.v (.bool (scT m y t).2)]):=by
 have hsl:=G6 (s:=t) (b:=10)
 refine Ctr.of (n:=45) G Tryz.func14 Z a8 Z Z Z (λw0=>?_)
 refine j5 0 Z (λ_=>Z) (λu0=>?_)
 refine vm3 ?_
 refine zcl (S7 m y hs hx) ?_
 refine zcd (λh1=>?_) (λh1=>?_)
 ·have hO:=c2f (t:=t) h1
  refine zwt ?_
  exact b9K
 refine c1s ?_
 refine zcd (λh2=>?_) (λh2=>?_)
 ·have hO:=c2g (m:=m) (y:=y) (t:=t) J
  exact b9K
 refine n9 ?_
 refine c8 2 Z Z Z (ArgsOK.of Z) (b7h t hz) Z Z ?_
 refine zcd (λh3=>?_) (λh3=>?_)
 ·have hO:=c2h (m:=m) (y:=y) (t:=t) J
  exact b9K
 refine n9 ?_
 refine b9y ?_
 refine zgn ?_
 refine zgn ?_
 refine r4 (B4 (Gh.bump 7 (by decide)) (d9 [2,26,27] [1] (λ(x:Bool×Nat)=>match x.1 with | false=>[(7,.own 2),(28,.v (.int .i64 (x.2:Int)))] | true=>[(7,.own 2),(28,.v (.int .i64 (x.2:Int)))]) (λ(x:Bool×Nat)=>match x.1 with | false=>[(0,some (.box [.pin (u0 0) 2 (m.rs.map l7),.pin (u0 1) 1 (m.en.map j6),.pin (u0 2) 1 (m.ra.map j6),.nst (some (u0 3)) 4 (m.cp.map (l6 169 182)),.v (.string y.d),.v (.string y.p),.v (.int .i64 y.n)])),(2,some (.row 9 1 ((a3u m y t x.2).map U0)))] | true=>[(0,some (.box [.own 3,.own 4,.own 5,.own 6,.v (.string (U9 m y (csT t) x.2).2.d),.v (.string (U9 m y (csT t) x.2).2.p),.v (.int .i64 (U9 m y (csT t) x.2).2.n)])),(2,some (.row 9 1 ((a3u m y t x.2).map U0))),(3,some (.row 83 2 ((U9 m y (csT t) x.2).1.rs.map l7))),(4,some (.row 4 1 ((U9 m y (csT t) x.2).1.en.map j6))),(5,some (.row 4 1 ((U9 m y (csT t) x.2).1.ra.map j6))),(6,some (.nest 135 4 ((U9 m y (csT t) x.2).1.cp.map (a1h 169 182)) []))]) (λ(x:Bool×Nat)=>x.2<=(e7 t 10).length/\(x.1=false→x.2=0)) (λ(x:Bool×Nat)=>(e7 t 10).length - x.2) (false,0) Z Z ?_ ?_ ?_ ?_))
 ·exact ⟨Nat.zero_le _,λ_=>Z⟩
 ·exact a0e
 ·exact b7e
 intro x hinv
 obtain ⟨ph,i⟩:=x;obtain ⟨hi,hph⟩:=hinv;dsimp only at hi hph;cases ph
 ·obtain rfl:i=0:=hph Z
  have hS:=hs
  have hL:=hx
  have hcs:=@b2C t 0
  have hrl:=@a0n m y t 0
  dsimp only
  refine vm4 ?_
  refine zcd (λh4=>?_) (λh4=>?_)
  ·refine c7L ?_
   refine c8 11 Z Z Z (ArgsOK.of Z) (S8 m y (csT t 0) hS hL J) Z Z ?_
   refine n9 ?_
   refine b9z ?_
   refine n9 ?_
   refine s4 G 13 Z Z Z Z Z Z Z Z ?_
   refine vm6 ?_
   refine zgn ?_
   refine b8 ?_
   refine P0 ?_
   exact c70
  exfalso;omega
 obtain ⟨hS,hL⟩:=a8U (cs:=csT t) hs hx i
 have hcs:=@b2C t i
 have hrl:=@a0n m y t i
 dsimp only
 refine vm4 ?_
 refine zcd (λh5=>?_) (λh5=>?_)
 ·refine c7L ?_
  refine c8 11 Z Z Z (ArgsOK.of Z) (Ctr.argsTo (S8 (U9 m y (csT t) i).1 (U9 m y (csT t) i).2 (csT t i) hS hL J) (λw vs h=>c8D flM vs h)) Z Z ?_
  refine n9 ?_
  refine b9z ?_
  refine n9 ?_
  refine s4 G 13 Z Z Z Z Z Z Z Z ?_
  refine vm6 ?_
  refine zgn ?_
  refine b8 ?_
  refine P0 ?_
  exact c71
 obtain rfl:i=(e7 t 10).length:=J
 have hO:=c7k (m:=m) (y:=y) (t:=t) h1 J J
 refine zgo ?_
 refine e6 (p8 Z Z Z Z (b4 (d6 Z ?_) (b4 (l3 ?_) f6)))
 all_goals exact b60
theorem b0i (m:Mach) (w:ByteArray) (c:Int) (hs:SmallM m) (hM:a0y m=true):Ctr Tryz.prog 99 [.agg [.lst 2 (m.rs.map l7),.lst 1 (m.en.map j6),.lst 1 (m.ra.map j6),.nst none 4 (m.cp.map (l6 169 182))],.v (.string w),.v (.int .i64 c)] (.one (.v (.string (a3t m (l9 w) c)))):=by
 have hG:=(maF hM).g
 have hcp:=hs.cp
 refine Ctr.of (n:=57) G Tryz.func99 Z a8 Z Z Z (λw0=>?_)
 refine j5 0 Z (λ_=>Z) (λu0=>?_)
 refine vm3 ?_
 refine b2H ?_
 refine zcd (λh1=>?_) (λh1=>?_)
 ·have hO:=c5m (k:=l9 w) h1
  exact b4X
 have hin:=s7.mp h1
 have hcl:(c).toNat < m.cp.length:=J
 have hI:=(hG.ok _ hcl).f
 have hsn:=hI.sn
 have hpl:=a1N hI.qu
 have hnx:=@a9y m.rs (S3 m) (c).toNat
 have cN:=a99 m.rs (S3 m) (c).toNat (b8Z hG) (by rw [b5T];exact hcl)
 rw [Int.toNat_of_nonneg J] at cN
 refine J4 ?_
 refine zcd (λh2=>?_) (λh2=>?_)
 ·have hO:=c5n h1 (b1v.mp h2)
  refine n9 ?_
  refine b2F ?_
  refine n9 ?_
  refine c8 2 Z Z Z (ArgsOK.of Z) (V0 (m.cp.getD (c).toNat default).qu hI.qu) Z Z ?_
  refine zcl (a0I (A6 (m.cp.getD (c).toNat default).qu) J (b9a hI.qu)) ?_
  exact b4X
 have k2:=mt b1v.mpr h2
 refine J4 ?_
 refine zcd (λh3=>?_) (λh3=>?_)
 ·have hO:=c5o h1 (b1w.mp h3)
  refine n9 ?_
  refine b2F ?_
  refine vm5 ?_
  refine b66 ?_
  refine zcl (a0I (m.cp.getD (c).toNat default).st J (b9b hI)) ?_
  exact b4X
 have k3:=mt b1w.mpr h3
 refine J4 ?_
 refine zcd (λh4=>?_) (λh4=>?_)
 ·have k4:=b2u.mp h4
  refine p6 (p6 (j7 7 [0] mixed a8 Z Z (λr0=>?_) (λ_ h=>h)))
  refine zsa 0 ?_
  refine zsa 1 ?_
  refine zsa 2 ?_
  refine zsa 4 ?_
  refine b7 (rs:=[3]) a8 Z (AllB.cons ?_ AllB.nil)
  refine f8 [0] Z Z (c8 6 Z Z Z (ArgsOK.of Z) (b0a m hG hs) Z Z (b6 ⟨Z,?_⟩))
  refine b7 (rs:=[5]) a8 Z (AllB.cons ?_ AllB.nil)
  refine f8 [0] Z Z (b5 Z Z (f9 Z (ArgsOK.of Z) cN Z) (b6 ⟨Z,?_⟩))
  refine zsa 6 ?_
  refine H4 ?_
  refine zcd (λh5=>?_) (λh5=>?_)
  ·have hO:=b9l h1 k4 J
   refine zcl (w3 (A9 m.rs (S3 m) (c).toNat) J J) ?_
   exact b4X
  have hO:=b9k h1 k4 J
  exact b4X
 have k4:=mt b2u.mpr h4
 refine J4 ?_
 refine zcd (λh6=>?_) (λh6=>?_)
 ·have hO:=c1g h1 (a68.mp h6)
  refine n9 ?_
  refine b2F ?_
  refine vm5 ?_
  refine b2F ?_
  refine vm5 ?_
  refine b66 ?_
  refine zcl (b0I (m.cp.getD (c).toNat default).qu.sl hI.qu.sl) ?_
  exact b4X
 have hO:=b9m (m:=m) (c:=c) k2 k3 (mt a68.mpr h6) k4
 exact b4X
end Go.Proofs.YtpfhomblkgmkkaaGreatDoor
