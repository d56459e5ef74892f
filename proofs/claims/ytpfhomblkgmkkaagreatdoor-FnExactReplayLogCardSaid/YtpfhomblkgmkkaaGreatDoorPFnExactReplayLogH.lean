/- Texts merged into one: M26, Q3, L7, Q6, K1, L8, R1, Q7. -/
import Derived.Test.YtpfhomblkgmkkaaGreatDoorPFnExactReplayLogG
set_option maxHeartbeats 4000000
set_option linter.unusedSimpArgs false
set_option linter.unusedVariables false
set_option maxRecDepth 20000
namespace Go.Proofs.YtpfhomblkgmkkaaGreatDoor
open Go Go.Rf
theorem a8e (z:Value) (sl:List Slot) (lim:Int) (hF:SlF sl) (hk:a2A sl lim=false):Ctr Tryz.prog 293 [.pin z 3 (sl.map j8),.v (.int .i64 lim)] (.many [.v z,.v (.int .i64 (-1))]):=by
 have hl4:=hF.len
 have hb:=@a1w sl true
 have hf:=@a2z sl
 have hkk:=b1z.mp hk
 refine Ctr.of (n:=33) G Tryz.func293 rfl b3 rfl rfl rfl (fun w0=>?_)
 refine zcl (a2O sl (by omega)) ?_
 refine zcd (fun h1=>?_) (fun h1=>?_)
 ·refine zwt ?_
  refine zgo ?_
  refine c6 (g8 rfl rfl rfl rfl (a7 (a81 ?_) (a7 (c1 ?_) b9)))
  all_goals (rfl)
 refine zgo ?_
 refine a0P ?_
 first | refine b6 rfl rfl (a3i G rfl rfl rfl rfl (by omega) (a1P (by omega))) ?_ | refine b6 rfl rfl (a3i G rfl rfl rfl rfl (by omega) (a0f (by omega) (by omega))) ?_ | refine b6 rfl rfl (a3i G rfl rfl rfl rfl (by omega) (B4 (by omega) (by omega))) ?_
 refine zcd (fun h2=>?_) (fun h2=>?_)
 ·refine zgo ?_
  refine c6 (g8 rfl rfl rfl rfl (a7 (a81 ?_) (a7 (c1 ?_) b9)))
  all_goals (rfl)
 exfalso;omega
theorem a7d (q:Que) (lim:Int) (hF:QF q) (hk:a2A q.sl lim=false):Ctr Tryz.prog 242 [.agg [.lst 3 (q.sl.map j8),.lst 2 (q.wa.map l1)],.v (.int .i64 lim)] (.shp false [some 2,none] [.fr 169 3 (q.sl.map j8),.fr 182 2 (q.wa.map l1),.v (.int .i64 (-1))]):=by
 have hl4:=hF.sl.len
 have hwn:=hF.wn
 refine Ctr.of (n:=24) G Tryz.func242 rfl b3 rfl rfl rfl (fun w0=>?_)
 refine o7 0 rfl (fun _=>rfl) (fun u0=>?_)
 refine T5 ?_
 refine zgo ?_
 refine b9V (t:=10) rfl (fun z10=>?_)
 refine o9 ?_
 refine b6 rfl rfl (f6 rfl (ArgsOK.pin1 rfl (ArgsOK.of rfl)) (a8e _ q.sl lim hF.sl hk) rfl) ?_
 refine zgn ?_
 refine u4 (H6 (Gh.asPin (d:=6) (t:=10) rfl rfl) (l4 11 [0] mixed b3 rfl rfl (fun r0=>?_) (fun _ h=>h)))
 refine zsa 1 ?_
 refine zsa 4 ?_
 refine zsa 5 ?_
 refine zsa 8 ?_
 refine w3 (N:=4) rfl (p4 (fuel:=5) [⟨0,15,2,false,.row 169 3 []⟩,⟨3,18,3,false,.row 182 2 []⟩] (AllVOK.cons (VOK.lit G rfl rfl rfl rfl rfl) (AllVOK.cons (VOK.lit G rfl rfl rfl rfl rfl) (AllVOK.nil))) (fun hok=>?_))
 refine j3 [(2,[0])] b3 b3 (fun e he=>hok e he) b3 (AllVS.cons ?_ AllVS.nil)
 refine VStep.mk1 [0] 15 (.own 2) 2 (.row 169 3 []) [⟨3,18,3,false,.row 182 2 []⟩] rfl rfl rfl rfl rfl (fun b1 _ hbn=>g9 G N3 rfl rfl rfl rfl rfl rfl rfl rfl rfl C3 rfl rfl (b4 rfl)) b3 b3 b3 b3 (j3 [(6,[3])] b3 b3 (fun e he=>hok e (vin (is:=[0]) rfl he)) b3 (AllVS.cons ?_ AllVS.nil))
 refine VStep.mk1 [0] 18 (.own 3) 3 (.row 182 2 []) [] rfl rfl rfl rfl rfl (fun b1 _ hbn=>g9 G N3 rfl rfl rfl rfl rfl rfl rfl rfl rfl C3 rfl rfl (b4 rfl)) b3 b3 b3 b3 (B3 ?_)
 clear hok
 refine b5 (rs:=[7]) b3 rfl (AllB.cons ?_ AllB.nil)
 refine a2U ?_
 refine b5 (rs:=[9]) b3 rfl (AllB.cons ?_ AllB.nil)
 refine a2U ?_
 refine zsa 10 ?_
 refine G3 ?_
 refine c6 (d9 rfl rfl rfl rfl (a7 (b7 rfl ?_) (a7 (b7 rfl ?_) (a7 (c1 ?_) b9))))
 all_goals (first | rfl | simp)
theorem a6p (x:Ifc) (hF:IfF x) (hk:okT x=false):Ctr Tryz.prog 196 [.agg [.v (.int .i64 x.ma),.lst 1 (x.st.map Rf.r9),.lst 3 (x.qu.sl.map j8),.lst 2 (x.qu.wa.map l1)]] (.shp false [some 4,none] [.v (.int .i64 x.ma),.fr 3 1 (x.st.map Rf.r9),.fr 169 3 (x.qu.sl.map j8),.fr 182 2 (x.qu.wa.map l1),.v (.int .i64 (-1))]):=by
 have hl4:=hF.qu.sl.len
 have hwn:=hF.qu.wn
 have hsn:=hF.sn
 refine Ctr.of (n:=35) G Tryz.func196 rfl b3 rfl rfl rfl (fun w0=>?_)
 refine o7 0 rfl (fun _=>rfl) (fun u0=>?_)
 refine T5 ?_
 refine zgn ?_
 refine u4 (l4 14 [0,1] mixed b3 rfl rfl (fun r0=>?_) (fun _ h=>h))
 refine a1e ?_
 refine zsa 4 ?_
 refine w3 (N:=3) rfl (p4 (fuel:=8) [⟨11,4,2,true,.box (avR [.slice none 0 0,.slice none 0 0] [])⟩] (AllVOK.cons (VOK.boxS G rfl rfl rfl rfl rfl) (AllVOK.nil)) (fun hok=>?_))
 refine j3 [(5,[])] b3 b3 (fun e he=>hok e he) b3 (AllVS.cons ?_ AllVS.nil)
 refine VStep.mk0 [0,1] rfl rfl (fun b1 _ hbn=>b6 rfl rfl (f6 rfl (ArgsOK.of rfl) (a1C x hF) rfl) (b4 rfl)) b3 b3 b3 b3 (j3 [(6,[])] b3 b3 (fun e he=>hok e he) b3 (AllVS.cons ?_ AllVS.nil))
 refine VStep.mk0 [0,1] rfl rfl (fun b1 _ hbn=>b6 rfl rfl (f6 rfl (ArgsOK.of rfl) (a3A _ _) rfl) (b4 rfl)) b3 b3 b3 b3 (j3 [(7,[])] b3 b3 (fun e he=>hok e he) b3 (AllVS.cons ?_ AllVS.nil))
 refine VStep.mk0 [0,1] rfl rfl (fun b1 _ hbn=>d7 5 rfl rfl rfl (ArgsOK.of rfl) (a7d x.qu (b9E x) hF.qu hk) rfl rfl (b4 rfl)) b3 b3 b3 b3 (w6 8 rfl b3 rfl rfl rfl rfl (e6 rfl rfl) b3 b3 b3 (w6 9 rfl b3 rfl rfl rfl rfl (n8 rfl rfl rfl) b3 b3 b3 (w6 10 rfl b3 rfl rfl rfl rfl (n8 rfl rfl rfl) b3 b3 b3 (j3 [(12,[11])] b3 b3 (fun e he=>hok e he) b3 (AllVS.cons ?_ AllVS.nil)))))
 refine c30 ?_
 clear hok
 refine zsa 13 ?_
 refine G3 ?_
 refine u4 (l4 9 [0,1,2,3,4] mixed b3 rfl rfl (fun r0=>?_) (fun _ h=>h))
 refine a1e ?_
 refine zsa 5 ?_
 refine w3 (N:=6) rfl (p4 (fuel:=3) [⟨7,6,5,true,.box (avR [.int .i64 0,.slice none 0 0,.slice none 0 0,.slice none 0 0] [])⟩] (AllVOK.cons (VOK.boxS G rfl rfl rfl rfl rfl) (AllVOK.nil)) (fun hok=>?_))
 refine j3 [(4,[])] b3 b3 (fun e he=>hok e he) b3 (AllVS.cons ?_ AllVS.nil)
 refine VStep.mk0 [0,1,2,3,4] rfl rfl (fun b1 _ hbn=>d7 7 rfl rfl rfl (ArgsOK.of rfl) (H5 x.st (by omega)) rfl rfl (b4 rfl)) b3 b3 b3 b3 (j3 [(6,[])] b3 b3 (fun e he=>hok e he) b3 (AllVS.cons ?_ AllVS.nil))
 refine VStep.mk0 [0,1,2,3,4] rfl rfl (fun b1 _ hbn=>b6 rfl rfl (v8 G rfl rfl rfl rfl) (b4 rfl)) b3 b3 b3 b3 (j3 [(8,[7])] b3 b3 (fun e he=>hok e he) b3 (AllVS.cons ?_ AllVS.nil))
 refine c3X ?_
 clear hok
 refine G3 ?_
 refine zcd (fun h1=>?_) (fun h1=>?_)
 ·exfalso;omega
 refine zgo ?_
 refine c6 (d9 rfl rfl rfl rfl (a7 (c1 ?_) (a7 (b7 rfl ?_) (a7 (b7 rfl ?_) (a7 (b7 rfl ?_) (a7 (c1 ?_) b9))))))
 all_goals (rfl)
theorem a4W (x:Ifc) (hn:x.st.length=0):CtrE (α:=Nat→Option Addr×Nat×Nat) Tryz.prog 197 [.agg [.v (.int .i64 x.ma),.lst 1 (x.st.map Rf.r9),.lst 3 (x.qu.sl.map j8),.lst 2 (x.qu.wa.map l1)]] (fun y=>(.shp false [some 4,none] [.v (.int .i64 x.ma),.v (.slice (y 1).1 (y 1).2.1 (y 1).2.2),.v (.slice (y 2).1 (y 2).2.1 (y 2).2.2),.v (.slice (y 3).1 (y 3).2.1 (y 3).2.2),.v (.int .i64 (-1))])):=by
 refine CtrE.of (n:=41) G Tryz.func197 rfl b3 rfl rfl rfl (fun w0=>?_)
 refine c2d 0 rfl (fun _=>rfl) (fun u0=>?_)
 refine T5 ?_
 refine zcd (fun h1=>?_) (fun h1=>?_)
 ·refine zgo ?_
  refine c6 (c1x (u0) (d9 rfl rfl rfl rfl (a7 (c1 ?_) (a7 (a81 ?_) (a7 (a81 ?_) (a7 (a81 ?_) (a7 (c1 ?_) b9)))))))
  all_goals (rfl)
 exfalso;omega
theorem a9U (m:Mach) (sk sq sc sv:Int) (hM:MaG m) (hv:M6 m.cp.length ⟨sk,sq,sc,sv⟩=true) (ho:¬ b1T m ⟨sk,sq,sc,sv⟩):Ctr Tryz.prog 148 [.agg [.lst 2 (m.rs.map p8),.lst 1 (m.en.map r3),.lst 1 (m.ra.map r3),.nst none 4 (m.cp.map (s6 169 182))],.v (.agg ⟨[.int .i64 sk,.int .i64 sq,.int .i64 sc,.int .i64 sv]⟩)] (.shp false [some 4,none,none] [.fr 83 2 ((stM m ⟨sk,sq,sc,sv⟩).1.rs.map p8),.fr 4 1 ((stM m ⟨sk,sq,sc,sv⟩).1.en.map r3),.fr 4 1 ((stM m ⟨sk,sq,sc,sv⟩).1.ra.map r3),.ne 135 4 ((stM m ⟨sk,sq,sc,sv⟩).1.cp.map (s6 169 182)),.v (.int .i64 (stM m ⟨sk,sq,sc,sv⟩).2.1),.v (.bool (stM m ⟨sk,sq,sc,sv⟩).2.2)]):=by
 have f1:=hM.n
 have f2:=hM.en
 have f3:=hM.ra
 have f4:=hM.rn
 refine Ctr.of (n:=107) G Tryz.func148 rfl b3 rfl rfl rfl (fun w0=>?_)
 refine o7 0 rfl (fun _=>rfl) (fun u0=>?_)
 refine b4d ?_
 refine vm5 ?_
 refine d7 7 rfl rfl rfl (ArgsOK.of rfl) (a1L m hM) rfl rfl ?_
 refine o9 ?_
 refine b3s ?_
 refine zcd (fun h1=>?_) (fun h1=>?_)
 ·have hq:=b9o hv (by omega)
  obtain ⟨q,rfl⟩:∃ q:Nat,sq=q:=⟨sq.toNat,by omega⟩
  have hS:=sm1 (m:=m) (sc:=sc) (sv:=sv) (q:=q) h1
  refine b95 ?_
  refine zgn ?_
  refine u4 (l4 11 [0,1,3,4,5,6,7] mixed b3 rfl rfl (fun r0=>?_) (fun _ h=>h))
  refine a1e ?_
  refine zsa 4 ?_
  refine a1f ?_
  refine zsa 7 ?_
  refine b5 (rs:=[8]) b3 rfl (AllB.cons ?_ AllB.nil)
  refine i1 [0,1,3,4,5,6,7] rfl rfl ?_
  refine vm9 ?_
  refine zsa 9 ?_
  refine zsa 10 ?_
  refine G3 ?_
  refine c6 (d9 rfl rfl rfl rfl (a7 (b7 rfl ?_) (a7 (b7 rfl ?_) (a7 (b7 rfl ?_) (a7 (n7 rfl ?_) (a7 (c1 ?_) (a7 (c1 ?_) b9)))))))
  all_goals exact b06
 refine zcd (fun h2=>?_) (fun h2=>?_)
 ·have hS:=sm2 (m:=m) (sq:=sq) (sc:=sc) (sv:=sv) h2
  refine vm5 ?_
  refine d7 12 rfl rfl rfl (ArgsOK.of rfl) (a9T m hM) rfl rfl ?_
  refine zgo ?_
  refine c6 (d9 rfl rfl rfl rfl (a7 (b7 rfl ?_) (a7 (b7 rfl ?_) (a7 (b7 rfl ?_) (a7 (n7 rfl ?_) (a7 (c1 ?_) (a7 (c1 ?_) b9)))))))
  all_goals exact b06
 refine zcd (fun h3=>?_) (fun h3=>?_)
 ·have hc:=b1w hv (by omega)
  obtain ⟨c,rfl⟩:∃ c:Nat,sc=c:=⟨sc.toNat,by omega⟩
  obtain ⟨g1,g2,g3⟩:=hM.lens (k:=c) (by omega)
  have hIG:=hM.ok c (by omega)
  have hk:=c4o ho h3
  have hS:=sm3 (m:=m) (sq:=sq) (sv:=sv) (c:=c) h3 hk
  have hbd:=b1W hIG hk
  refine vm5 ?_
  refine d7 11 rfl rfl rfl (ArgsOK.of rfl) (a9J (m.cp.getD c default) hIG.f hk) rfl rfl ?_
  refine vm5 ?_
  refine d8 G 12 rfl rfl rfl rfl rfl ?_
  refine vm4 ?_
  refine zgo ?_
  refine c6 (d9 rfl rfl rfl rfl (a7 (b7 rfl ?_) (a7 (b7 rfl ?_) (a7 (b7 rfl ?_) (a7 (n7 rfl ?_) (a7 (c1 ?_) (a7 (c1 ?_) b9)))))))
  all_goals exact b06
 refine zcd (fun h4=>?_) (fun h4=>?_)
 ·have hc:=b1w hv (by omega)
  obtain ⟨c,rfl⟩:∃ c:Nat,sc=c:=⟨sc.toNat,by omega⟩
  obtain ⟨g1,g2,g3⟩:=hM.lens (k:=c) (by omega)
  have hIG:=hM.ok c (by omega)
  have hk:=c4p ho h4
  have hS:=sm4 (m:=m) (sq:=sq) (sv:=sv) (c:=c) h4 hk
  have hbd:=a9w hIG hk
  refine vm5 ?_
  refine d7 11 rfl rfl rfl (ArgsOK.of rfl) (a8d (m.cp.getD c default) hIG hk) rfl rfl ?_
  refine vm5 ?_
  refine d8 G 12 rfl rfl rfl rfl rfl ?_
  refine vm4 ?_
  refine zgo ?_
  refine c6 (d9 rfl rfl rfl rfl (a7 (b7 rfl ?_) (a7 (b7 rfl ?_) (a7 (b7 rfl ?_) (a7 (n7 rfl ?_) (a7 (c1 ?_) (a7 (c1 ?_) b9)))))))
  all_goals exact b06
 refine zcd (fun h5=>?_) (fun h5=>?_)
 ·have hc:=b1w hv (by omega)
  obtain ⟨c,rfl⟩:∃ c:Nat,sc=c:=⟨sc.toNat,by omega⟩
  obtain ⟨g1,g2,g3⟩:=hM.lens (k:=c) (by omega)
  have hIG:=hM.ok c (by omega)
  have hS:=sm5 (m:=m) (sq:=sq) (sv:=sv) (c:=c) h5
  refine u4 (H6 (Gh.open (id:=6) (i:=c) (k:=1) 9 rfl rfl (c2e (by omega)) rfl rfl) (H6 (Gh.open (id:=6) (i:=c) (k:=2) 10 rfl rfl (a2T H8 rfl) rfl rfl) (H6 (Gh.open (id:=6) (i:=c) (k:=3) 11 rfl rfl (a2T H8 rfl) rfl rfl) ?_)))
  refine c2F ?_
  refine b6 rfl rfl (R0 G rfl rfl rfl rfl (a2T H8 rfl) rfl (.v (.own a6e (.own a6e (.own a6e .nil))))) ?_
  refine o9 ?_
  refine d8 G 12 rfl rfl rfl rfl rfl ?_
  refine zgn ?_
  refine zgn ?_
  refine u4 (H6 (Gh.detach (id:=6) rfl) (H6 (Gh.detach (id:=6) rfl) (H6 (Gh.detach (id:=6) rfl) ?_)))
  refine vm4 ?_
  refine zgo ?_
  refine c6 (d9 rfl rfl rfl rfl (a7 (b7 rfl ?_) (a7 (b7 rfl ?_) (a7 (b7 rfl ?_) (a7 (n7 rfl ?_) (a7 (c1 ?_) (a7 (c1 ?_) b9)))))))
  all_goals exact b06
 have hk:=c3o hv
 have hq:=b9o hv (by omega)
 obtain ⟨q,rfl⟩:∃ q:Nat,sq=q:=⟨sq.toNat,by omega⟩
 have hS:=sm6 (m:=m) (sk:=sk) (sc:=sc) (sv:=sv) (q:=q) (by omega)
 refine b95 ?_
 refine zgo ?_
 refine c6 (d9 rfl rfl rfl rfl (a7 (b7 rfl ?_) (a7 (b7 rfl ?_) (a7 (b7 rfl ?_) (a7 (n7 rfl ?_) (a7 (c1 ?_) (a7 (c1 ?_) b9)))))))
 all_goals exact b06
theorem a6q (m:Mach) (sk sq sc sv:Int) (hM:MaG m) (hv:M6 m.cp.length ⟨sk,sq,sc,sv⟩=true) (ho:b1T m ⟨sk,sq,sc,sv⟩):Ctr Tryz.prog 148 [.agg [.lst 2 (m.rs.map p8),.lst 1 (m.en.map r3),.lst 1 (m.ra.map r3),.nst none 4 (m.cp.map (s6 169 182))],.v (.agg ⟨[.int .i64 sk,.int .i64 sq,.int .i64 sc,.int .i64 sv]⟩)] (.shp false [some 4,none,none] [.fr 83 2 (m.rs.map p8),.fr 4 1 (m.en.map r3),.fr 4 1 (m.ra.map r3),.ne 135 4 (m.cp.map a4L),.v (.int .i64 (-1)),.v (.bool false)]):=by
 have f1:=hM.n
 have f2:=hM.en
 have f3:=hM.ra
 have f4:=hM.rn
 refine Ctr.of (n:=107) G Tryz.func148 rfl b3 rfl rfl rfl (fun w0=>?_)
 refine o7 0 rfl (fun _=>rfl) (fun u0=>?_)
 refine b4d ?_
 refine vm5 ?_
 refine d7 7 rfl rfl rfl (ArgsOK.of rfl) (a1L m hM) rfl rfl ?_
 refine o9 ?_
 refine b3s ?_
 refine zcd (fun h1=>?_) (fun h1=>?_)
 ·exact absurd (b38 ho) (by omega)
 refine zcd (fun h2=>?_) (fun h2=>?_)
 ·exact absurd (b38 ho) (by omega)
 refine zcd (fun h3=>?_) (fun h3=>?_)
 ·have hc:=b1w hv (by omega)
  obtain ⟨c,rfl⟩:∃ c:Nat,sc=c:=⟨sc.toNat,by omega⟩
  obtain ⟨g1,g2,g3⟩:=hM.lens (k:=c) (by omega)
  have hIG:=hM.ok c (by omega)
  have hk:=c14 ho h3
  refine vm5 ?_
  refine d7 11 rfl rfl rfl (ArgsOK.of rfl) (a6p (m.cp.getD c default) hIG.f hk) rfl rfl ?_
  refine vm5 ?_
  refine d8 G 12 rfl rfl rfl rfl rfl ?_
  refine vm4 ?_
  refine zgn ?_
  refine u4 (H6 (Gh.nestX (id:=6) m.cp rfl (by simp only [List.length_set,List.length_map])) ?_)
  refine zgo ?_
  refine c6 (d9 rfl rfl rfl rfl (a7 (b7 rfl ?_) (a7 (b7 rfl ?_) (a7 (b7 rfl ?_) (a7 (n7 rfl ?_) (a7 (c1 ?_) (a7 (c1 ?_) b9)))))))
  all_goals (rfl)
 refine zcd (fun h4=>?_) (fun h4=>?_)
 ·have hc:=b1w hv (by omega)
  obtain ⟨c,rfl⟩:∃ c:Nat,sc=c:=⟨sc.toNat,by omega⟩
  obtain ⟨g1,g2,g3⟩:=hM.lens (k:=c) (by omega)
  have hIG:=hM.ok c (by omega)
  have hk:=c15 ho h4
  refine zgo ?_
  refine a8 rfl (a87 8 rfl rfl rfl (ArgsOK.of rfl) (a4W (m.cp.getD c default) hk) (fun _=>rfl) rfl (fun y1=>?_))
  refine vm5 ?_
  refine d8 G 9 rfl rfl rfl rfl rfl ?_
  refine c2F ?_
  first | refine s1 G rfl rfl rfl rfl rfl (B4 (by omega) (by omega)) rfl rfl (.v rfl (.v rfl (.v rfl (.v rfl .nil)))) rfl rfl rfl (Nat.le_of_ble_eq_true rfl) (fun q h=>by cases h) rfl ?_ | refine s1 G rfl rfl rfl rfl rfl (a0f (by omega) (by omega)) rfl rfl (.v rfl (.v rfl (.v rfl (.v rfl .nil)))) rfl rfl rfl (Nat.le_of_ble_eq_true rfl) (fun q h=>by cases h) rfl ?_ | refine s1 G rfl rfl rfl rfl rfl (a2T H8 rfl) rfl rfl (.v rfl (.v rfl (.v rfl (.v rfl .nil)))) rfl rfl rfl (Nat.le_of_ble_eq_true rfl) (fun q h=>by cases h) rfl ?_
  refine zgn ?_
  refine u4 (H6 (Gh.nestX (id:=6) m.cp rfl (by simp only [List.length_set,List.length_map])) ?_)
  refine zgo ?_
  refine c6 (d9 rfl rfl rfl rfl (a7 (b7 rfl ?_) (a7 (b7 rfl ?_) (a7 (b7 rfl ?_) (a7 (n7 rfl ?_) (a7 (c1 ?_) (a7 (c1 ?_) b9)))))))
  all_goals (rfl)
 exact absurd (b38 ho) (by omega)
end Go.Proofs.YtpfhomblkgmkkaaGreatDoor
set_option maxRecDepth 20000
namespace Go.Proofs.YtpfhomblkgmkkaaGreatDoor
open Go Go.Rf
theorem a4X (m:Mach) (sk sq sc sv:Int) (hs:SmallM m):Ctr Tryz.prog 74 [.agg [.lst 2 (m.rs.map p8),.lst 1 (m.en.map r3),.lst 1 (m.ra.map r3),.nst none 4 (m.cp.map (s6 169 182))],.v (.agg ⟨[.int .i64 sk,.int .i64 sq,.int .i64 sc,.int .i64 sv]⟩)] (.shp false [some 4,none,none] [.fr 83 2 ((smT m ⟨sk,sq,sc,sv⟩).1.rs.map p8),.fr 4 1 ((smT m ⟨sk,sq,sc,sv⟩).1.en.map r3),.fr 4 1 ((smT m ⟨sk,sq,sc,sv⟩).1.ra.map r3),.ne 135 4 ((smT m ⟨sk,sq,sc,sv⟩).1.cp.map (a1K 169 182)),.v (.int .i64 (smT m ⟨sk,sq,sc,sv⟩).2.1),.v (.bool (smT m ⟨sk,sq,sc,sv⟩).2.2)]):=by
 have hcp:=hs.cp
 refine Ctr.of (n:=32) G Tryz.func74 rfl b3 rfl rfl rfl (fun w0=>?_)
 refine o7 0 rfl (fun _=>rfl) (fun u0=>?_)
 refine b4d ?_
 refine zcl (Z4 m hs) ?_
 refine zcd (fun h1=>?_) (fun h1=>?_)
 ·have hO:=a9u (s:=⟨sk,sq,sc,sv⟩) (.inl h1)
  refine zwt ?_
  refine zgo ?_
  refine c6 (d9 rfl rfl rfl rfl (a7 (r8 ?_) (a7 (r8 ?_) (a7 (r8 ?_) (a7 (U4 ?_) (a7 (c1 ?_) (a7 (c1 ?_) b9)))))))
  all_goals exact b12
 have hM:=(maF h1).g
 refine zcl (a38 m ⟨sk,sq,sc,sv⟩ (by omega)) ?_
 refine zcd (fun h2=>?_) (fun h2=>?_)
 ·have hO:=a9u (m:=m) (.inr (.inl h2))
  refine zgo ?_
  refine c6 (d9 rfl rfl rfl rfl (a7 (r8 ?_) (a7 (r8 ?_) (a7 (r8 ?_) (a7 (U4 ?_) (a7 (c1 ?_) (a7 (c1 ?_) b9)))))))
  all_goals exact b12
 refine vm5 ?_
 refine d7 7 rfl rfl rfl (ArgsOK.of rfl) (a4V m sk sq sc sv hM h2) rfl rfl ?_
 refine vm5 ?_
 refine b3s ?_
 refine zcd (fun h3=>?_) (fun h3=>?_)
 ·have hO:=a9u (.inr (.inr h3))
  refine zgo ?_
  refine c6 (d9 rfl rfl rfl rfl (a7 (r8 ?_) (a7 (r8 ?_) (a7 (r8 ?_) (a7 (U4 ?_) (a7 (c1 ?_) (a7 (c1 ?_) b9)))))))
  all_goals exact b12
 have hO:=c0F h1 h2 h3
 refine zgo ?_
 refine c6 (d9 rfl rfl rfl rfl (a7 (b7 rfl ?_) (a7 (b7 rfl ?_) (a7 (b7 rfl ?_) (a7 (n7 rfl ?_) (a7 (c1 ?_) (a7 (c1 ?_) b9)))))))
 all_goals exact b12
theorem z6 (m:Mach) (sk sq sc sv:Int) (hs:SmallM m):Ctr Tryz.prog 100 [.agg [.lst 2 (m.rs.map p8),.lst 1 (m.en.map r3),.lst 1 (m.ra.map r3),.nst none 4 (m.cp.map (s6 169 182))],.v (.agg ⟨[.int .i64 sk,.int .i64 sq,.int .i64 sc,.int .i64 sv]⟩)] (.shp false [some 4,none,none] [.fr 83 2 ((smT m ⟨sk,sq,sc,sv⟩).1.rs.map p8),.fr 4 1 ((smT m ⟨sk,sq,sc,sv⟩).1.en.map r3),.fr 4 1 ((smT m ⟨sk,sq,sc,sv⟩).1.ra.map r3),.ne 135 4 ((smT m ⟨sk,sq,sc,sv⟩).1.cp.map (s6 169 182)),.v (.int .i64 (smT m ⟨sk,sq,sc,sv⟩).2.1),.v (.bool (smT m ⟨sk,sq,sc,sv⟩).2.2)]):=by
 have hcp:=hs.cp
 refine Ctr.of (n:=32) G Tryz.func100 rfl b3 rfl rfl rfl (fun w0=>?_)
 refine o7 0 rfl (fun _=>rfl) (fun u0=>?_)
 refine b4d ?_
 refine zcl (a3C m hs) ?_
 refine zcd (fun h1=>?_) (fun h1=>?_)
 ·have hO:=a9u (s:=⟨sk,sq,sc,sv⟩) (.inl h1)
  refine zwt ?_
  refine zgo ?_
  refine c6 (d9 rfl rfl rfl rfl (a7 (r8 ?_) (a7 (r8 ?_) (a7 (r8 ?_) (a7 (U4 ?_) (a7 (c1 ?_) (a7 (c1 ?_) b9)))))))
  all_goals exact b12
 have hM:=(maF h1).g
 refine zcl (a7c m ⟨sk,sq,sc,sv⟩ (by omega)) ?_
 refine zcd (fun h2=>?_) (fun h2=>?_)
 ·have hO:=a9u (m:=m) (.inr (.inl h2))
  refine zgo ?_
  refine c6 (d9 rfl rfl rfl rfl (a7 (r8 ?_) (a7 (r8 ?_) (a7 (r8 ?_) (a7 (U4 ?_) (a7 (c1 ?_) (a7 (c1 ?_) b9)))))))
  all_goals exact b12
 refine zgn ?_
 refine u4 ?_
 by_cases hno:b1T m ⟨sk,sq,sc,sv⟩
 ·have hO:=a9u (.inr (.inr (c16 hno)))
  refine vm5 ?_
  refine d7 7 rfl rfl rfl (ArgsOK.of rfl) (a6q m sk sq sc sv hM h2 hno) rfl rfl ?_
  refine vm5 ?_
  refine b3s ?_
  refine zwt ?_
  refine zgo ?_
  refine c6 (d9 rfl rfl rfl rfl (a7 (r8 ?_) (a7 (r8 ?_) (a7 (r8 ?_) (a7 (U4 ?_) (a7 (c1 ?_) (a7 (c1 ?_) b9)))))))
  all_goals exact b12
 refine vm5 ?_
 refine d7 7 rfl rfl rfl (ArgsOK.of rfl) (a9U m sk sq sc sv hM h2 hno) rfl rfl ?_
 refine vm5 ?_
 refine b3s ?_
 refine zcd (fun h3=>?_) (fun h3=>?_)
 ·have hO:=a9u (.inr (.inr h3))
  refine zgo ?_
  refine c6 (d9 rfl rfl rfl rfl (a7 (r8 ?_) (a7 (r8 ?_) (a7 (r8 ?_) (a7 (U4 ?_) (a7 (c1 ?_) (a7 (c1 ?_) b9)))))))
  all_goals exact b12
 have hO:=c0F h1 h2 h3
 refine zgo ?_
 refine c6 (d9 rfl rfl rfl rfl (a7 (b7 rfl ?_) (a7 (b7 rfl ?_) (a7 (b7 rfl ?_) (a7 (n7 rfl ?_) (a7 (c1 ?_) (a7 (c1 ?_) b9)))))))
 all_goals exact b12
end Go.Proofs.YtpfhomblkgmkkaaGreatDoor
set_option maxRecDepth 20000
namespace Go.Proofs.YtpfhomblkgmkkaaGreatDoor
open Go Go.Rf
theorem d5 (x:Lg) (r:Rec) (hx:x.d.size+x.p.size≤1048576) (hr:r.c.size≤9223372036854775807∧r.r.size≤9223372036854775807):Ctr Tryz.prog 30 [.v (a5m x),.v (b2u r)] (.many [.v (a5m (apE x r)),.v (.int .i64 (apN x r))]):=by
 refine Ctr.of (n:=32) G Tryz.func30 rfl b3 rfl rfl rfl (fun w0=>?_)
 refine b4d ?_
 refine zcl (a0c _ V3) ?_
 refine zcd (fun h1=>?_) (fun h1=>?_)
 ·have hO:=b9Q (x:=x) (r:=r) (c0C h1)
  refine zwt ?_
  refine zgo ?_
  refine c6 (g8 rfl rfl rfl rfl (a7 (A7 rfl ?_) (a7 (c1 ?_) b9)))
  all_goals exact a7A
 refine zcl (a1i _ c8) ?_
 refine zcd (fun h2=>?_) (fun h2=>?_)
 ·have hO:=b9Q (x:=x) (r:=r) (c0D h2)
  refine zgo ?_
  refine c6 (g8 rfl rfl rfl rfl (a7 (A7 rfl ?_) (a7 (c1 ?_) b9)))
  all_goals exact a7A
 refine zcd (fun h3=>?_) (fun h3=>?_)
 ·have hO:=c3u (x:=x) (r:=r) h1 h2 h3
  refine zgo ?_
  refine c6 (g8 rfl rfl rfl rfl (a7 (A7 rfl ?_) (a7 (c1 ?_) b9)))
  all_goals exact a7A
 have hz:=a8r (x:=x) c8
 have hls:=a64 (k:=x.n) (x:=r) (by omega) (by omega) c8
 have hO:=c3v (x:=x) (r:=r) h1 h2 h3
 refine zgo ?_
 apply x5 [2,4] [0,2] 3 9 [1,2] mixed b3 rfl rfl (fun _ h=>znk h)
 ·intro r0
  refine zsa 0 ?_
  refine zsa 2 ?_
  refine zsa 4 ?_
  refine b5 (rs:=[1,3]) b3 rfl (AllB.cons ?_ (AllB.cons ?_ AllB.nil))
  ·refine b3u ?_
   refine b5 (rs:=[3]) b3 rfl (AllB.cons ?_ AllB.nil)
   refine b3u ?_
   refine b5 (rs:=[5]) b3 rfl (AllB.cons ?_ AllB.nil)
   refine i1 [1,2] rfl rfl (b6 rfl rfl (f6 rfl (ArgsOK.of rfl) (V8 _ _ V3 V3 c8) rfl) (b4 ⟨rfl,?_⟩))
   refine c2L ?_
   refine b5 (rs:=[8]) b3 rfl (AllB.cons ?_ AllB.nil)
   refine b3u ?_
   exact l6 b3 (Meet.mk rfl rfl rfl rfl)
  refine b3u ?_
  refine b5 (rs:=[1,5]) b3 rfl (AllB.cons ?_ (AllB.cons ?_ AllB.nil))
  ·refine b3u ?_
   refine b5 (rs:=[5]) b3 rfl (AllB.cons ?_ AllB.nil)
   refine i1 [1,2] rfl rfl (b6 rfl rfl (f6 rfl (ArgsOK.of rfl) (V8 _ _ V3 V3 c8) rfl) (b4 ⟨rfl,?_⟩))
   refine c2L ?_
   refine b5 (rs:=[8]) b3 rfl (AllB.cons ?_ AllB.nil)
   refine b3u ?_
   exact l6 b3 (Meet.mk rfl rfl rfl rfl)
  refine i1 [1,2] rfl rfl (b6 rfl rfl (f6 rfl (ArgsOK.of rfl) (V8 _ _ V3 V3 c8) rfl) (b4 ⟨rfl,?_⟩))
  refine b5 (rs:=[1]) b3 rfl (AllB.cons ?_ AllB.nil)
  refine b3u ?_
  refine c2L ?_
  refine b5 (rs:=[8]) b3 rfl (AllB.cons ?_ AllB.nil)
  refine b3u ?_
  exact l6 b3 (Meet.mk rfl rfl rfl rfl)
 refine zgo ?_
 refine c6 (g8 rfl rfl rfl rfl (a7 (A7 rfl ?_) (a7 (c1 ?_) b9)))
 all_goals exact a7A
theorem p6 (x:Lg) (r:Rec) (hx:x.d.size+x.p.size≤1048576) (hr:r.c.size≤9223372036854775807∧r.r.size≤9223372036854775807):Ctr Tryz.prog 36 [.v (a5m x),.v (b2u r)] (.many [.v (a5m (apE x r)),.v (.int .i64 (apN x r))]):=by
 refine Ctr.of (n:=34) G Tryz.func36 rfl b3 rfl rfl rfl (fun w0=>?_)
 refine b4d ?_
 refine zcl (W0 _ V3) ?_
 refine zcd (fun h1=>?_) (fun h1=>?_)
 ·have hO:=b9Q (x:=x) (r:=r) (c0C h1)
  refine zwt ?_
  refine zgo ?_
  refine c6 (g8 rfl rfl rfl rfl (a7 (A7 rfl ?_) (a7 (c1 ?_) b9)))
  all_goals exact a7A
 refine zcl (N6 _ c8) ?_
 refine zcd (fun h2=>?_) (fun h2=>?_)
 ·have hO:=b9Q (x:=x) (r:=r) (c0D h2)
  refine zgo ?_
  refine c6 (g8 rfl rfl rfl rfl (a7 (A7 rfl ?_) (a7 (c1 ?_) b9)))
  all_goals exact a7A
 refine zcd (fun h3=>?_) (fun h3=>?_)
 ·have hO:=c3u (x:=x) (r:=r) h1 h2 h3
  refine zgo ?_
  refine c6 (g8 rfl rfl rfl rfl (a7 (A7 rfl ?_) (a7 (c1 ?_) b9)))
  all_goals exact a7A
 have hz:=a8r (x:=x) c8
 have hls:=a64 (k:=x.n) (x:=r) (by omega) (by omega) c8
 have hO:=c3v (x:=x) (r:=r) h1 h2 h3
 refine zgn ?_
 refine u4 (l4 15 [0,1] mixed b3 rfl rfl (fun r0=>?_) (fun _ h=>h))
 refine a1e ?_
 refine zsa 4 ?_
 refine a1f ?_
 refine zsa 9 ?_
 refine zsa 10 ?_
 first | refine e9 11 rfl b3 b3 rfl rfl rfl rfl (x8 rfl rfl rfl rfl (by omega) (by omega)) ?_ | refine e9 11 rfl b3 b3 rfl rfl rfl rfl (C5 rfl rfl rfl rfl) ?_
 refine b5 (rs:=[7]) b3 rfl (AllB.cons ?_ AllB.nil)
 refine i1 [0,1] rfl rfl (b6 rfl rfl (f6 rfl (ArgsOK.of rfl) (a0F _ _ V3 V3 c8) rfl) (b4 ⟨rfl,?_⟩))
 refine e9 8 rfl b3 b3 rfl rfl rfl rfl (J8 rfl rfl rfl b5u) ?_
 refine zsa 12 ?_
 refine b5 (rs:=[13]) b3 rfl (AllB.cons ?_ AllB.nil)
 refine i1 [0,1] rfl rfl ?_
 refine vm9 ?_
 refine zsa 14 ?_
 refine G3 ?_
 refine c6 (g8 rfl rfl rfl rfl (a7 (A7 rfl ?_) (a7 (c1 ?_) b9)))
 all_goals exact a7A
end Go.Proofs.YtpfhomblkgmkkaaGreatDoor
set_option maxRecDepth 20000
namespace Go.Proofs.YtpfhomblkgmkkaaGreatDoor
open Go Go.Rf
theorem a2X (m:Mach) (x:Lg) (s:ByteArray) (hs:SmallM m) (hx:x.d.size+x.p.size≤1048576) (hz:s.size≤1048576):Ctr Tryz.prog 9 [.agg [.lst 2 (m.rs.map p8),.lst 1 (m.en.map r3),.lst 1 (m.ra.map r3),.nst none 4 (m.cp.map (s6 169 182)),.v (.string x.d),.v (.string x.p),.v (.int .i64 x.n)],.v (.string s)] (.shp false [some 7,none] [.fr 83 2 ((exC m x s).1.rs.map p8),.fr 4 1 ((exC m x s).1.en.map r3),.fr 4 1 ((exC m x s).1.ra.map r3),.ne 135 4 ((exC m x s).1.cp.map (a1K 169 182)),.v (.string (exC m x s).2.1.d),.v (.string (exC m x s).2.1.p),.v (.int .i64 (exC m x s).2.1.n),.v (.string (exC m x s).2.2)]):=by
 refine Ctr.of (n:=53) G Tryz.func9 rfl (by kernel_rfl) rfl rfl rfl (fun w0=>?_)
 refine o7 0 rfl (fun _=>rfl) (fun u0=>?_)
 refine zgo ?_
 refine a8 rfl ?_
 refine B0 1 rfl rfl rfl rfl rfl rfl rfl ?_
 refine a8 rfl ?_
 refine d8 G 2 rfl rfl rfl rfl rfl ?_
 refine zcl (a2W m x hs hx) ?_
 refine zcd (fun h1=>?_) (fun h1=>?_)
 ·have hO:=c0J (s:=s) h1
  refine zgo ?_
  refine a8 rfl ?_
  refine d7 6 rfl rfl rfl (ArgsOK.of rfl) (Ctr.shpTo (J4 m x hs hx) (.cons .s (.cons .s (.cons .s (.cons (.n flM) (.cons .s (.cons .s (.cons .s .nil)))))))) rfl rfl ?_
  refine zgo ?_
  refine c6 (d9 rfl rfl rfl rfl (a7 (b7 rfl ?_) (a7 (b7 rfl ?_) (a7 (b7 rfl ?_) (a7 (n7 rfl ?_) (a7 (c1 ?_) (a7 (c1 ?_) (a7 (c1 ?_) (a7 (c1 ?_) b9)))))))))
  all_goals (first | (rw [hO];done) | (rw [hO];rfl))
 obtain ⟨hM,hLg⟩:=b77 h1
 refine zgo ?_
 refine a8 rfl ?_
 refine b6 rfl rfl (f6 rfl (ArgsOK.of rfl) (N6 ⟨s,⟨#[]⟩⟩ ⟨by show s.size≤_;omega,j5 (by decide)⟩) rfl) ?_
 refine zcd (fun h2=>?_) (fun h2=>?_)
 ·have hO:=c0K h1 h2
  refine zgo ?_
  refine a8 rfl ?_
  refine d7 6 rfl rfl rfl (ArgsOK.of rfl) (Ctr.shpTo (J4 m x hs hx) (.cons .s (.cons .s (.cons .s (.cons (.n flM) (.cons .s (.cons .s (.cons .s .nil)))))))) rfl rfl ?_
  refine zgo ?_
  refine c6 (d9 rfl rfl rfl rfl (a7 (b7 rfl ?_) (a7 (b7 rfl ?_) (a7 (b7 rfl ?_) (a7 (n7 rfl ?_) (a7 (c1 ?_) (a7 (c1 ?_) (a7 (c1 ?_) (a7 (c1 ?_) b9)))))))))
  all_goals (first | (rw [hO];done) | (rw [hO];rfl))
 refine zcd (fun h3=>?_) (fun h3=>?_)
 ·have hO:=c0L h1 h2 h3
  refine zgo ?_
  refine a8 rfl ?_
  refine d7 6 rfl rfl rfl (ArgsOK.of rfl) (Ctr.shpTo (J4 m x hs hx) (.cons .s (.cons .s (.cons .s (.cons (.n flM) (.cons .s (.cons .s (.cons .s .nil)))))))) rfl rfl ?_
  refine zgo ?_
  refine c6 (d9 rfl rfl rfl rfl (a7 (b7 rfl ?_) (a7 (b7 rfl ?_) (a7 (b7 rfl ?_) (a7 (n7 rfl ?_) (a7 (c1 ?_) (a7 (c1 ?_) (a7 (c1 ?_) (a7 (c1 ?_) b9)))))))))
  all_goals (first | (rw [hO];done) | (rw [hO];rfl))
 refine zgo ?_
 refine a8 rfl ?_
 refine d7 6 rfl rfl rfl (ArgsOK.of rfl) (Ctr.shpTo (J4 m x hs hx) (.cons .s (.cons .s (.cons .s (.cons (.n flM) (.cons .s (.cons .s (.cons .s .nil)))))))) rfl rfl ?_
 refine a8 rfl ?_
 refine d8 G 7 rfl rfl rfl rfl rfl ?_
 refine zgo ?_
 refine a8 rfl ?_
 refine U8 (n:=88) G rfl rfl rfl Tryz.func35 rfl (by kernel_rfl) rfl rfl rfl rfl ?_
 intro b hen hpin
 have hwn:1≤(j2 s 32).length∧(j2 s 32).length≤s.size+1:=R5
 have hml:((j2 s 32).map a6N).length=(j2 s 32).length:=List.length_map _
 refine zgo ?_
 refine a8 rfl ?_
 refine d7 8 rfl rfl rfl (ArgsOK.of rfl) (b6t s hz) rfl rfl ?_
 refine zgo ?_
 refine a8 rfl ?_
 first | refine b6 rfl rfl (b8 G rfl rfl rfl rfl rfl (by omega) (by rw [List.length_map];omega)) ?_ | refine b6 rfl rfl (b8 G rfl rfl rfl rfl rfl (by omega) (by omega)) ?_
 refine a8 rfl ?_
 first | refine b6 rfl rfl (j6 G rfl rfl rfl rfl rfl (b9Z (by omega)) rfl) ?_ | refine b6 rfl rfl (j6 G rfl rfl rfl rfl rfl (B4 (by omega) (by omega)) rfl) ?_
 refine zcl (a4T (wrd s 0)) ?_
 refine zcd (fun h101=>?_) (fun h101=>?_)
 ·refine zgo ?_
  refine c6 ⟨.inr rfl,_,rfl,rfl,?_⟩
  have hO:=F2 h1 h2 h3 (a4P (b8o h101))
  refine zwt ?_
  refine zgo ?_
  refine a8 rfl ?_
  refine b6 rfl rfl (j9 G rfl rfl rfl) ?_
  refine zcd (fun h102=>?_) (fun h102=>?_)
  ·try rw [A8 (by omega)] at hO
   refine zgo ?_
   refine a8 rfl ?_
   refine b6 rfl rfl (f6 rfl (ArgsOK.of rfl) (p6 x ⟨s,_⟩ hx ⟨by show s.size≤_;omega,by first | exact j5 (by decide) | exact i6 (by omega) | exact i6 (Int.ofNat_le.1 hrs)⟩) rfl) ?_
   refine zgo ?_
   refine c6 (d9 rfl rfl rfl rfl (a7 (b7 rfl ?_) (a7 (b7 rfl ?_) (a7 (b7 rfl ?_) (a7 (n7 rfl ?_) (a7 (c1 ?_) (a7 (c1 ?_) (a7 (c1 ?_) (a7 (c1 ?_) b9)))))))))
   all_goals (first | (rw [hO];done) | (rw [hO];rfl))
  try rw [A9 (by omega)] at hO
  have hrs:=h102
  refine zgo ?_
  refine a8 rfl ?_
  refine b6 rfl rfl (f6 rfl (ArgsOK.of rfl) (p6 x ⟨s,_⟩ hx ⟨by show s.size≤_;omega,by first | exact j5 (by decide) | exact i6 (by omega) | exact i6 (Int.ofNat_le.1 hrs)⟩) rfl) ?_
  refine zgo ?_
  refine c6 (d9 rfl rfl rfl rfl (a7 (b7 rfl ?_) (a7 (b7 rfl ?_) (a7 (b7 rfl ?_) (a7 (n7 rfl ?_) (a7 (c1 ?_) (a7 (c1 ?_) (a7 (c1 ?_) (a7 (c1 ?_) b9)))))))))
  all_goals (first | (rw [hO];done) | (rw [hO];rfl))
 refine zgo ?_
 refine a8 rfl ?_
 refine s2 G 9 rfl rfl rfl rfl rfl rfl rfl rfl ?_
 refine zgo ?_
 refine a8 rfl ?_
 refine b6 rfl rfl (a6E G rfl rfl rfl rfl rfl rfl (by omega) (by first | omega | (simp;done) | (simp;omega)) (by first | omega | (simp;done) | (simp;omega))) ?_
 refine zgo ?_
 refine i7 [0,6,29,30] [0,1,2,3,4,5,6,7] (fun (i:Nat)=>[(7,.own 8),(31,.v (.int .i64 (i:Int)))]) (fun (i:Nat)=>[(8,some (.row 3 1 ((C7 s i).map Rf.r9)))]) (fun (i:Nat)=>i≤(j2 s 32).length - 1∧∀ j,j < i→nmK (wrd s (j+1))=true) (fun (i:Nat)=>(j2 s 32).length - 1 - i) 0 rfl rfl ?_ ?_ ?_ ?_
 ·exact ⟨Nat.zero_le _,fun j hj=>by omega⟩
 ·exact ⟨⟨_,rfl,by rfl⟩,rfl,⟨⟨_,rfl,by rfl⟩,rfl,trivial⟩⟩
 ·exact ⟨⟨_,rfl,by rfl⟩,rfl,rfl,trivial⟩
 intro i hinv
 have hnl:=@a3t s i
 simp only [List.cons_append,List.nil_append]
 refine zcd (fun h102=>?_) (fun h102=>?_)
 ·refine zgo ?_
  refine a8 rfl ?_
  refine b6 rfl rfl (b2k G rfl rfl rfl rfl rfl (by omega) (by omega)) ?_
  refine a8 rfl ?_
  first | refine b6 rfl rfl (j6 G rfl rfl rfl rfl rfl (b9Z (by omega)) rfl) ?_ | refine b6 rfl rfl (j6 G rfl rfl rfl rfl rfl (B4 (by omega) (by omega)) rfl) ?_
  refine zcl (a74 (wrd s (i+1)) (by have:=@b8l s (i+1);omega)) ?_
  refine zcd (fun h103=>?_) (fun h103=>?_)
  ·refine zgo ?_
   refine c6 ⟨.inr rfl,_,rfl,rfl,?_⟩
   have hO:=F2 h1 h2 h3 (a4P (b8p (b8m h103 (by show i < (j2 s 32).length - 1;omega))))
   refine zwt ?_
   refine zgo ?_
   refine a8 rfl ?_
   refine b6 rfl rfl (j9 G rfl rfl rfl) ?_
   refine zcd (fun h104=>?_) (fun h104=>?_)
   ·try rw [A8 (by omega)] at hO
    refine zgo ?_
    refine a8 rfl ?_
    refine b6 rfl rfl (f6 rfl (ArgsOK.of rfl) (p6 x ⟨s,_⟩ hx ⟨by show s.size≤_;omega,by first | exact j5 (by decide) | exact i6 (by omega) | exact i6 (Int.ofNat_le.1 hrs)⟩) rfl) ?_
    refine zgo ?_
    refine c6 (d9 rfl rfl rfl rfl (a7 (b7 rfl ?_) (a7 (b7 rfl ?_) (a7 (b7 rfl ?_) (a7 (n7 rfl ?_) (a7 (c1 ?_) (a7 (c1 ?_) (a7 (c1 ?_) (a7 (c1 ?_) b9)))))))))
    all_goals (first | (rw [hO];done) | (rw [hO];rfl))
   try rw [A9 (by omega)] at hO
   have hrs:=h104
   refine zgo ?_
   refine a8 rfl ?_
   refine b6 rfl rfl (f6 rfl (ArgsOK.of rfl) (p6 x ⟨s,_⟩ hx ⟨by show s.size≤_;omega,by first | exact j5 (by decide) | exact i6 (by omega) | exact i6 (Int.ofNat_le.1 hrs)⟩) rfl) ?_
   refine zgo ?_
   refine c6 (d9 rfl rfl rfl rfl (a7 (b7 rfl ?_) (a7 (b7 rfl ?_) (a7 (b7 rfl ?_) (a7 (n7 rfl ?_) (a7 (c1 ?_) (a7 (c1 ?_) (a7 (c1 ?_) (a7 (c1 ?_) b9)))))))))
   all_goals (first | (rw [hO];done) | (rw [hO];rfl))
  refine zgo ?_
  refine a8 rfl ?_
  refine s2 G 10 rfl rfl rfl rfl rfl rfl rfl rfl ?_
  refine a8 rfl ?_
  refine g9 G (by rw [hpin];decide) rfl rfl rfl rfl rfl rfl rfl rfl rfl (by first | (simp only [List.length_map,List.length_cons,List.length_nil];omega) | (simp;omega)) rfl rfl ?_
  refine zgo ?_
  refine ⟨(i+1),?_,?_,⟨⟨_,rfl,by rfl⟩,rfl,⟨⟨_,rfl,by rfl⟩,rfl,trivial⟩⟩,⟨⟨_,rfl,by (rw [a65,List.map_append];rfl)⟩,rfl,rfl,trivial⟩,rfl,rfl,rfl⟩
  ·exact ⟨by omega,i8 hinv.2 (by assumption)⟩
  omega
 obtain rfl:i=(j2 s 32).length - 1:=(by omega)
 have hNK:E3 s=true:=b8n hinv.2 (Nat.le_refl _)
 have hal:a1J (m3 (wrd s 0))=(B2 s).length:=(by rw [b6h];show _=(((j2 s 32).length - 1:Nat):Int);omega)
 refine zgo ?_
 refine a8 rfl ?_
 first | refine b6 rfl rfl (b8 G rfl rfl rfl rfl rfl (by omega) (by rw [List.length_map];omega)) ?_ | refine b6 rfl rfl (b8 G rfl rfl rfl rfl rfl (by omega) (by omega)) ?_
 refine a8 rfl ?_
 first | refine b6 rfl rfl (j6 G rfl rfl rfl rfl rfl (b9Z (by omega)) rfl) ?_ | refine b6 rfl rfl (j6 G rfl rfl rfl rfl rfl (B4 (by omega) (by omega)) rfl) ?_
 refine zcl (b0f (wrd s 0) (B2 s) hal) ?_
 refine zgo ?_
 refine a8 rfl ?_
 refine d8 G 10 rfl rfl rfl rfl rfl ?_
 refine zcd (fun h104=>?_) (fun h104=>?_)
 ·have cA:=b2c m (wrd s 0) (B2 s) hs hM hal h104
  have hC:=b8q (m:=m) h101 hNK h104
  generalize a4M m (m3 (wrd s 0)) (B2 s)=ra at cA hC
  obtain ⟨r,ok⟩:=ra
  dsimp only at cA
  refine zgd ?_
  refine zgo ?_
  refine m4 rfl ?_
  refine u9 rfl rfl (S0 rfl rfl) ?_
  refine zgo ?_
  refine m4 rfl ?_
  first | refine u9 rfl rfl (b8 G rfl rfl rfl rfl rfl (by omega) (by rw [List.length_map];omega)) ?_ | refine u9 rfl rfl (b8 G rfl rfl rfl rfl rfl (by omega) (by omega)) ?_
  refine m4 rfl ?_
  first | refine u9 rfl rfl (j6 G rfl rfl rfl rfl rfl (b9Z (by omega)) rfl) ?_ | refine u9 rfl rfl (j6 G rfl rfl rfl rfl rfl (B4 (by omega) (by omega)) rfl) ?_
  refine zcl (Ctr.argsTo cA (fun w vs h=>c3y flM vs h)) ?_
  refine zgo ?_
  refine c6 ⟨.inr rfl,_,rfl,rfl,?_⟩
  refine zcd (fun h105=>?_) (fun h105=>?_)
  ·have hO:=F2 h1 h2 h3 (a4P (hC.trans (by rw [h105])))
   refine zgo ?_
   refine a8 rfl ?_
   refine b6 rfl rfl (j9 G rfl rfl rfl) ?_
   refine zcd (fun h106=>?_) (fun h106=>?_)
   ·try rw [A8 (by omega)] at hO
    refine zgo ?_
    refine a8 rfl ?_
    refine b6 rfl rfl (f6 rfl (ArgsOK.of rfl) (p6 x ⟨s,_⟩ hx ⟨by show s.size≤_;omega,by first | exact j5 (by decide) | exact i6 (by omega) | exact i6 (Int.ofNat_le.1 hrs)⟩) rfl) ?_
    refine zgo ?_
    refine c6 (d9 rfl rfl rfl rfl (a7 (b7 rfl ?_) (a7 (b7 rfl ?_) (a7 (b7 rfl ?_) (a7 (n7 rfl ?_) (a7 (c1 ?_) (a7 (c1 ?_) (a7 (c1 ?_) (a7 (c1 ?_) b9)))))))))
    all_goals (first | (rw [hO];done) | (rw [hO];rfl))
   try rw [A9 (by omega)] at hO
   have hrs:=h106
   refine zgo ?_
   refine a8 rfl ?_
   refine b6 rfl rfl (f6 rfl (ArgsOK.of rfl) (p6 x ⟨s,_⟩ hx ⟨by show s.size≤_;omega,by first | exact j5 (by decide) | exact i6 (by omega) | exact i6 (Int.ofNat_le.1 hrs)⟩) rfl) ?_
   refine zgo ?_
   refine c6 (d9 rfl rfl rfl rfl (a7 (b7 rfl ?_) (a7 (b7 rfl ?_) (a7 (b7 rfl ?_) (a7 (n7 rfl ?_) (a7 (c1 ?_) (a7 (c1 ?_) (a7 (c1 ?_) (a7 (c1 ?_) b9)))))))))
   all_goals (first | (rw [hO];done) | (rw [hO];rfl))
  have hO:=F2 h1 h2 h3 (b1X (hC.trans (by rw [h105])))
  refine zgo ?_
  refine a8 rfl ?_
  refine b6 rfl rfl (j9 G rfl rfl rfl) ?_
  refine zcd (fun h107=>?_) (fun h107=>?_)
  ·try rw [A8 (by omega)] at hO
   refine zgo ?_
   refine a8 rfl ?_
   refine b6 rfl rfl (f6 rfl (ArgsOK.of rfl) (p6 x ⟨s,_⟩ hx ⟨by show s.size≤_;omega,by first | exact j5 (by decide) | exact i6 (by omega) | exact i6 (Int.ofNat_le.1 hrs)⟩) rfl) ?_
   refine zgo ?_
   refine c6 (d9 rfl rfl rfl rfl (a7 (b7 rfl ?_) (a7 (b7 rfl ?_) (a7 (b7 rfl ?_) (a7 (n7 rfl ?_) (a7 (c1 ?_) (a7 (c1 ?_) (a7 (c1 ?_) (a7 (c1 ?_) b9)))))))))
   all_goals (first | (rw [hO];done) | (rw [hO];rfl))
  try rw [A9 (by omega)] at hO
  have hrs:=h107
  refine zgo ?_
  refine a8 rfl ?_
  refine b6 rfl rfl (f6 rfl (ArgsOK.of rfl) (p6 x ⟨s,_⟩ hx ⟨by show s.size≤_;omega,by first | exact j5 (by decide) | exact i6 (by omega) | exact i6 (Int.ofNat_le.1 hrs)⟩) rfl) ?_
  refine zgo ?_
  refine c6 (d9 rfl rfl rfl rfl (a7 (b7 rfl ?_) (a7 (b7 rfl ?_) (a7 (b7 rfl ?_) (a7 (n7 rfl ?_) (a7 (c1 ?_) (a7 (c1 ?_) (a7 (c1 ?_) (a7 (c1 ?_) b9)))))))))
  all_goals (first | (rw [hO];done) | (rw [hO];rfl))
 have hD:=b8r (m:=m) h101 hNK h104
 have hir:=@a3u m (a0o (m3 (wrd s 0)) (B2 s)).1
 have cS:=a4X m (a0o (m3 (wrd s 0)) (B2 s)).1.k (a0o (m3 (wrd s 0)) (B2 s)).1.q (a0o (m3 (wrd s 0)) (B2 s)).1.c (a0o (m3 (wrd s 0)) (B2 s)).1.v hs
 have est:(⟨(a0o (m3 (wrd s 0)) (B2 s)).1.k,(a0o (m3 (wrd s 0)) (B2 s)).1.q,(a0o (m3 (wrd s 0)) (B2 s)).1.c,(a0o (m3 (wrd s 0)) (B2 s)).1.v⟩:MStep)=(a0o (m3 (wrd s 0)) (B2 s)).1:=rfl
 rw [est] at cS
 unfold b3j at hD
 generalize smT m (a0o (m3 (wrd s 0)) (B2 s)).1=sr at cS hD hir
 obtain ⟨m1,ir,ok⟩:=sr
 dsimp only at cS hD hir
 refine zgn ?_
 refine u4 (l4 14 [0,1,2,3,4,5,6,7,8,9] mixed (by kernel_rfl) rfl rfl (fun r0=>?_) (fun _ h=>h))
 refine zsa 0 ?_
 refine zsa 4 ?_
 refine w3 (N:=11) rfl (p4 (fuel:=11) [⟨10,14,10,true,.box (avR [.slice none 0 0,.slice none 0 0,.slice none 0 0,.slice none 0 0] [])⟩] (AllVOK.cons (VOK.boxS G rfl rfl rfl rfl rfl) (AllVOK.nil)) (fun hok=>?_))
 refine j3 [(1,[])] (by kernel_rfl) (by kernel_rfl) (fun e he=>hok e he) (by kernel_rfl) (AllVS.cons ?_ AllVS.nil)
 refine VStep.mk0 [0,1,2,3,4,5,6,7,8,9] rfl rfl (fun b1 _ hbn=>b6 rfl rfl (S0 rfl rfl) (b4 rfl)) (by kernel_rfl) (by kernel_rfl) (by kernel_rfl) (by kernel_rfl) (w6 2 rfl (by kernel_rfl) rfl rfl rfl rfl (l5 G rfl rfl rfl rfl) (by kernel_rfl) (by kernel_rfl) (by kernel_rfl) (w6 3 rfl (by kernel_rfl) rfl rfl rfl rfl (p5 G rfl rfl rfl rfl rfl rfl) (by kernel_rfl) (by kernel_rfl) (by kernel_rfl) (j3 [(5,[])] (by kernel_rfl) (by kernel_rfl) (fun e he=>hok e he) (by kernel_rfl) (AllVS.cons ?_ AllVS.nil))))
 refine VStep.mk0 [0,1,2,3,4,5,6,7,8,9] rfl rfl (fun b1 _ hbn=>d7 15 rfl rfl rfl (ArgsOK.of rfl) (Ctr.argsTo cS (fun w vs h=>c3y flM vs h)) rfl rfl (b4 rfl)) (by kernel_rfl) (by kernel_rfl) (by kernel_rfl) (by kernel_rfl) (w6 6 rfl (by kernel_rfl) rfl rfl rfl rfl (e6 rfl rfl) (by kernel_rfl) (by kernel_rfl) (by kernel_rfl) (w6 7 rfl (by kernel_rfl) rfl rfl rfl rfl (n8 rfl rfl rfl) (by kernel_rfl) (by kernel_rfl) (by kernel_rfl) (w6 8 rfl (by kernel_rfl) rfl rfl rfl rfl (n8 rfl rfl rfl) (by kernel_rfl) (by kernel_rfl) (by kernel_rfl) (w6 9 rfl (by kernel_rfl) rfl rfl rfl rfl (n8 rfl rfl rfl) (by kernel_rfl) (by kernel_rfl) (by kernel_rfl) (j3 [(11,[10])] (by kernel_rfl) (by kernel_rfl) (fun e he=>hok e he) (by kernel_rfl) (AllVS.cons ?_ AllVS.nil))))))
 refine VStep.mk1 [0,1,2,3,4,5,6,7,8,9] 14 (.ptr 10 0) 10 (.box (avR [.slice none 0 0,.slice none 0 0,.slice none 0 0,.slice none 0 0] [])) [] rfl rfl rfl rfl rfl (fun b1 _ hbn=>j7 G rfl rfl rfl rfl rfl rfl rfl rfl rfl rfl rfl (b4 rfl)) (by kernel_rfl) (by kernel_rfl) (by kernel_rfl) (by kernel_rfl) ?_
 refine B3 ?_
 clear hok
 refine zsa 12 ?_
 refine zsa 13 ?_
 refine l6 (by kernel_rfl) ?_
 refine znk ?_
 refine zcd (fun h105=>?_) (fun h105=>?_)
 ·refine zgo ?_
  refine c6 ⟨.inr rfl,_,rfl,rfl,?_⟩
  have hO:=F2 h1 h2 h3 (a4P (hD.trans (by rw [h105];rfl)))
  refine zwt ?_
  refine zgo ?_
  refine a8 rfl ?_
  refine b6 rfl rfl (j9 G rfl rfl rfl) ?_
  refine zcd (fun h108=>?_) (fun h108=>?_)
  ·try rw [A8 (by omega)] at hO
   refine zgo ?_
   refine a8 rfl ?_
   refine b6 rfl rfl (f6 rfl (ArgsOK.of rfl) (p6 x ⟨s,_⟩ hx ⟨by show s.size≤_;omega,by first | exact j5 (by decide) | exact i6 (by omega) | exact i6 (Int.ofNat_le.1 hrs)⟩) rfl) ?_
   refine zgo ?_
   refine c6 (d9 rfl rfl rfl rfl (a7 (b7 rfl ?_) (a7 (b7 rfl ?_) (a7 (b7 rfl ?_) (a7 (n7 rfl ?_) (a7 (c1 ?_) (a7 (c1 ?_) (a7 (c1 ?_) (a7 (c1 ?_) b9)))))))))
   all_goals (first | (rw [hO];done) | (rw [hO];rfl))
  try rw [A9 (by omega)] at hO
  have hrs:=h108
  refine zgo ?_
  refine a8 rfl ?_
  refine b6 rfl rfl (f6 rfl (ArgsOK.of rfl) (p6 x ⟨s,_⟩ hx ⟨by show s.size≤_;omega,by first | exact j5 (by decide) | exact i6 (by omega) | exact i6 (Int.ofNat_le.1 hrs)⟩) rfl) ?_
  refine zgo ?_
  refine c6 (d9 rfl rfl rfl rfl (a7 (b7 rfl ?_) (a7 (b7 rfl ?_) (a7 (b7 rfl ?_) (a7 (n7 rfl ?_) (a7 (c1 ?_) (a7 (c1 ?_) (a7 (c1 ?_) (a7 (c1 ?_) b9)))))))))
  all_goals (first | (rw [hO];done) | (rw [hO];rfl))
 refine zgo ?_
 refine a8 rfl ?_
 refine b6 rfl rfl (S0 rfl rfl) ?_
 refine zcd (fun h106=>?_) (fun h106=>?_)
 ·refine zcl (B5 ir (by omega) (by omega)) ?_
  refine zgo ?_
  refine c6 ⟨.inr rfl,_,rfl,rfl,?_⟩
  have hO:=F2 h1 h2 h3 (b1X (hD.trans (by rw [h105,if_pos rfl,if_neg h106])))
  refine zwf ?_
  refine zgo ?_
  refine a8 rfl ?_
  refine b6 rfl rfl (j9 G rfl rfl rfl) ?_
  refine zcd (fun h109=>?_) (fun h109=>?_)
  ·try rw [A8 (by omega)] at hO
   refine zgo ?_
   refine a8 rfl ?_
   refine b6 rfl rfl (f6 rfl (ArgsOK.of rfl) (p6 x ⟨s,_⟩ hx ⟨by show s.size≤_;omega,by first | exact j5 (by decide) | exact i6 (by omega) | exact i6 (Int.ofNat_le.1 hrs)⟩) rfl) ?_
   refine zgo ?_
   refine c6 (d9 rfl rfl rfl rfl (a7 (b7 rfl ?_) (a7 (b7 rfl ?_) (a7 (b7 rfl ?_) (a7 (n7 rfl ?_) (a7 (c1 ?_) (a7 (c1 ?_) (a7 (c1 ?_) (a7 (c1 ?_) b9)))))))))
   all_goals (first | (rw [hO];done) | (rw [hO];rfl))
  try rw [A9 (by omega)] at hO
  have hrs:=h109
  refine zgo ?_
  refine a8 rfl ?_
  refine b6 rfl rfl (f6 rfl (ArgsOK.of rfl) (p6 x ⟨s,_⟩ hx ⟨by show s.size≤_;omega,by first | exact j5 (by decide) | exact i6 (by omega) | exact i6 (Int.ofNat_le.1 hrs)⟩) rfl) ?_
  refine zgo ?_
  refine c6 (d9 rfl rfl rfl rfl (a7 (b7 rfl ?_) (a7 (b7 rfl ?_) (a7 (b7 rfl ?_) (a7 (n7 rfl ?_) (a7 (c1 ?_) (a7 (c1 ?_) (a7 (c1 ?_) (a7 (c1 ?_) b9)))))))))
  all_goals (first | (rw [hO];done) | (rw [hO];rfl))
 refine zgo ?_
 refine c6 ⟨.inr rfl,_,rfl,rfl,?_⟩
 have hO:=F2 h1 h2 h3 (b1X (hD.trans (by rw [h105,if_pos rfl,if_pos h106])))
 refine zwf ?_
 refine zgo ?_
 refine a8 rfl ?_
 refine b6 rfl rfl (j9 G rfl rfl rfl) ?_
 refine zcd (fun h110=>?_) (fun h110=>?_)
 ·try rw [A8 (by omega)] at hO
  refine zgo ?_
  refine a8 rfl ?_
  refine b6 rfl rfl (f6 rfl (ArgsOK.of rfl) (p6 x ⟨s,_⟩ hx ⟨by show s.size≤_;omega,by first | exact j5 (by decide) | exact i6 (by omega) | exact i6 (Int.ofNat_le.1 hrs)⟩) rfl) ?_
  refine zgo ?_
  refine c6 (d9 rfl rfl rfl rfl (a7 (b7 rfl ?_) (a7 (b7 rfl ?_) (a7 (b7 rfl ?_) (a7 (n7 rfl ?_) (a7 (c1 ?_) (a7 (c1 ?_) (a7 (c1 ?_) (a7 (c1 ?_) b9)))))))))
  all_goals (first | (rw [hO];done) | (rw [hO];rfl))
 try rw [A9 (by omega)] at hO
 have hrs:=h110
 refine zgo ?_
 refine a8 rfl ?_
 refine b6 rfl rfl (f6 rfl (ArgsOK.of rfl) (p6 x ⟨s,_⟩ hx ⟨by show s.size≤_;omega,by first | exact j5 (by decide) | exact i6 (by omega) | exact i6 (Int.ofNat_le.1 hrs)⟩) rfl) ?_
 refine zgo ?_
 refine c6 (d9 rfl rfl rfl rfl (a7 (b7 rfl ?_) (a7 (b7 rfl ?_) (a7 (b7 rfl ?_) (a7 (n7 rfl ?_) (a7 (c1 ?_) (a7 (c1 ?_) (a7 (c1 ?_) (a7 (c1 ?_) b9)))))))))
 all_goals (first | (rw [hO];done) | (rw [hO];rfl))
end Go.Proofs.YtpfhomblkgmkkaaGreatDoor
set_option maxRecDepth 20000
namespace Go.Proofs.YtpfhomblkgmkkaaGreatDoor
open Go Go.Rf
theorem a6r (rs:List Route) (c:Int) (hn:rs.length≤1048576):Ctr Tryz.prog 44 [.lst 2 (rs.map p8),.v (.int .i64 c)] (.shp false [some 7,none] [.fr 83 2 ((u3 rs c).1.rs.map p8),.fr 4 1 ((u3 rs c).1.en.map r3),.fr 4 1 ((u3 rs c).1.ra.map r3),.ne 135 4 ((u3 rs c).1.cp.map (s6 169 182)),.v (.string ⟨#[]⟩),.v (.string ⟨#[]⟩),.v (.int .i64 0),.v (.bool (u3 rs c).2)]):=by
 refine Ctr.of (n:=19) G Tryz.func44 rfl b3 rfl rfl rfl (fun w0=>?_)
 refine a3x ?_
 refine vm5 ?_
 refine d7 5 rfl rfl rfl (ArgsOK.of rfl) (a6j _ _ V3) rfl rfl ?_
 refine vm5 ?_
 refine b4g ?_
 refine zcd (fun h1=>?_) (fun h1=>?_)
 ·have hM:=b2U h1
  refine zgo ?_
  refine c6 (d9 rfl rfl rfl rfl (a7 (r8 ?_) (a7 (r8 ?_) (a7 (r8 ?_) (a7 (U4 ?_) (a7 (c1 ?_) (a7 (c1 ?_) (a7 (c1 ?_) (a7 (c1 ?_) b9)))))))))
  all_goals exact b5q
 have hM:=h1
 refine zgo ?_
 refine c6 (d9 rfl rfl rfl rfl (a7 (b7 rfl ?_) (a7 (b7 rfl ?_) (a7 (b7 rfl ?_) (a7 (n7 rfl ?_) (a7 (c1 ?_) (a7 (c1 ?_) (a7 (c1 ?_) (a7 (c1 ?_) b9)))))))))
 all_goals exact b5q
theorem a6s (rs:List Route) (c:Int) (hn:rs.length≤1048576):Ctr Tryz.prog 48 [.lst 2 (rs.map p8),.v (.int .i64 c)] (.shp false [some 7,none] [.fr 83 2 ((u3 rs c).1.rs.map p8),.fr 4 1 ((u3 rs c).1.en.map r3),.fr 4 1 ((u3 rs c).1.ra.map r3),.ne 135 4 ((u3 rs c).1.cp.map (s6 169 182)),.v (.string ⟨#[]⟩),.v (.string ⟨#[]⟩),.v (.int .i64 0),.v (.bool (u3 rs c).2)]):=by
 refine Ctr.of (n:=19) G Tryz.func48 rfl b3 rfl rfl rfl (fun w0=>?_)
 refine a3x ?_
 refine vm5 ?_
 refine d7 5 rfl rfl rfl (ArgsOK.of rfl) (a6k _ _ V3) rfl rfl ?_
 refine vm5 ?_
 refine b4g ?_
 refine zcd (fun h1=>?_) (fun h1=>?_)
 ·have hM:=b2U h1
  refine zgo ?_
  refine c6 (d9 rfl rfl rfl rfl (a7 (r8 ?_) (a7 (r8 ?_) (a7 (r8 ?_) (a7 (U4 ?_) (a7 (c1 ?_) (a7 (c1 ?_) (a7 (c1 ?_) (a7 (c1 ?_) b9)))))))))
  all_goals exact b5q
 have hM:=h1
 refine zgo ?_
 refine c6 (d9 rfl rfl rfl rfl (a7 (b7 rfl ?_) (a7 (b7 rfl ?_) (a7 (b7 rfl ?_) (a7 (n7 rfl ?_) (a7 (c1 ?_) (a7 (c1 ?_) (a7 (c1 ?_) (a7 (c1 ?_) b9)))))))))
 all_goals exact b5q
end Go.Proofs.YtpfhomblkgmkkaaGreatDoor
set_option maxRecDepth 20000
namespace Go.Proofs.YtpfhomblkgmkkaaGreatDoor
open Go Go.Rf
theorem a6t (x:Lg) (hx:x.d.size+x.p.size≤1048576):Ctr Tryz.prog 46 [.v (a5m x)] (.many [.fr 63 2 ((lrT x).map a4g),.v (.bool (H2 x))]):=by
 have hap:(x.d++x.p).size=x.d.size+x.p.size:=ByteArray.size_append
 refine Ctr.of (n:=20) G Tryz.func46 rfl b3 rfl rfl rfl (fun w0=>?_)
 refine vm1 ?_
 refine zcl (a0c _ V3) ?_
 refine zcd (fun h1=>?_) (fun h1=>?_)
 ·have hO:=c2j h1
  refine vm5 ?_
  refine b4f ?_
  refine zgo ?_
  refine c6 (g8 rfl rfl rfl rfl (a7 (b7 rfl ?_) (a7 (c1 ?_) b9)))
  all_goals exact b5r
 have hO:=c2k h1
 refine vm5 ?_
 refine b13 ?_
 refine o9 ?_
 refine d7 2 rfl rfl rfl (ArgsOK.of rfl) (a1k (x.d++x.p) (by omega)) rfl rfl ?_
 refine zgo ?_
 refine c6 (g8 rfl rfl rfl rfl (a7 (b7 rfl ?_) (a7 (c1 ?_) b9)))
 all_goals exact b5r
theorem a6u (x:Lg) (hx:x.d.size+x.p.size≤1048576):Ctr Tryz.prog 49 [.v (a5m x)] (.many [.fr 63 2 ((lrT x).map a4g),.v (.bool (H2 x))]):=by
 have hap:(x.d++x.p).size=x.d.size+x.p.size:=ByteArray.size_append
 refine Ctr.of (n:=19) G Tryz.func49 rfl b3 rfl rfl rfl (fun w0=>?_)
 refine vm1 ?_
 refine zcl (W0 _ V3) ?_
 refine zcd (fun h1=>?_) (fun h1=>?_)
 ·have hO:=c2j h1
  refine zgo ?_
  refine c6 (g8 rfl rfl rfl rfl (a7 (r8 ?_) (a7 (c1 ?_) b9)))
  all_goals exact b5r
 have hO:=c2k h1
 refine vm5 ?_
 refine b13 ?_
 refine o9 ?_
 refine d7 3 rfl rfl rfl (ArgsOK.of rfl) (a1l (x.d++x.p) (by omega)) rfl rfl ?_
 refine zgo ?_
 refine c6 (g8 rfl rfl rfl rfl (a7 (b7 rfl ?_) (a7 (c1 ?_) b9)))
 all_goals exact b5r
end Go.Proofs.YtpfhomblkgmkkaaGreatDoor
set_option maxRecDepth 20000
namespace Go.Proofs.YtpfhomblkgmkkaaGreatDoor
open Go Go.Rf
theorem a7e (rs:List Route) (c:Int) (l:Lg) (hn:rs.length≤1048576) (hx:l.d.size+l.p.size≤1048576):Ctr Tryz.prog 23 [.lst 2 (rs.map p8),.v (.int .i64 c),.v (a5m l)] (.many [.v (.int .i64 (a7L rs c l).1),.v (.bool (a7L rs c l).2)]):=by
 have hlr:=@b5b l
 have hs0:SmallM (u3 rs c).1:=a7x
 have hx0:lg0.d.size+lg0.p.size≤1048576:=by decide
 refine Ctr.of (n:=56) G Tryz.func23 rfl b3 rfl rfl rfl (fun w0=>?_)
 refine vm1 ?_
 refine vm5 ?_
 refine d7 5 rfl rfl rfl (ArgsOK.of rfl) (Ctr.shpTo (a6s rs c hn) (.cons .s (.cons .s (.cons .s (.cons (.n flM) (.cons .s (.cons .s (.cons .s (.cons .s .nil))))))))) rfl rfl ?_
 refine vm5 ?_
 refine b4g ?_
 refine vm5 ?_
 refine d7 7 rfl rfl rfl (ArgsOK.of rfl) (a6u l hx) rfl rfl ?_
 refine zcd (fun h1=>?_) (fun h1=>?_)
 ·have hO:=b8w (l:=l) h1
  refine zwt ?_
  refine zgo ?_
  refine c6 (g8 rfl rfl rfl rfl (a7 (c1 ?_) (a7 (c1 ?_) b9)))
  all_goals exact a0O
 refine zcd (fun h2=>?_) (fun h2=>?_)
 ·have hO:=b8x (rs:=rs) (c:=c) h2
  refine zgo ?_
  refine c6 (g8 rfl rfl rfl rfl (a7 (c1 ?_) (a7 (c1 ?_) b9)))
  all_goals exact a0O
 refine zgo ?_
 refine i7 [8,10,33,34] [6] (fun (i:Nat)=>[(35,.v (.int .i64 (i:Int)))]) (fun (i:Nat)=>[(1,some (.row 83 2 ((Z2 (u3 rs c).1 lg0 (csL l) i).1.rs.map p8))),(2,some (.row 4 1 ((Z2 (u3 rs c).1 lg0 (csL l) i).1.en.map r3))),(3,some (.row 4 1 ((Z2 (u3 rs c).1 lg0 (csL l) i).1.ra.map r3))),(4,some (.nest 135 4 ((Z2 (u3 rs c).1 lg0 (csL l) i).1.cp.map (a1K 169 182)) [])),(5,some (.box [.own 1,.own 2,.own 3,.own 4,.v (.string (Z2 (u3 rs c).1 lg0 (csL l) i).2.d),.v (.string (Z2 (u3 rs c).1 lg0 (csL l) i).2.p),.v (.int .i64 (Z2 (u3 rs c).1 lg0 (csL l) i).2.n)]))]) (fun (i:Nat)=>i≤(lrT l).length∧∀ j,j < i→a9z (u3 rs c).1 l j=false) (fun (i:Nat)=>(lrT l).length - i) 0 rfl rfl ?_ ?_ ?_ ?_
 ·exact ⟨Nat.zero_le _,fun j hj=>by omega⟩
 ·exact ⟨⟨_,rfl,by rfl⟩,rfl,trivial⟩
 ·exact ⟨⟨_,rfl,by rfl⟩,rfl,rfl,⟨⟨_,rfl,by rfl⟩,rfl,rfl,⟨⟨_,rfl,by rfl⟩,rfl,rfl,⟨⟨_,rfl,by rfl⟩,rfl,rfl,⟨⟨_,rfl,by rfl⟩,rfl,rfl,trivial⟩⟩⟩⟩⟩
 intro i hinv
 obtain ⟨hS,hL⟩:=a8u (cs:=csL l) hs0 hx0 i
 have hcs:=@c0Q l i
 simp only [List.cons_append,List.nil_append]
 refine zcd (fun h3=>?_) (fun h3=>?_)
 ·refine vm5 ?_
  refine b6 rfl rfl (b8 G rfl rfl rfl rfl rfl (by omega) a1z) ?_
  refine o9 ?_
  refine c36 ?_
  refine b3s ?_
  refine vm5 ?_
  refine d7 12 rfl rfl rfl (ArgsOK.of rfl) (Ctr.argsTo (a2X (Z2 (u3 rs c).1 lg0 (csL l) i).1 (Z2 (u3 rs c).1 lg0 (csL l) i).2 (csL l i) hS hL (by omega)) (fun w vs h=>c4s flM vs h)) rfl rfl ?_
  refine vm5 ?_
  refine d8 G 13 rfl rfl rfl rfl rfl ?_
  refine R6 ?_
  refine zcd (fun h4=>?_) (fun h4=>?_)
  ·have hO:=c0O h1 h2 hinv.2 (by omega) (c0M h4)
   refine zgo ?_
   refine c6 (g8 rfl rfl rfl rfl (a7 (c1 ?_) (a7 (c1 ?_) b9)))
   all_goals exact a0O
  refine zgn ?_
  refine zgn ?_
  refine d4 ?_
  refine a18 ?_
  refine G8 (Gh.sub 8 1 np rfl rfl rfl) (G8 (Gh.sub 9 2 np rfl rfl rfl) (G8 (Gh.sub 10 3 np rfl rfl rfl) (G8 (Gh.sub 11 4 np rfl rfl rfl) (b4 ⟨(i+1),?_,?_,⟨⟨_,rfl,by rfl⟩,rfl,trivial⟩,⟨⟨_,rfl,by rfl⟩,rfl,rfl,⟨⟨_,rfl,by rfl⟩,rfl,rfl,⟨⟨_,rfl,by rfl⟩,rfl,rfl,⟨⟨_,rfl,by rfl⟩,rfl,rfl,⟨⟨_,rfl,by rfl⟩,rfl,rfl,trivial⟩⟩⟩⟩⟩,rfl,rfl,rfl⟩))))
  ·exact ⟨by omega,i8 hinv.2 (c0N h4)⟩
  omega
 have hO:=c0P h1 h2 hinv.2 (by omega)
 refine zgo ?_
 refine c6 (g8 rfl rfl rfl rfl (a7 (c1 ?_) (a7 (c1 ?_) b9)))
 all_goals exact a0O
end Go.Proofs.YtpfhomblkgmkkaaGreatDoor
set_option maxRecDepth 20000
namespace Go.Proofs.YtpfhomblkgmkkaaGreatDoor
open Go Go.Rf
theorem a9V (m:Mach) (w:ByteArray) (c:Int) (hs:SmallM m) (hM:a1b m=true):Ctr Tryz.prog 99 [.agg [.lst 2 (m.rs.map p8),.lst 1 (m.en.map r3),.lst 1 (m.ra.map r3),.nst none 4 (m.cp.map (s6 169 182))],.v (.string w),.v (.int .i64 c)] (.one (.v (.string (a3v m (m3 w) c)))):=by
 have hG:=(maF hM).g
 have hcp:=hs.cp
 refine Ctr.of (n:=57) G Tryz.func99 rfl b3 rfl rfl rfl (fun w0=>?_)
 refine o7 0 rfl (fun _=>rfl) (fun u0=>?_)
 refine vm1 ?_
 refine a96 ?_
 refine zcd (fun h1=>?_) (fun h1=>?_)
 ·have hO:=c2l (k:=m3 w) h1
  refine zf1 ?_
  all_goals exact a0O
 have hin:=p7.mp h1
 have hcl:(c).toNat < m.cp.length:=(by omega)
 have hI:=(hG.ok _ hcl).f
 have hsn:=hI.sn
 have hpl:=a15 hI.qu
 have hnx:=@a9d m.rs (X4 m) (c).toNat
 have cN:=a9P m.rs (X4 m) (c).toNat (b78 hG) (by rw [b5a];exact hcl)
 rw [Int.toNat_of_nonneg (by omega)] at cN
 refine R6 ?_
 refine zcd (fun h2=>?_) (fun h2=>?_)
 ·have hO:=c2m h1 (b0W.mp h2)
  refine vm5 ?_
  refine b15 ?_
  refine vm5 ?_
  refine d7 2 rfl rfl rfl (ArgsOK.of rfl) (Z3 (m.cp.getD (c).toNat default).qu hI.qu) rfl rfl ?_
  refine zcl (a1j (D6 (m.cp.getD (c).toNat default).qu) (by omega) (b8j hI.qu)) ?_
  refine zf1 ?_
  all_goals exact a0O
 have k2:=mt b0W.mpr h2
 refine R6 ?_
 refine zcd (fun h3=>?_) (fun h3=>?_)
 ·have hO:=c2n h1 (b0X.mp h3)
  refine vm5 ?_
  refine b15 ?_
  refine o9 ?_
  refine b6o ?_
  refine zcl (a1j (m.cp.getD (c).toNat default).st (by omega) (b8k hI)) ?_
  refine zf1 ?_
  all_goals exact a0O
 have k3:=mt b0X.mpr h3
 refine R6 ?_
 refine zcd (fun h4=>?_) (fun h4=>?_)
 ·have k4:=b1U.mp h4
  refine u4 (u4 (l4 7 [0] mixed b3 rfl rfl (fun r0=>?_) (fun _ h=>h)))
  refine zsa 0 ?_
  refine zsa 1 ?_
  refine zsa 2 ?_
  refine zsa 4 ?_
  refine b5 (rs:=[3]) b3 rfl (AllB.cons ?_ AllB.nil)
  refine i1 [0] rfl rfl (d7 6 rfl rfl rfl (ArgsOK.of rfl) (a9Q m hG hs) rfl rfl (b4 ⟨rfl,?_⟩))
  refine b5 (rs:=[5]) b3 rfl (AllB.cons ?_ AllB.nil)
  refine i1 [0] rfl rfl (b6 rfl rfl (f6 rfl (ArgsOK.of rfl) cN rfl) (b4 ⟨rfl,?_⟩))
  refine zsa 6 ?_
  refine G3 ?_
  refine zcd (fun h5=>?_) (fun h5=>?_)
  ·have hO:=b8u h1 k4 (by omega)
   refine zcl (y7 (D9 m.rs (X4 m) (c).toNat) (by omega) (by omega)) ?_
   refine zf1 ?_
   all_goals exact a0O
  have hO:=b8t h1 k4 (by omega)
  refine zf1 ?_
  all_goals exact a0O
 have k4:=mt b1U.mpr h4
 refine R6 ?_
 refine zcd (fun h6=>?_) (fun h6=>?_)
 ·have hO:=b90 h1 (a60.mp h6)
  refine vm5 ?_
  refine b15 ?_
  refine o9 ?_
  refine b15 ?_
  refine o9 ?_
  refine b6o ?_
  refine zcl (b0g (m.cp.getD (c).toNat default).qu.sl hI.qu.sl) ?_
  refine zf1 ?_
  all_goals exact a0O
 have hO:=b8v (m:=m) (c:=c) k2 k3 (mt a60.mpr h6) k4
 refine zf1 ?_
 all_goals exact a0O
end Go.Proofs.YtpfhomblkgmkkaaGreatDoor
