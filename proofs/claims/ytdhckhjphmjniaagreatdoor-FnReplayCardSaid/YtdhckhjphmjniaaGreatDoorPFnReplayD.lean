/- Texts merged into one: M9, M14, M22, M23, W7. -/
import Derived.Test.YtdhckhjphmjniaaGreatDoorPFnReplayC
set_option maxHeartbeats 4000000
set_option linter.unusedSimpArgs false
set_option linter.unusedVariables false
set_option maxRecDepth 20000
namespace Go.Proofs.YtdhckhjphmjniaaGreatDoor
open Go Go.Rf
theorem a5a (a b:Int):Ctr Tryz.prog 199 [.v (.int .i64 a),.v (.int .i64 b)] (.one (.v (.int .i64 (min a b)))):=by
 refine Ctr.of (n:=10) G Tryz.func199 Z a8 Z Z Z (λw0=>?_)
 exact c5r
theorem a9H (sl:List Slot) (lim:Int) (hF:SlF sl):Ctr Tryz.prog 280 [.lst 3 (sl.map j4),.v (.int .i64 lim)] (.many [.fr 104 3 ((tkT sl lim).1.map j4),.v (.int .i64 (tkT sl lim).2.1),.v (.bool (tkT sl lim).2.2)]):=by
 have hl4:=hF.len
 have hb:=@a1o sl true
 have hf:=@a1K sl
 refine Ctr.of (n:=33) G Tryz.func280 Z a8 Z Z Z (λw0=>?_)
 refine zcl (X0 sl true J hF.difS) ?_
 refine zcd (λh1=>?_) (λh1=>?_)
 ·refine zwt ?_
  exact c48
 refine zcd (λh2=>?_) (λh2=>?_)
 ·exact c48
 refine a3p ?_
 refine zgn ?_
 refine zgn ?_
 refine t8 (j7 9 [0] mixed a8 Z Z (λr0=>?_) (λ_ h=>h))
 refine b8U ?_
 refine zsa 5 ?_
 refine b7 (rs:=[3]) a8 Z (AllB.cons ?_ AllB.nil)
 refine g9 [0] Z Z (d3 2 Z Z Z (ArgsOK.of Z) (a08 sl _ ⟨_,_,_⟩ J J) Z Z (b4 ⟨Z,?_⟩))
 refine zsa 6 ?_
 refine zsa 7 ?_
 refine zsa 8 ?_
 refine H8 ?_
 refine d7 (s1 Z Z Z Z (b3 (c7 Z ?_) (b3 (i8 ?_) (b3 (i8 ?_) d9))))
 all_goals exact c4w
theorem b1P (sl:List Slot) (lim:Int) (hF:SlF sl) (hk:a0u sl lim=true):Ctr Tryz.prog 253 [.lst 3 (sl.map j4),.v (.int .i64 lim)] (.many [.fr 104 3 ((tkS sl).map j4),.v (.int .i64 (tkI sl))]):=by
 have hl4:=hF.len
 have hb:=@a1o sl true
 have hf:=@a1K sl
 have hkk:=J7.mp hk
 refine Ctr.of (n:=33) G Tryz.func253 Z a8 Z Z Z (λw0=>?_)
 refine zcl (a09 sl J) ?_
 refine zcd (λh1=>?_) (λh1=>?_)
 ·exfalso;omega
 refine zcd (λh2=>?_) (λh2=>?_)
 ·exfalso;omega
 refine a3p ?_
 refine zgn ?_
 refine zgn ?_
 refine t8 (j7 8 [0] mixed a8 Z Z (λr0=>?_) (λ_ h=>h))
 refine b8U ?_
 refine zsa 5 ?_
 refine b7 (rs:=[3]) a8 Z (AllB.cons ?_ AllB.nil)
 refine g9 [0] Z Z (d3 2 Z Z Z (ArgsOK.of Z) (O2 sl _ ⟨_,_,_⟩ J J) Z Z (b4 ⟨Z,?_⟩))
 refine zsa 6 ?_
 refine zsa 7 ?_
 refine H8 ?_
 refine d7 (s1 Z Z Z Z (b3 (c7 Z ?_) (b3 (i8 ?_) d9)))
 all_goals (rfl)
theorem b1Q (sl:List Slot) (irq p:Int) (hF:SlF sl) (h0:0<=r5 sl irq):Ctr Tryz.prog 296 [.lst 3 (sl.map j4),.v (.int .i64 irq),.v (.int .i64 p)] (.many [.fr 104 3 ((ptS sl irq).map j4),.v (.bool true)]):=by
 have hl4:=hF.len
 have hf:=@a1K sl irq
 refine Ctr.of (n:=38) G Tryz.func296 Z a8 Z Z Z (λw0=>?_)
 refine zcl (I6 sl irq J) ?_
 refine zcd (λh1=>?_) (λh1=>?_)
 ·refine a3p ?_
  refine zcd (λh2=>?_) (λh2=>?_)
  ·exact c5V
  exact c5V
 exfalso;omega
theorem b4d (sl:List Slot) (irq p:Int) (hF:SlF sl) (h0:0<=r5 sl irq):Ctr Tryz.prog 256 [.lst 3 (sl.map j4),.v (.int .i64 irq),.v (.int .i64 p)] (.many [.fr 104 3 ((ptS sl irq).map j4),.v (.bool true)]):=by
 have hl4:=hF.len
 have hf:=@a1K sl irq
 refine Ctr.of (n:=39) G Tryz.func256 Z a8 Z Z Z (λw0=>?_)
 refine zcl (H3 sl irq J) ?_
 refine zcd (λh1=>?_) (λh1=>?_)
 ·refine a3p ?_
  refine zcd (λh2=>?_) (λh2=>?_)
  ·exact c5W
  exact c5W
 exfalso;omega
theorem a0c (q:Que) (hl:q.sl.length<=1048576) (hw:q.wa.length<=1048576):Ctr Tryz.prog 170 [.agg [.lst 3 (q.sl.map j4),.lst 2 (q.wa.map j8)]] (.shp true [some 2] [.fr 104 3 (q.sl.map j4),.fr 76 2 (q.wa.map j8)]):=by
 exact c50
theorem a9I (q:Que) (irq p:Int) (hF:QF q) (hi:0<=irq/\irq<=7) (hp:0<=p/\p<=15):Ctr Tryz.prog 279 [.agg [.lst 3 (q.sl.map j4),.lst 2 (q.wa.map j8)],.v (.int .i64 irq),.v (.int .i64 p)] (.shp true [some 2] [.fr 104 3 ((a1L q irq p).sl.map j4),.fr 76 2 ((a1L q irq p).wa.map j8) true]):=by
 have hl4:=hF.sl.len
 have hwn:=hF.wn
 have hQ:=(b3w (irq:=irq) (p:=p) hF hi hp).1
 refine Ctr.of (n:=40) G Tryz.func279 Z a8 Z Z Z (λw0=>?_)
 refine n9 0 Z (λ_=>Z) (λu0=>?_)
 refine vm1 ?_
 refine vm9 ?_
 refine vm3 ?_
 refine d3 4 Z Z Z (ArgsOK.of Z) (a0c q J J) Z Z ?_
 refine r6 ?_
 refine b8T ?_
 refine zcl (I6 q.sl irq J) ?_
 refine zcd (λh1=>?_) (λh1=>?_)
 ·have ho:=b6h (p:=p) h1
  rw [ho] at hQ
  refine vm3 ?_
  refine d3 6 Z Z Z (ArgsOK.of Z) (b1Q q.sl irq p hF.sl h1) Z Z ?_
  exact c5Z
 refine zcl (a10 q.wa irq J) ?_
 refine zcd (λh2=>?_) (λh2=>?_)
 ·have ho:=b6i (p:=p) h1 h2
  rw [ho] at hQ
  refine vm3 ?_
  refine d3 6 Z Z Z (ArgsOK.of Z) (a2o q.wa ⟨irq,p⟩ J) Z Z ?_
  exact c5Z
 have ho:=b6j (p:=p) h1 h2
 rw [ho] at hQ
 refine vm3 ?_
 refine d3 7 Z Z Z (ArgsOK.of Z) (a1V _ hQ) Z Z ?_
 refine zgo ?_
 exact c8u
theorem P7 (q:Que) (hF:QF q):Ctr Tryz.prog 255 [.agg [.lst 3 (q.sl.map j4),.lst 2 (q.wa.map j8)]] (.shp true [some 2] [.fr 104 3 ((a14 q).sl.map j4),.fr 76 2 ((a14 q).wa.map j8)]):=by
 have hq4:=hF.sl.len
 have hqw:=hF.wn
 refine Ctr.of (n:=56) G Tryz.func255 Z a8 Z Z Z (λw0=>?_)
 refine n9 0 Z (λ_=>Z) (λu0=>?_)
 refine vm1 ?_
 refine vm9 ?_
 refine vm3 ?_
 refine d3 4 Z Z Z (ArgsOK.of Z) (a8c q J J) Z Z ?_
 refine r6 ?_
 refine b8T ?_
 refine zgo ?_
 refine i6 [2,3] [1,4] (λ(x:Que)=>[]) (λ(x:Que)=>[(2,some (.row 104 3 (x.sl.map j4))),(3,some (.row 76 2 (x.wa.map j8)))]) (λ(x:Que)=>QF x/\a14 x=a14 q) (λ(x:Que)=>phi x) q Z Z ?_ ?_ ?_ ?_
 ·exact ⟨hF,Z⟩
 ·exact trivial
 ·exact b5t
 intro x hinv
 have hFx:=hinv.1
 have hl4:=hFx.sl.len
 have hwn:=hFx.wn
 have hf:=@b55 x.sl
 have hb:=@a1o x.sl false
 refine vm2 ?_
 refine zcl (a3t x J J) ?_
 refine zcd (λh1=>?_) (λh1=>?_)
 ·obtain ⟨hw0,hbb⟩:=b7a hFx h1
  have hnx:=b2o hFx h1
  obtain ⟨hF2,hphi⟩:=b0Y hFx h1
  refine vm3 ?_
  first | refine b5 Z Z (d1 G Z Z Z Z Z J J) ?_ | refine b5 Z Z (d1 G Z Z Z Z Z J n8) ?_
  refine r6 ?_
  first | refine b5 Z Z (f8 G Z Z Z Z (a2z J) Z) ?_ | refine b5 Z Z (f8 G Z Z Z Z (H1 J J) Z) ?_ | refine b5 Z Z (f8 G Z Z Z Z (C3 J J) Z) ?_ | refine b5 Z Z (f8 G Z Z Z Z (C3 J n8) Z) ?_
  refine r6 ?_
  refine b6G ?_
  refine vm3 ?_
  refine p6 G 7 Z Z Z Z Z Z Z Z ?_
  refine vm3 ?_
  refine c8i ?_
  refine r6 ?_
  refine b0r G np Z Z Z Z Z Z Z (ArgOK.sub Z w9) Z n8 Z Z ?_
  refine zgn ?_
  refine c2b (id:=6) ((x.wa.drop 1).map j8) Z a00 ?_
  refine zcl (a2N x.sl J) ?_
  refine zcd (λh2=>?_) (λh2=>?_)
  ·refine zcl (a4e x.sl J) ?_
   refine zgn ?_
   refine j7 16 [1,2,3,4,5,6] mixed a8 Z Z (λr0=>?_) (λ_ h=>h)
   refine a1q ?_
   first | refine c8 4 Z a8 a8 Z Z Z Z (d1 G Z Z Z Z Z J J) ?_ | refine c8 4 Z a8 a8 Z Z Z Z (d1 G Z Z Z Z Z J n8) ?_
   refine c8 5 Z a8 a8 Z Z Z Z (a17 G Z Z Z Z) ?_
   first | refine c8 6 Z a8 a8 Z Z Z Z (j9 G Z Z Z Z Z (a2z J) Z) ?_ | refine c8 6 Z a8 a8 Z Z Z Z (j9 G Z Z Z Z Z (H1 J J) Z) ?_ | refine c8 6 Z a8 a8 Z Z Z Z (j9 G Z Z Z Z Z (C3 J J) Z) ?_ | refine c8 6 Z a8 a8 Z Z Z Z (j9 G Z Z Z Z Z (C3 J n8) Z) ?_
   refine zsa 7 ?_
   refine zsa 8 ?_
   refine zsa 9 ?_
   first | refine c8 10 Z a8 a8 Z Z Z Z (d1 G Z Z Z Z Z J J) ?_ | refine c8 10 Z a8 a8 Z Z Z Z (d1 G Z Z Z Z Z J n8) ?_
   refine c8 11 Z a8 a8 Z Z Z Z (a17 G Z Z Z Z) ?_
   first | refine c8 12 Z a8 a8 Z Z Z Z (j9 G Z Z Z Z Z (a2z J) Z) ?_ | refine c8 12 Z a8 a8 Z Z Z Z (j9 G Z Z Z Z Z (H1 J J) Z) ?_ | refine c8 12 Z a8 a8 Z Z Z Z (j9 G Z Z Z Z Z (C3 J J) Z) ?_ | refine c8 12 Z a8 a8 Z Z Z Z (j9 G Z Z Z Z Z (C3 J n8) Z) ?_
   refine zsa 13 ?_
   refine b7 (rs:=[14]) a8 Z (AllB.cons ?_ AllB.nil)
   refine g9 [1,2,3,4,5,6] Z Z (d3 8 Z Z Z (ArgsOK.of Z) (a2M (x.wa.drop 1) ⟨_,_⟩ (by rw [List.length_drop];omega)) Z Z (b4 ⟨Z,?_⟩))
   refine zsa 15 ?_
   refine H8 ?_
   refine vm3 ?_
   refine d3 9 Z Z Z (ArgsOK.of Z) (O2 x.sl _ ⟨1,_,_⟩ J J) Z Z ?_
   iterate 3 refine zst ?_
   refine r4 (Gh.sub 8 2 np Z Z Z) (r4 (Gh.sub 7 3 np Z Z Z) (b4 ⟨(stQ x),?_,?_,trivial,⟨⟨_,Z,by (first | rfl | (rw [s7 (q:=x) J];exact congrArg (λz=>Row.row _ _ z) (a4i (f:=j4) (x:=⟨1,_,_⟩))) | (rw [v8 (q:=x) J];exact congrArg (λz=>Row.row _ _ z) (a4i (f:=j4) (x:=⟨1,_,_⟩))) | (rw [s7 (q:=x) J];exact congrArg (λz=>Row.row _ _ z) (List.map_drop).symm) | (rw [v8 (q:=x) J];done) | (rw [v8 (q:=x) J];rfl) | (rw [s7 (q:=x) J];done) | (rw [s7 (q:=x) J];rfl) | (rw [s7 (q:=x) J];exact congrArg (λz=>Row.row _ _ z) a00)| (rw [v8 (q:=x) J];exact congrArg (λz=>Row.row _ _ z) a00))⟩,Z,Z,⟨⟨_,Z,by (first | rfl | (rw [s7 (q:=x) J];exact congrArg (λz=>Row.row _ _ z) (a4i (f:=j4) (x:=⟨1,_,_⟩))) | (rw [v8 (q:=x) J];exact congrArg (λz=>Row.row _ _ z) (a4i (f:=j4) (x:=⟨1,_,_⟩))) | (rw [s7 (q:=x) J];exact congrArg (λz=>Row.row _ _ z) (List.map_drop).symm) | (rw [v8 (q:=x) J];done) | (rw [v8 (q:=x) J];rfl) | (rw [s7 (q:=x) J];done) | (rw [s7 (q:=x) J];rfl) | (rw [s7 (q:=x) J];exact congrArg (λz=>Row.row _ _ z) a00)| (rw [v8 (q:=x) J];exact congrArg (λz=>Row.row _ _ z) a00))⟩,Z,Z,trivial⟩⟩,Z,Z,Z⟩))
   ·exact ⟨hF2,hnx▸hinv.2⟩
   exact hphi
  refine vm3 ?_
  refine d3 8 Z Z Z (ArgsOK.of Z) (O2 x.sl _ ⟨1,_,_⟩ J J) Z Z ?_
  iterate 3 refine zst ?_
  refine r4 (Gh.sub 7 2 np Z Z Z) (r4 (Gh.sub 6 3 np Z Z Z) (b4 ⟨(stQ x),?_,?_,trivial,⟨⟨_,Z,by (first | rfl | (rw [s7 (q:=x) J];exact congrArg (λz=>Row.row _ _ z) (a4i (f:=j4) (x:=⟨1,_,_⟩))) | (rw [v8 (q:=x) J];exact congrArg (λz=>Row.row _ _ z) (a4i (f:=j4) (x:=⟨1,_,_⟩))) | (rw [s7 (q:=x) J];exact congrArg (λz=>Row.row _ _ z) (List.map_drop).symm) | (rw [v8 (q:=x) J];done) | (rw [v8 (q:=x) J];rfl) | (rw [s7 (q:=x) J];done) | (rw [s7 (q:=x) J];rfl) | (rw [s7 (q:=x) J];exact congrArg (λz=>Row.row _ _ z) a00)| (rw [v8 (q:=x) J];exact congrArg (λz=>Row.row _ _ z) a00))⟩,Z,Z,⟨⟨_,Z,by (first | rfl | (rw [s7 (q:=x) J];exact congrArg (λz=>Row.row _ _ z) (a4i (f:=j4) (x:=⟨1,_,_⟩))) | (rw [v8 (q:=x) J];exact congrArg (λz=>Row.row _ _ z) (a4i (f:=j4) (x:=⟨1,_,_⟩))) | (rw [s7 (q:=x) J];exact congrArg (λz=>Row.row _ _ z) (List.map_drop).symm) | (rw [v8 (q:=x) J];done) | (rw [v8 (q:=x) J];rfl) | (rw [s7 (q:=x) J];done) | (rw [s7 (q:=x) J];rfl) | (rw [s7 (q:=x) J];exact congrArg (λz=>Row.row _ _ z) a00)| (rw [v8 (q:=x) J];exact congrArg (λz=>Row.row _ _ z) a00))⟩,Z,Z,trivial⟩⟩,Z,Z,Z⟩))
  ·exact ⟨hF2,hnx▸hinv.2⟩
  exact hphi
 have hd:=b2p h1
 refine zgo ?_
 refine d7 (p7 Z Z Z Z (b3 (c7 Z ?_) (b3 (c7 Z ?_) d9)))
 all_goals ((rw [← hinv.2,hd];done))
theorem a0d (q:Que) (irq p:Int) (hF:QF q) (hi:0<=irq/\irq<=7) (hp:0<=p/\p<=15):Ctr Tryz.prog 202 [.agg [.lst 3 (q.sl.map j4),.lst 2 (q.wa.map j8)],.v (.int .i64 irq),.v (.int .i64 p)] (.shp true [some 2] [.fr 104 3 ((a1L q irq p).sl.map j4),.fr 76 2 ((a1L q irq p).wa.map j8)]):=by
 have hl4:=hF.sl.len
 have hwn:=hF.wn
 have hQ:=(b3w (irq:=irq) (p:=p) hF hi hp).1
 refine Ctr.of (n:=44) G Tryz.func202 Z a8 Z Z Z (λw0=>?_)
 refine n9 0 Z (λ_=>Z) (λu0=>?_)
 refine c1 (λK1 hK1=>?_)
 refine b1K ?_
 refine vm9 ?_
 refine b4 (hK1 _ ?_)
 clear hK1 K1
 refine c1 (λK2 hK2=>?_)
 refine c1 (λK3 hK3=>?_)
 refine c1r ?_
 refine b5 Z Z (i7 Z (ArgsOK.of Z) (H3 q.sl irq J) Z) ?_
 refine r6 ?_
 refine b5 Z Z (u4 Z Z Z Z) (b4 (hK3 _ ?_))
 clear hK3 K3
 refine l1 Z (λh1=>?_) (λh1=>?_)
 ·try rw [h1]
  try simp only [rfb] at h1
  have ho:=b6h (p:=p) h1
  rw [ho] at hQ
  refine c1 (λK4 hK4=>?_)
  refine c1r ?_
  refine b5 Z Z (b8 Z Z) ?_
  refine r6 ?_
  refine d3 3 Z Z Z (ArgsOK.of Z) (b4d q.sl irq p hF.sl h1) Z Z ?_
  refine r6 ?_
  refine c8f ?_
  refine hK4 _ ?_
  clear hK4 K4
  refine c1 (λK5 hK5=>?_)
  refine c8e ?_
  refine d3 5 Z Z Z (ArgsOK.of Z) (P7 _ hQ) Z Z ?_
  refine c3p ?_
  refine b4 (hK5 _ ?_)
  clear hK5 K5
  refine d7 (p7 Z Z Z Z (b3 (c7 Z ?_) (b3 (c7 Z ?_) d9)))
  all_goals clear hK2 K2
  all_goals exact c77
 ·try rw [h1]
  try simp only [rfb] at h1
  refine r7 (hK2 _ ?_)
  clear hK2 K2
  refine c1 (λK6 hK6=>?_)
  refine c1 (λK7 hK7=>?_)
  refine c1r ?_
  refine b5 Z Z (i7 Z (ArgsOK.of Z) (b4c q.wa irq J) Z) ?_
  refine r6 ?_
  refine b5 Z Z (u4 Z Z Z Z) (b4 (hK7 _ ?_))
  clear hK7 K7
  refine l1 Z (λh2=>?_) (λh2=>?_)
  ·try rw [h2]
   try simp only [rfb] at h2
   have ho:=b6j (p:=p) h1 h2
   rw [ho] at hQ
   refine c1 (λK8 hK8=>?_)
   refine b6 ?_
   refine r6 ?_
   refine b5 Z Z (c6 G Z Z Z Z Z Z) ?_
   refine r6 ?_
   refine d3 4 Z Z Z (ArgsOK.of Z) (P7 _ hQ) Z Z ?_
   refine c3p ?_
   refine b4 (hK8 _ ?_)
   clear hK8 K8
   refine d7 (p7 Z Z Z Z (b3 (c7 Z ?_) (b3 (c7 Z ?_) d9)))
   all_goals clear hK6 K6
   all_goals exact c77
  ·try rw [h2]
   try simp only [rfb] at h2
   have ho:=b6i (p:=p) h1 h2
   rw [ho] at hQ
   refine r7 (hK6 _ ?_)
   clear hK6 K6
   refine c1 (λK9 hK9=>?_)
   refine j7 11 [0] mixed a8 Z Z (λr0=>?_) (λ_ h=>h)
   refine c8 0 Z a8 a8 Z Z Z Z (d5 G Z Z Z Z) (c8 1 Z a8 a8 Z Z Z Z (f9 G Z Z Z Z Z Z Z) (c8 2 Z a8 a8 Z Z Z Z (d5 G Z Z Z Z) (c8 3 Z a8 a8 Z Z Z Z (a7l (f9 G Z Z Z Z Z Z Z)) (c8 4 Z a8 a8 Z Z Z Z (b8 Z Z) (c8 5 Z a8 a8 Z Z Z Z (b8 Z Z) (c8 6 Z a8 a8 Z Z Z Z (u3 G Z Z Z Z) ?_))))))
   refine b7 (rs:=[7]) a8 Z (AllB.cons ?_ AllB.nil)
   refine e9 [0] Z Z (d3 3 Z Z Z (ArgsOK.of Z) (a2M q.wa ⟨irq,p⟩ J) Z Z (b4 ⟨Z,?_⟩))
   refine b7 (rs:=[8]) a8 Z (AllB.cons ?_ AllB.nil)
   refine e9 [0] Z Z (b5 Z Z (u3 G Z Z Z Z) (b4 ⟨Z,?_⟩))
   refine b7 (rs:=[9]) a8 Z (AllB.cons ?_ AllB.nil)
   refine e9 [0] Z Z (d3 5 Z Z Z (ArgsOK.of Z) (P7 _ hQ) Z Z (b4 ⟨Z,?_⟩))
   refine b7 (rs:=[10]) a8 Z (AllB.cons ?_ AllB.nil)
   refine e9 [0] Z Z (f6 G Z Z Z Z Z Z Z Z Z Z Z (b4 ⟨Z,?_⟩))
   refine z7 a8 (hK9 _ ?_)
   clear hK9 K9
   exact c8u
theorem a8Y (q:Que) (lim:Int) (hF:QF q):Ctr Tryz.prog 233 [.agg [.lst 3 (q.sl.map j4),.lst 2 (q.wa.map j8)],.v (.int .i64 lim)] (.shp false [some 2,none,none] [.fr 104 3 ((b3z q lim).1.sl.map j4),.fr 76 2 ((b3z q lim).1.wa.map j8),.v (.int .i64 (b3z q lim).2.1),.v (.bool (b3z q lim).2.2)]):=by
 have hl4:=hF.sl.len
 have hwn:=hF.wn
 refine Ctr.of (n:=28) G Tryz.func233 Z a8 Z Z Z (λw0=>?_)
 refine n9 0 Z (λ_=>Z) (λu0=>?_)
 refine vm1 ?_
 refine vm9 ?_
 refine vm3 ?_
 refine d3 3 Z Z Z (ArgsOK.of Z) (a9H q.sl lim hF.sl) Z Z ?_
 refine zcd (λh1=>?_) (λh1=>?_)
 ·rw [c3W] at h1
  have ht:=b91 (q:=q) h1
  refine zgo ?_
  refine d7 (p7 Z Z Z Z (b3 (C6 ?_) (b3 (C6 ?_) (b3 (i8 ?_) (b3 (i8 ?_) d9)))))
  all_goals exact c4H
 rw [c3W] at h1
 have ht:=b6k (q:=q) h1
 have ht2:=b64 (sl:=q.sl) h1
 refine vm3 ?_
 refine d3 5 Z Z Z (ArgsOK.of Z) (a0c q J J) Z Z ?_
 refine r6 ?_
 refine b6G ?_
 refine zgo ?_
 refine d7 (p7 Z Z Z Z (b3 (c7 Z ?_) (b3 (c7 Z ?_) (b3 (i8 ?_) (b3 (i8 ?_) d9)))))
 all_goals exact c4H
theorem a6f (q:Que) (lim:Int) (hF:QF q) (hk:a0u q.sl lim=true):Ctr Tryz.prog 198 [.agg [.lst 3 (q.sl.map j4),.lst 2 (q.wa.map j8)],.v (.int .i64 lim)] (.shp false [some 2,none] [.fr 104 3 ((a4P q).sl.map j4),.fr 76 2 ((a4P q).wa.map j8),.v (.int .i64 (tkI q.sl))]):=by
 have hl4:=hF.sl.len
 have hwn:=hF.wn
 have htl:(tkS q.sl).length=4:=by unfold tkS;rw [List.length_set];exact hl4
 refine Ctr.of (n:=24) G Tryz.func198 Z a8 Z Z Z (λw0=>?_)
 refine n9 0 Z (λ_=>Z) (λu0=>?_)
 refine vm1 ?_
 refine vm9 ?_
 refine vm3 ?_
 refine d3 3 Z Z Z (ArgsOK.of Z) (b1P q.sl lim hF.sl hk) Z Z ?_
 refine zgn ?_
 refine t8 (j7 11 [0,2] mixed a8 Z Z (λr0=>?_) (λ_ h=>h))
 refine zsa 1 ?_
 refine zsa 4 ?_
 refine zsa 5 ?_
 refine zsa 8 ?_
 refine A7 (N:=5) Z (s8 (fuel:=5) [⟨0,15,3,false,.row 104 3 []⟩,⟨3,18,4,false,.row 76 2 []⟩] (AllVOK.cons (VOK.lit G Z Z Z Z Z) (AllVOK.cons (VOK.lit G Z Z Z Z Z) (AllVOK.nil))) (λhok=>?_))
 refine m6 [(2,[0])] a8 a8 (λe he=>hok e he) a8 (AllVS.cons ?_ AllVS.nil)
 refine VStep.mk1 [0,2] 15 (.own 3) 3 (.row 104 3 []) [⟨3,18,4,false,.row 76 2 []⟩] Z Z Z Z Z (λb1 _ hbn=>l2 G U5 Z Z Z Z Z Z Z Z Z n8 Z Z (b4 Z)) a8 a8 a8 a8 (m6 [(6,[3])] a8 a8 (λe he=>hok e (vin (is:=[0]) Z he)) a8 (AllVS.cons ?_ AllVS.nil))
 refine VStep.mk1 [0,2] 18 (.own 4) 4 (.row 76 2 []) [] Z Z Z Z Z (λb1 _ hbn=>l2 G U5 Z Z Z Z Z Z Z Z Z n8 Z Z (b4 Z)) a8 a8 a8 a8 (E1 ?_)
 clear hok
 refine b7 (rs:=[7]) a8 Z (AllB.cons ?_ AllB.nil)
 refine g9 [0,2] Z Z ?_
 refine R9 ?_
 refine b7 (rs:=[9]) a8 Z (AllB.cons ?_ AllB.nil)
 refine g9 [0,2] Z Z ?_
 refine R9 ?_
 refine zsa 10 ?_
 refine H8 ?_
 refine d7 (p7 Z Z Z Z (b3 (c7 Z ?_) (b3 (c7 Z ?_) (b3 (i8 ?_) d9))))
 all_goals (first | rfl | simp | (simp [a4P];done))
theorem a0e (sl:List Slot) (irq:Int) (hl:sl.length<=1048576) (h0:0<=r5 sl irq):Ctr Tryz.prog 140 [.lst 3 (sl.map j4),.v (.int .i64 irq)] (.one (.v (.int .i64 (lvl sl irq)))):=by
 have hf:=@a1K sl irq
 refine Ctr.of (n:=12) G Tryz.func140 Z a8 Z Z Z (λw0=>?_)
 refine zcl (I6 sl irq hl) ?_
 exact a9r
theorem a1a (q:Que) (irq:Int) (hl:q.sl.length<=1048576) (h0:0<=r5 q.sl irq):Ctr Tryz.prog 162 [.agg [.lst 3 (q.sl.map j4),.lst 2 (q.wa.map j8)],.v (.int .i64 irq)] (.one (.v (.int .i64 (lvl q.sl irq)))):=by
 have hf:=@a1K q.sl irq
 refine Ctr.of (n:=14) G Tryz.func162 Z a8 Z Z Z (λw0=>?_)
 refine n9 0 Z (λ_=>Z) (λu0=>?_)
 refine vm1 ?_
 refine zgd ?_
 refine zcl (H3 q.sl irq hl) ?_
 exact a9r
theorem a32 (x:Ifc) (hF:IfF x):Ctr Tryz.prog 234 [.agg [.v (.int .i64 x.ma),.lst 1 (x.st.map Rf.s3),.lst 3 (x.qu.sl.map j4),.lst 2 (x.qu.wa.map j8)]] (.one (.v (.int .i64 (a7B x)))):=by
 have hl4:=hF.qu.sl.len
 have hwn:=hF.qu.wn
 have hsn:=hF.sn
 refine Ctr.of (n:=19) G Tryz.func234 Z a8 Z Z Z (λw0=>?_)
 refine n9 0 Z (λ_=>Z) (λu0=>?_)
 refine t8 ?_
 refine b1K ?_
 refine zgn ?_
 refine zgn ?_
 refine l1 Z (λh1=>?_) (λh1=>?_)
 ·try rw [h1]
  try simp only [rfb] at h1
  exact c3D
 try rw [h1]
 try simp only [rfb] at h1
 have htn:((x.st.length:Int) - 1).toNat=x.st.length - 1:=J
 have htp:=hF.top (show x.st.length - 1 < x.st.length by omega)
 refine zgn ?_
 refine c1u ?_
 iterate 8 refine zst ?_
 refine d8 Z ?_
 refine c3l ?_
 refine d8 Z (l8 Z Z (i7 Z (ArgsOK.of Z) (a0e x.qu.sl _ J (by first | assumption | (rw [htn];assumption))) Z) ?_)
 exact c3D
theorem a2t (x:Ifc) (hF:IfF x):Ctr Tryz.prog 200 [.agg [.v (.int .i64 x.ma),.lst 1 (x.st.map Rf.s3),.lst 3 (x.qu.sl.map j4),.lst 2 (x.qu.wa.map j8)]] (.one (.v (.int .i64 (a7B x)))):=by
 have hl4:=hF.qu.sl.len
 have hwn:=hF.qu.wn
 have hsn:=hF.sn
 refine Ctr.of (n:=18) G Tryz.func200 Z a8 Z Z Z (λw0=>?_)
 refine n9 0 Z (λ_=>Z) (λu0=>?_)
 refine t8 ?_
 refine b1K ?_
 refine zgn ?_
 refine zgn ?_
 refine zgn ?_
 refine l1 Z (λh1=>?_) (λh1=>?_)
 ·try rw [h1]
  try simp only [rfb] at h1
  have htn:((x.st.length:Int) - 1).toNat=x.st.length - 1:=J
  have htp:=hF.top (show x.st.length - 1 < x.st.length by omega)
  refine c1u ?_
  iterate 5 refine zst ?_
  refine d8 Z ?_
  refine c3l ?_
  refine d8 Z (l8 Z Z (i7 Z (ArgsOK.of Z) (a1a x.qu _ J (by first | assumption | (rw [htn];assumption))) Z) ?_)
  exact c3D
 try rw [h1]
 try simp only [rfb] at h1
 refine zgn ?_
 exact c3D
theorem G2 (x:Ifc) (hn:x.st.length<=1048576) (hl:x.qu.sl.length<=1048576) (hw:x.qu.wa.length<=1048576):Ctr Tryz.prog 111 [.agg [.v (.int .i64 x.ma),.lst 1 (x.st.map Rf.s3),.lst 3 (x.qu.sl.map j4),.lst 2 (x.qu.wa.map j8)]] (.shp true [some 4] [.v (.int .i64 x.ma),.fr 3 1 (x.st.map Rf.s3),.fr 104 3 (x.qu.sl.map j4),.fr 76 2 (x.qu.wa.map j8)]):=by
 refine Ctr.of (n:=12) G Tryz.func111 Z a8 Z Z Z (λw0=>?_)
 refine n9 0 Z (λ_=>Z) (λu0=>?_)
 refine vm1 ?_
 refine vm9 ?_
 refine zgn ?_
 refine t8 (j7 10 [0] mixed a8 Z Z (λr0=>?_) (λ_ h=>h))
 refine a1q ?_
 refine zsa 5 ?_
 refine zsa 6 ?_
 refine b7 (rs:=[4]) a8 Z (AllB.cons ?_ AllB.nil)
 refine g9 [0] Z Z (d3 3 Z Z Z (ArgsOK.of Z) (F8 x.st hn) Z Z (b4 ⟨Z,?_⟩))
 refine b7 (rs:=[7]) a8 Z (AllB.cons ?_ AllB.nil)
 refine g9 [0] Z Z (d3 5 Z Z Z (ArgsOK.of Z) (a0c x.qu hl hw) Z Z (b4 ⟨Z,?_⟩))
 exact c5P
theorem a9J (x:Ifc) (irq p:Int) (hF:IfF x) (hi:0<=irq/\irq<=7) (hp:0<=p/\p<=15):Ctr Tryz.prog 232 [.agg [.v (.int .i64 x.ma),.lst 1 (x.st.map Rf.s3),.lst 3 (x.qu.sl.map j4),.lst 2 (x.qu.wa.map j8)],.v (.int .i64 irq),.v (.int .i64 p)] (.shp true [some 4] [.v (.int .i64 x.ma),.fr 3 1 (x.st.map Rf.s3),.fr 104 3 ((a1L x.qu irq p).sl.map j4),.fr 76 2 ((a1L x.qu irq p).wa.map j8) true]):=by
 have hl4:=hF.qu.sl.len
 have hwn:=hF.qu.wn
 have hsn:=hF.sn
 refine Ctr.of (n:=17) G Tryz.func232 Z a8 Z Z Z (λw0=>?_)
 refine n9 0 Z (λ_=>Z) (λu0=>?_)
 refine vm1 ?_
 refine vm9 ?_
 refine vm3 ?_
 refine d3 5 Z Z Z (ArgsOK.of Z) (G2 x J J J) Z Z ?_
 refine r6 ?_
 refine b6G ?_
 refine vm3 ?_
 refine d3 8 Z Z Z (ArgsOK.of Z) (a9I x.qu irq p hF.qu hi hp) Z Z ?_
 refine zgo ?_
 exact c4Z
theorem V0 (x:Ifc) (irq p:Int) (hF:IfF x) (hi:0<=irq/\irq<=7) (hp:0<=p/\p<=15):Ctr Tryz.prog 152 [.agg [.v (.int .i64 x.ma),.lst 1 (x.st.map Rf.s3),.lst 3 (x.qu.sl.map j4),.lst 2 (x.qu.wa.map j8)],.v (.int .i64 irq),.v (.int .i64 p)] (.shp true [some 4] [.v (.int .i64 x.ma),.fr 3 1 (x.st.map Rf.s3),.fr 104 3 ((a1L x.qu irq p).sl.map j4),.fr 76 2 ((a1L x.qu irq p).wa.map j8)]):=by
 have hl4:=hF.qu.sl.len
 have hwn:=hF.qu.wn
 have hsn:=hF.sn
 refine Ctr.of (n:=18) G Tryz.func152 Z a8 Z Z Z (λw0=>?_)
 refine n9 0 Z (λ_=>Z) (λu0=>?_)
 refine vm1 ?_
 refine vm9 ?_
 refine zgn ?_
 refine t8 (j7 12 [0] mixed a8 Z Z (λr0=>?_) (λ_ h=>h))
 refine a1q ?_
 refine zsa 5 ?_
 refine zsa 6 ?_
 refine zsa 7 ?_
 refine zsa 8 ?_
 refine b7 (rs:=[4]) a8 Z (AllB.cons ?_ AllB.nil)
 refine g9 [0] Z Z (d3 3 Z Z Z (ArgsOK.of Z) (I9 x.st J) Z Z (b4 ⟨Z,?_⟩))
 refine b7 (rs:=[9]) a8 Z (AllB.cons ?_ AllB.nil)
 refine g9 [0] Z Z (d3 5 Z Z Z (ArgsOK.of Z) (a0d x.qu irq p hF.qu hi hp) Z Z (b4 ⟨Z,?_⟩))
 refine b7 (rs:=[10]) a8 Z (AllB.cons ?_ AllB.nil)
 refine b37 ?_
 refine b7 (rs:=[11]) a8 Z (AllB.cons ?_ AllB.nil)
 exact d0P
theorem b1n (x:Ifc) (hF:IfF x):Ctr Tryz.prog 179 [.agg [.v (.int .i64 x.ma),.lst 1 (x.st.map Rf.s3),.lst 3 (x.qu.sl.map j4),.lst 2 (x.qu.wa.map j8)]] (.shp false [some 4,none,none] [.v (.int .i64 (Z4 x).1.ma),.fr 3 1 ((Z4 x).1.st.map Rf.s3),.fr 104 3 ((Z4 x).1.qu.sl.map j4),.fr 76 2 ((Z4 x).1.qu.wa.map j8),.v (.int .i64 (Z4 x).2.1),.v (.bool (Z4 x).2.2)]):=by
 have hl4:=hF.qu.sl.len
 have hwn:=hF.qu.wn
 have hsn:=hF.sn
 refine Ctr.of (n:=34) G Tryz.func179 Z a8 Z Z Z (λw0=>?_)
 refine n9 0 Z (λ_=>Z) (λu0=>?_)
 refine vm1 ?_
 refine vm9 ?_
 refine zgn ?_
 refine t8 (j7 16 [0,1] mixed a8 Z Z (λr0=>?_) (λ_ h=>h))
 refine a1q ?_
 refine zsa 4 ?_
 refine A7 (N:=3) Z (s8 (fuel:=10) [⟨12,5,2,true,.box (avR [.slice none 0 0,.slice none 0 0] [])⟩] (AllVOK.cons (VOK.boxS G Z Z Z Z Z) (AllVOK.nil)) (λhok=>?_))
 refine m6 [(5,[])] a8 a8 (λe he=>hok e he) a8 (AllVS.cons ?_ AllVS.nil)
 refine VStep.mk0 [0,1] Z Z (λb1 _ hbn=>b5 Z Z (i7 Z (ArgsOK.of Z) (a32 x hF) Z) (b4 Z)) a8 a8 a8 a8 (w6 6 Z a8 Z Z Z Z (b9a Z Z Z) a8 a8 a8 (m6 [(7,[])] a8 a8 (λe he=>hok e he) a8 (AllVS.cons ?_ AllVS.nil)))
 refine VStep.mk0 [0,1] Z Z (λb1 _ hbn=>d3 5 Z Z Z (ArgsOK.of Z) (a8Y x.qu (b8A x) hF.qu) Z Z (b4 Z)) a8 a8 a8 a8 (w6 8 Z a8 Z Z Z Z (b8 Z Z) a8 a8 a8 (w6 9 Z a8 Z Z Z Z (e7 Z Z Z) a8 a8 a8 (w6 10 Z a8 Z Z Z Z (e7 Z Z Z) a8 a8 a8 (w6 11 Z a8 Z Z Z Z (e7 Z Z Z) a8 a8 a8 (m6 [(13,[12])] a8 a8 (λe he=>hok e he) a8 (AllVS.cons ?_ AllVS.nil))))))
 refine c99 ?_
 clear hok
 refine zsa 14 ?_
 refine zsa 15 ?_
 refine H8 ?_
 refine zcd (λh1=>?_) (λh1=>?_)
 ·rw [b92] at h1
  have ht:=b7f (x:=x) h1
  refine zgo ?_
  refine d7 (p7 Z Z Z Z (b3 (i8 ?_) (b3 (C6 ?_) (b3 (C6 ?_) (b3 (C6 ?_) (b3 (i8 ?_) (b3 (i8 ?_) d9)))))))
  all_goals exact c4I
 rw [b92] at h1
 have ht:=b7e (x:=x) h1
 have ht2:=b6k h1
 refine zgo ?_
 apply C4 [2,3,4] [1,3,4,5] 7 14 [0,2,3,4] mixed a8 Z Z (λ_ h=>znk h)
 ·intro r0
  refine a1q ?_
  refine zsa 5 ?_
  refine zsa 8 ?_
  refine zsa 10 ?_
  refine b7 (rs:=[4,6]) a8 Z (AllB.cons ?_ (AllB.cons ?_ AllB.nil))
  ·refine g9 [0,2,3,4] Z Z (d3 6 Z Z Z (ArgsOK.of Z) (F8 x.st J) Z Z (b4 ⟨Z,?_⟩))
   refine b7 (rs:=[6]) a8 Z (AllB.cons ?_ AllB.nil)
   refine g9 [0,2,3,4] Z Z (p6 G 7 Z Z Z Z Z Z Z Z (b4 ⟨Z,?_⟩))
   refine b7 (rs:=[7]) a8 Z (AllB.cons ?_ AllB.nil)
   refine g9 [0,2,3,4] Z Z (l2 G Z6 Z Z Z Z Z Z Z Z Z N6 Z Z (b4 ⟨Z,?_⟩))
   refine b7 (rs:=[9]) a8 Z (AllB.cons ?_ AllB.nil)
   refine b5r ?_
   refine b7 (rs:=[11]) a8 Z (AllB.cons ?_ AllB.nil)
   refine b5r ?_
   refine zsa 12 ?_
   refine zsa 13 ?_
   exact a44
  refine g9 [0,2,3,4] Z Z (p6 G 6 Z Z Z Z Z Z Z Z (b4 ⟨Z,?_⟩))
  refine b7 (rs:=[4]) a8 Z (AllB.cons ?_ AllB.nil)
  refine g9 [0,2,3,4] Z Z (d3 7 Z Z Z (ArgsOK.of Z) (F8 x.st J) Z Z (b4 ⟨Z,?_⟩))
  refine b7 (rs:=[7]) a8 Z (AllB.cons ?_ AllB.nil)
  refine g9 [0,2,3,4] Z Z (l2 G Z6 Z Z Z Z Z Z Z Z Z N6 Z Z (b4 ⟨Z,?_⟩))
  refine b7 (rs:=[9]) a8 Z (AllB.cons ?_ AllB.nil)
  refine b5r ?_
  refine b7 (rs:=[11]) a8 Z (AllB.cons ?_ AllB.nil)
  refine b5r ?_
  refine zsa 12 ?_
  refine zsa 13 ?_
  refine a3a (Gh.sub 6 5 Z6 Z Z Z) ?_
  exact a44
 refine d7 (p7 Z Z Z Z (b3 (i8 ?_) (b3 (c7 Z ?_) (b3 (c7 Z ?_) (b3 (c7 Z ?_) (b3 (i8 ?_) (b3 (i8 ?_) d9)))))))
 all_goals exact c4I
theorem a5b (x:Ifc) (hF:IfF x) (hk:okT x=true):Ctr Tryz.prog 150 [.agg [.v (.int .i64 x.ma),.lst 1 (x.st.map Rf.s3),.lst 3 (x.qu.sl.map j4),.lst 2 (x.qu.wa.map j8)]] (.shp false [some 4,none] [.v (.int .i64 (a3j x).ma),.fr 3 1 ((a3j x).st.map Rf.s3),.fr 104 3 ((a3j x).qu.sl.map j4),.fr 76 2 ((a3j x).qu.wa.map j8),.v (.int .i64 (tkI x.qu.sl))]):=by
 have hl4:=hF.qu.sl.len
 have hwn:=hF.qu.wn
 have hsn:=hF.sn
 have hkk:=J7.mp hk
 have htb:=b6l hF.qu.sl hkk.1
 refine Ctr.of (n:=35) G Tryz.func150 Z a8 Z Z Z (λw0=>?_)
 refine n9 0 Z (λ_=>Z) (λu0=>?_)
 refine vm1 ?_
 refine vm9 ?_
 refine zgn ?_
 refine t8 (j7 14 [0,1] mixed a8 Z Z (λr0=>?_) (λ_ h=>h))
 refine a1q ?_
 refine zsa 4 ?_
 refine A7 (N:=3) Z (s8 (fuel:=8) [⟨11,4,2,true,.box (avR [.slice none 0 0,.slice none 0 0] [])⟩] (AllVOK.cons (VOK.boxS G Z Z Z Z Z) (AllVOK.nil)) (λhok=>?_))
 refine m6 [(5,[])] a8 a8 (λe he=>hok e he) a8 (AllVS.cons ?_ AllVS.nil)
 refine VStep.mk0 [0,1] Z Z (λb1 _ hbn=>b5 Z Z (i7 Z (ArgsOK.of Z) (a2t x hF) Z) (b4 Z)) a8 a8 a8 a8 (m6 [(6,[])] a8 a8 (λe he=>hok e he) a8 (AllVS.cons ?_ AllVS.nil))
 refine VStep.mk0 [0,1] Z Z (λb1 _ hbn=>b5 Z Z (i7 Z (ArgsOK.of Z) (a5a _ _) Z) (b4 Z)) a8 a8 a8 a8 (m6 [(7,[])] a8 a8 (λe he=>hok e he) a8 (AllVS.cons ?_ AllVS.nil))
 refine VStep.mk0 [0,1] Z Z (λb1 _ hbn=>d3 5 Z Z Z (ArgsOK.of Z) (a6f x.qu (b8A x) hF.qu hk) Z Z (b4 Z)) a8 a8 a8 a8 (w6 8 Z a8 Z Z Z Z (b8 Z Z) a8 a8 a8 (w6 9 Z a8 Z Z Z Z (e7 Z Z Z) a8 a8 a8 (w6 10 Z a8 Z Z Z Z (e7 Z Z Z) a8 a8 a8 (m6 [(12,[11])] a8 a8 (λe he=>hok e he) a8 (AllVS.cons ?_ AllVS.nil)))))
 refine d0a ?_
 clear hok
 refine zsa 13 ?_
 refine H8 ?_
 refine t8 (j7 9 [0,1,2,3,4] mixed a8 Z Z (λr0=>?_) (λ_ h=>h))
 refine a1q ?_
 refine zsa 5 ?_
 refine A7 (N:=6) Z (s8 (fuel:=3) [⟨7,6,5,true,.box (avR [.int .i64 0,.slice none 0 0,.slice none 0 0,.slice none 0 0] [])⟩] (AllVOK.cons (VOK.boxS G Z Z Z Z Z) (AllVOK.nil)) (λhok=>?_))
 refine m6 [(4,[])] a8 a8 (λe he=>hok e he) a8 (AllVS.cons ?_ AllVS.nil)
 refine VStep.mk0 [0,1,2,3,4] Z Z (λb1 _ hbn=>d3 7 Z Z Z (ArgsOK.of Z) (I9 x.st J) Z Z (b4 Z)) a8 a8 a8 a8 (m6 [(6,[])] a8 a8 (λe he=>hok e he) a8 (AllVS.cons ?_ AllVS.nil))
 refine VStep.mk0 [0,1,2,3,4] Z Z (λb1 _ hbn=>b5 Z Z (u3 G Z Z Z Z) (b4 Z)) a8 a8 a8 a8 (m6 [(8,[7])] a8 a8 (λe he=>hok e he) a8 (AllVS.cons ?_ AllVS.nil))
 refine c97 ?_
 clear hok
 refine H8 ?_
 refine zcd (λh1=>?_) (λh1=>?_)
 ·refine vm3 ?_
  refine p6 G 8 Z Z Z Z Z Z Z Z ?_
  refine r6 ?_
  refine I1 (Gh.forget (id:=5) (k:=1) Z Z)<|I1 (Gh.keep [0,1,2,3,4,5,6,7] Z)<|l2 G np rfl rfl rfl rfl rfl rfl rfl rfl rfl N6 rfl rfl ?_
  refine zgo ?_
  refine d7 (p7 Z Z Z Z (b3 (i8 ?_) (b3 (c7 Z ?_) (b3 (c7 Z ?_) (b3 (c7 Z ?_) (b3 (i8 ?_) d9))))))
  all_goals (first | rfl | (simp [a3j,Rf.s3];done))
 exfalso;omega
theorem a33 (l r:List Int) (hl:l.length<=1048576) (hr:r.length<=1048576):Ctr Tryz.prog 138 [.lst 1 (l.map Rf.s3),.lst 1 (r.map Rf.s3)] (.one (.v (.bool (decide (l=r))))):=by
 refine Ctr.of (n:=26) G Tryz.func138 Z a8 Z Z Z (λw0=>?_)
 refine zcd (λh1=>?_) (λh1=>?_)
 ·exact c5f
 refine zgo ?_
 refine i6 [0,1,12] [] (λ(i:Nat)=>[(13,.v (.int .i64 (i:Int)))]) (λ(i:Nat)=>[]) (λ(i:Nat)=>i<=l.length/\∀j,j < i→l.getD j default=r.getD j default) (λ(i:Nat)=>l.length - i) 0 Z Z ?_ ?_ ?_ ?_
 ·exact T5
 ·exact C0
 ·exact trivial
 intro i hinv
 refine vm2 ?_
 refine zcd (λh2=>?_) (λh2=>?_)
 ·refine zgd ?_
  refine zcd (λh3=>?_) (λh3=>?_)
  ·exact c5f
  exact c1v
 refine zf1 ?_
 all_goals exact c4x
theorem a4f (x:Slot):Ctr Tryz.prog 194 [.v (a9m x)] (.one (.v (.bool (T3 x)))):=by
 refine Ctr.of (n:=11) G Tryz.func194 Z a8 Z Z Z (λw0=>?_)
 refine vm1 ?_
 refine zcd (λh1=>?_) (λh1=>?_)
 ·exact c5A
 exact c5A
theorem a8d (sl:List Slot) (hF:SlF sl):Ctr Tryz.prog 139 [.lst 3 (sl.map j4)] (.one (.fr 3 1 ((srtI (actN sl 4)).map Rf.s3))):=by
 have hl4:=hF.len
 refine Ctr.of (n:=24) G Tryz.func139 Z a8 Z Z Z (λw0=>?_)
 refine b1L ?_
 refine zgo ?_
 refine i6 [7,8] [] (λ(i:Nat)=>[(3,.own 0),(9,.v (.int .i64 (i:Int)))]) (λ(i:Nat)=>[(0,some (.row 3 1 ((actN sl i).map Rf.s3)))]) (λ(i:Nat)=>i<=4) (λ(i:Nat)=>4 - i) 0 Z Z ?_ ?_ ?_ ?_
 ·exact P9
 ·exact Z8
 ·exact a1U
 intro i hi
 have hpl:=@a0U sl i
 refine vm2 ?_
 refine zcd (λh1=>?_) (λh1=>?_)
 ·refine b5q ?_
  refine zcl (a4f _) ?_
  refine zcd (λh2=>?_) (λh2=>?_)
  ·refine vm3 ?_
   refine b5p ?_
   refine r6 ?_
   refine vm6 ?_
   exact c45
  exact c45
 obtain rfl:i=4:=J
 refine vm3 ?_
 refine N1 1 [0] Z Z Z (a0j (actN sl 4) (by have:=@a0U sl 4;omega)) Z (RowsIn.cons Z RowsIn.nil) Z Z Z ?_
 refine zfo ?_
 all_goals (rfl)
theorem b39 (l:List Int) (n:Int) (hl:l.length<=1048576) (hne:∀x∈l,x≠n):Ctr Tryz.prog 213 [.lst 1 (l.map Rf.s3),.v (.int .i64 n)] (.one (.fr 3 1 ((b3D l n).map Rf.s3))):=by
 refine Ctr.of (n:=45) G Tryz.func213 Z a8 Z Z Z (λw0=>?_)
 refine zgo ?_
 refine i6 [0,1] [] (λ(k:Nat)=>[(5,.v (.int .i64 (k:Int)))]) (λ(k:Nat)=>[]) (λ(k:Nat)=>k<=l.length/\∀j,j < k→l.getD j default < n) (λ(k:Nat)=>l.length - k) 0 Z Z ?_ ?_ ?_ ?_
 ·exact T5
 ·exact C0
 ·exact trivial
 intro k hk
 refine vm2 ?_
 refine zcd (λh1=>?_) (λh1=>?_)
 ·refine zcd (λh2=>?_) (λh2=>?_)
  ·refine zgo ?_
   refine ⟨(k+1),?_,?_,⟨⟨_,Z,by rfl⟩,Z,trivial⟩,trivial,Z,Z,Z⟩
   ·exact ⟨by omega,s4 hk.2 j6⟩
   omega
  refine zcd (λh3=>?_) (λh3=>?_)
  ·refine zcd (λh4=>?_) (λh4=>?_)
   ·exact c5x
   exact c1M
  refine zwf ?_
  exact c1M
 refine zwf ?_
 refine zcd (λh5=>?_) (λh5=>?_)
 ·refine zcd (λh6=>?_) (λh6=>?_)
  ·exact c5x
  exact c1M
 refine zwf ?_
 refine zgo ?_
 apply C4 [4] [0] 2 13 [] mixed a8 Z Z (λ_ h=>znk h)
 ·exact ws4
 refine zfo ?_
 all_goals exact c4z
theorem a9K (sl:List Slot) (hF:SlF sl):Ctr Tryz.prog 160 [.lst 3 (sl.map j4)] (.one (.fr 3 1 ((a8K sl 4).map Rf.s3))):=by
 have hl4:=hF.len
 refine Ctr.of (n:=34) G Tryz.func160 Z a8 Z Z Z (λw0=>?_)
 refine b1L ?_
 refine zgo ?_
 refine i6 [0] [] (λ(i:Nat)=>[(3,.own 0),(4,.v (.int .i64 (i:Int)))]) (λ(i:Nat)=>[(0,some (.row 3 1 ((a8K sl i).map Rf.s3)))]) (λ(i:Nat)=>i<=4) (λ(i:Nat)=>4 - i) 0 Z Z ?_ ?_ ?_ ?_
 ·exact P9
 ·exact Z8
 ·exact a1U
 intro i hi
 refine vm2 ?_
 refine zcd (λh1=>?_) (λh1=>?_)
 ·refine zcd (λh2=>?_) (λh2=>?_)
  ·refine zwt ?_
   exact d0H
  refine zcd (λh3=>?_) (λh3=>?_)
  ·exact d0H
  refine zgo ?_
  refine ⟨(i+1),?_,?_,⟨⟨_,Z,by rfl⟩,Z,⟨⟨_,Z,by rfl⟩,Z,trivial⟩⟩,⟨⟨_,Z,by (first | (rw [c0b J];done) | (rw [c0c J];done))⟩,Z,Z,trivial⟩,Z,Z,Z⟩
  ·omega
  omega
 obtain rfl:i=4:=J
 refine zfo ?_
 all_goals (rfl)
theorem a6K (x:Ifc) (hn:x.st.length<=1048576) (hl:x.qu.sl.length<=1048576) (hw:x.qu.wa.length<=1048576):Ctr Tryz.prog 90 [.agg [.v (.int .i64 x.ma),.lst 1 (x.st.map Rf.s3),.lst 3 (x.qu.sl.map j4),.lst 2 (x.qu.wa.map j8)]] (.one (.v (.bool (a2G x)))):=by
 refine Ctr.of (n:=54) G Tryz.func90 Z a8 Z Z Z (λw0=>?_)
 refine n9 0 Z (λ_=>Z) (λu0=>?_)
 refine t8 ?_
 refine b1K ?_
 refine zgn ?_
 refine t8 ?_
 refine a4j ?_
 refine a3q ?_
 refine r6 ?_
 refine b5 Z Z (i7 Z (ArgsOK.of Z) (a6d x.ma) Z) ?_
 refine a3q ?_
 refine D9 Z Z Z (λh1=>?_) (λh1=>?_)
 ·try rw [h1]
  try simp only [rfb] at h1
  refine zgn ?_
  refine M8 Z ?_
  exact c3w
 try rw [h1]
 try simp only [rfb] at h1
 refine a3q ?_
 refine Y5 ?_
 refine b5 Z Z (i7 Z (ArgsOK.of Z) (b1m x.qu hl hw) Z) ?_
 refine zgn ?_
 refine l1 Z (λh2=>?_) (λh2=>?_)
 ·try rw [h2]
  try simp only [rfb] at h2
  exact c3w
 try rw [h2]
 try simp only [rfb] at h2
 have hq:=a7x.mp h2
 have hSl:=hq.1.sl
 have hl4:=hSl.len
 refine zgn ?_
 refine a4j ?_
 refine a3q ?_
 refine r6 ?_
 refine d3 2 Z Z Z (ArgsOK.of Z) (F8 x.st hn) Z Z ?_
 refine zgn ?_
 refine a4j ?_
 refine zst ?_
 refine r6 ?_
 refine N1 2 [1] Z Z Z (a0j x.st hn) Z (RowsIn.cons Z RowsIn.nil) Z Z Z ?_
 refine zgn ?_
 refine t8 ?_
 refine a4j ?_
 iterate 4 refine zst ?_
 refine r6 ?_
 refine d3 3 Z Z Z (ArgsOK.of Z) (a8d x.qu.sl hSl) Z Z ?_
 refine r6 ?_
 refine b5 Z Z (i7 Z (ArgsOK.of Z) (a33 (srtI x.st) (srtI (actN x.qu.sl 4)) (by rw [Z3];exact hn) (by rw [Z3];have:=@a0U x.qu.sl 4;omega)) Z) ?_
 refine zgn ?_
 refine l1 Z (λh3=>?_) (λh3=>?_)
 ·try rw [h3]
  try simp only [rfb] at h3
  exact c3w
 try rw [h3]
 try simp only [rfb] at h3
 have hin:=λj (hj:j < x.st.length)=>b6n (b6o h3 (j5.mpr ⟨j,hj,Z⟩)) hl4
 refine zgn ?_
 refine zgn ?_
 refine p8 (i6 [1] [0] (λ(i:Nat)=>[(4,.v (.int .i64 (i:Int)))]) (λ(i:Nat)=>[]) (λ(i:Nat)=>1<=i/\∀j,j < i→lvD x.qu.sl x.st j=true) (λ(i:Nat)=>x.st.length - i) 1 Z Z ?_ ?_ ?_ ?_)
 ·exact ⟨Nat.le_refl _,λj hj=>by obtain rfl:j=0:=J;exact c0h⟩
 ·exact C0
 ·exact trivial
 intro i hinv
 have hti:0 < i→((i:Int) - 1).toNat=i - 1:=λ_=>J
 refine vm2 ?_
 refine zgn ?_
 refine l1 Z (λh4=>?_) (λh4=>?_)
 ·try rw [h4]
  try simp only [rfb] at h4
  have hi1:=hin i J
  have hi2:=hin (i - 1) J
  refine b8P ?_
  refine l8 Z Z (i7 Z (ArgsOK.of Z) (a0e x.qu.sl _ hl hi1) Z) ?_
  iterate 6 refine zst ?_
  refine d8 Z ?_
  refine c3l ?_
  refine d8 Z (l8 Z Z (i7 Z (ArgsOK.of Z) (a0e x.qu.sl _ hl (by rw [hti J];exact hi2)) Z) ?_)
  refine zgn ?_
  refine l1 Z (λh5=>?_) (λh5=>?_)
  ·try rw [h5]
   try simp only [rfb] at h5
   exact c3w
  try rw [h5]
  try simp only [rfb] at h5
  refine zgn ?_
  refine b6 ?_
  refine zst ?_
  refine vm7 ?_
  refine zgn ?_
  refine ⟨(i+1),?_,?_,⟨⟨_,Z,by rfl⟩,Z,trivial⟩,trivial,Z,Z,Z⟩
  ·exact ⟨by omega,s4 hinv.2 (c0i b7R)⟩
  omega
 try rw [h4]
 try simp only [rfb] at h4
 refine zgn ?_
 refine a79 ?_
 all_goals exact c4s
theorem b1o (sl:List Slot) (irq:Int) (hF:SlF sl) (h0:0<=r5 sl irq) (ha:T3 (sl.getD (r5 sl irq).toNat default)=true):Ctr Tryz.prog 281 [.lst 3 (sl.map j4),.v (.int .i64 irq)] (.many [.fr 104 3 ((edS sl irq).map j4),.v (.bool true)]):=by
 have hl4:=hF.len
 have hf:=@a1K sl irq
 have haa:=u5.mp ha
 refine Ctr.of (n:=39) G Tryz.func281 Z a8 Z Z Z (λw0=>?_)
 refine zcl (I6 sl irq J) ?_
 refine zcd (λh1=>?_) (λh1=>?_)
 ·exact b72
 refine zcl (a4f _) ?_
 refine zcd (λh2=>?_) (λh2=>?_)
 ·exact b72
 refine a3p ?_
 refine zcd (λh3=>?_) (λh3=>?_)
 ·exact c5X
 exact c5X
theorem b4e (sl:List Slot) (irq:Int) (hF:SlF sl) (h0:0<=r5 sl irq) (ha:T3 (sl.getD (r5 sl irq).toNat default)=true):Ctr Tryz.prog 254 [.lst 3 (sl.map j4),.v (.int .i64 irq)] (.many [.fr 104 3 ((edS sl irq).map j4),.v (.bool true)]):=by
 have hl4:=hF.len
 have hf:=@a1K sl irq
 have haa:=u5.mp ha
 refine Ctr.of (n:=41) G Tryz.func254 Z a8 Z Z Z (λw0=>?_)
 refine zcl (H3 sl irq J) ?_
 refine zcd (λh1=>?_) (λh1=>?_)
 ·exact b72
 refine zcd (λh2=>?_) (λh2=>?_)
 ·exact b72
 refine zcd (λh3=>?_) (λh3=>?_)
 ·refine c8k ?_
  exact c8p
 refine a3p ?_
 refine c3m ?_
 exact c8p
theorem a9L (q:Que) (irq:Int) (hF:QF q) (h0:0<=r5 q.sl irq) (ha:T3 (q.sl.getD (r5 q.sl irq).toNat default)=true):Ctr Tryz.prog 235 [.agg [.lst 3 (q.sl.map j4),.lst 2 (q.wa.map j8)],.v (.int .i64 irq)] (.shp false [some 2,none] [.fr 104 3 ((a4Q q irq).sl.map j4),.fr 76 2 ((a4Q q irq).wa.map j8) true,.v (.bool true)]):=by
 have hl4:=hF.sl.len
 have hwn:=hF.wn
 have hQ:=a7y hF h0
 refine Ctr.of (n:=23) G Tryz.func235 Z a8 Z Z Z (λw0=>?_)
 refine n9 0 Z (λ_=>Z) (λu0=>?_)
 refine c1 (λK1 hK1=>?_)
 refine b1K ?_
 refine vm9 ?_
 refine c3q ?_
 refine hK1 _ ?_
 clear hK1 K1
 refine c1 (λK2 hK2=>?_)
 refine c1r ?_
 refine d3 3 Z Z Z (ArgsOK.of Z) (b1o q.sl irq hF.sl h0 ha) Z Z ?_
 refine r6 ?_
 refine c8f ?_
 refine hK2 _ ?_
 clear hK2 K2
 refine c1 (λK3 hK3=>?_)
 refine c1 (λK4 hK4=>?_)
 refine b6 ?_
 refine r6 ?_
 refine b5 Z Z (b8 Z Z) ?_
 refine r6 ?_
 refine b5 Z Z (a1d Z Z) (b4 (hK4 _ ?_))
 clear hK4 K4
 refine l1 Z (λh1=>?_) (λh1=>?_)
 ·exact d0Q
 ·try rw [h1]
  try simp only [rfb] at h1
  refine r7 (hK3 _ ?_)
  clear hK3 K3
  refine c1 (λK6 hK6=>?_)
  refine c8e ?_
  refine d3 5 Z Z Z (ArgsOK.of Z) (a1V _ hQ) Z Z ?_
  exact c43
theorem a34 (q:Que) (irq:Int) (hF:QF q) (h0:0<=r5 q.sl irq) (ha:T3 (q.sl.getD (r5 q.sl irq).toNat default)=true):Ctr Tryz.prog 201 [.agg [.lst 3 (q.sl.map j4),.lst 2 (q.wa.map j8)],.v (.int .i64 irq)] (.shp false [some 2,none] [.fr 104 3 ((a4Q q irq).sl.map j4),.fr 76 2 ((a4Q q irq).wa.map j8),.v (.bool true)]):=by
 have hl4:=hF.sl.len
 have hwn:=hF.wn
 have hQ:=a7y hF h0
 refine Ctr.of (n:=23) G Tryz.func201 Z a8 Z Z Z (λw0=>?_)
 refine n9 0 Z (λ_=>Z) (λu0=>?_)
 refine c1 (λK1 hK1=>?_)
 refine b1K ?_
 refine vm9 ?_
 refine c3q ?_
 refine hK1 _ ?_
 clear hK1 K1
 refine c1 (λK2 hK2=>?_)
 refine c1r ?_
 refine d3 3 Z Z Z (ArgsOK.of Z) (b4e q.sl irq hF.sl h0 ha) Z Z ?_
 refine r6 ?_
 refine c8f ?_
 refine hK2 _ ?_
 clear hK2 K2
 refine c1 (λK3 hK3=>?_)
 refine c1 (λK4 hK4=>?_)
 refine b6 ?_
 refine r6 ?_
 refine b5 Z Z (b8 Z Z) ?_
 refine r6 ?_
 refine b5 Z Z (a1d Z Z) (b4 (hK4 _ ?_))
 clear hK4 K4
 refine l1 Z (λh1=>?_) (λh1=>?_)
 ·exact d0Q
 ·try rw [h1]
  try simp only [rfb] at h1
  refine r7 (hK3 _ ?_)
  clear hK3 K3
  refine c1 (λK6 hK6=>?_)
  refine c8e ?_
  refine d3 5 Z Z Z (ArgsOK.of Z) (P7 _ hQ) Z Z ?_
  exact c43
theorem a9M (x:Ifc) (hG:IfG x) (hn:x.st.length≠0):Ctr Tryz.prog 180 [.agg [.v (.int .i64 x.ma),.lst 1 (x.st.map Rf.s3),.lst 3 (x.qu.sl.map j4),.lst 2 (x.qu.wa.map j8)]] (.shp false [some 4,none,none] [.v (.int .i64 x.ma),.fr 3 1 ((x.st.take (x.st.length - 1)).map Rf.s3),.fr 104 3 ((a4Q x.qu (M7 x)).sl.map j4),.fr 76 2 ((a4Q x.qu (M7 x)).wa.map j8) true,.v (.int .i64 (M7 x)),.v (.bool true)]):=by
 have hl4:=hG.f.qu.sl.len
 have hwn:=hG.f.qu.wn
 have hsn:=hG.f.sn
 obtain ⟨hla,hlb⟩:=b7y hG hn
 have hls:=a8R hn
 have htn:((x.st.length:Int) - 1).toNat=x.st.length - 1:=J
 refine Ctr.of (n:=40) G Tryz.func180 Z a8 Z Z Z (λw0=>?_)
 refine n9 0 Z (λ_=>Z) (λu0=>?_)
 refine vm1 ?_
 refine vm9 ?_
 refine zcd (λh1=>?_) (λh1=>?_)
 ·exfalso;omega
 refine zgn ?_
 refine t8 (j7 14 [0,1] mixed a8 Z Z (λr0=>?_) (λ_ h=>h))
 refine a1q ?_
 refine a8V ?_
 refine A7 (N:=3) Z (s8 (fuel:=6) [⟨11,6,2,true,.box (avR [.slice none 0 0,.slice none 0 0] [])⟩] (AllVOK.cons (VOK.boxS G Z Z Z Z Z) (AllVOK.nil)) (λhok=>?_))
 refine m6 [(7,[])] a8 a8 (λe he=>hok e he) a8 (AllVS.cons ?_ AllVS.nil)
 refine VStep.mk0 [0,1] Z Z (λb1 _ hbn=>d3 5 Z Z Z (ArgsOK.of Z) (a9L x.qu _ hG.f.qu (by rw [hls];exact hla) (by rw [hls];exact hlb)) Z Z (b4 Z)) a8 a8 a8 a8 (w6 8 Z a8 Z Z Z Z (b8 Z Z) a8 a8 a8 (w6 9 Z a8 Z Z Z Z (e7 Z Z Z) a8 a8 a8 (w6 10 Z a8 Z Z Z Z (e7 Z Z Z) a8 a8 a8 (m6 [(12,[11])] a8 a8 (λe he=>hok e he) a8 (AllVS.cons ?_ AllVS.nil)))))
 refine VStep.mk1 [0,1] 6 (.ptr 2 0) 2 (.box (avR [.slice none 0 0,.slice none 0 0] [])) [] Z Z Z Z Z (λb1 _ hbn=>f6 G Z Z Z Z Z Z Z Z Z Z Z (b4 Z)) a8 a8 a8 a8 (E1 ?_)
 clear hok
 refine zsa 13 ?_
 refine H8 ?_
 refine t8 (j7 17 [0,2,3,4] mixed a8 Z Z (λr0=>?_) (λ_ h=>h))
 refine a1q ?_
 refine zsa 4 ?_
 first | refine c8 5 Z a8 a8 Z Z Z Z (O0 G Z Z Z Z Z J J J) ?_ | refine c8 5 Z a8 a8 Z Z Z Z (O0 G Z Z Z Z Z J a6a a6a) ?_
 refine zsa 7 ?_
 refine zsa 9 ?_
 refine zsa 10 ?_
 refine zsa 11 ?_
 refine zsa 12 ?_
 refine zsa 13 ?_
 refine b7 (rs:=[6]) a8 Z (AllB.cons ?_ AllB.nil)
 refine g9 [0,2,3,4] Z Z (d3 6 Z Z Z (ArgsOK.of (congrArg some (congrArg (λz=>[AV.lst 1 z]) b1b))) (F8 (x.st.take (x.st.length - 1)) b7U) Z Z (b4 ⟨Z,?_⟩))
 refine b7 (rs:=[8]) a8 Z (AllB.cons ?_ AllB.nil)
 refine b5r ?_
 refine b7 (rs:=[14]) a8 Z (AllB.cons ?_ AllB.nil)
 refine b5r ?_
 refine zsa 15 ?_
 refine zsa 16 ?_
 refine H8 ?_
 refine d7 (p7 Z Z Z Z (b3 (i8 ?_) (b3 (c7 Z ?_) (b3 (c7 Z ?_) (b3 (c7 Z ?_) (b3 (i8 ?_) (b3 (i8 ?_) d9)))))))
 all_goals (first | rfl | (rw [hls];done))
theorem a9N (x:Ifc) (hG:IfG x) (hn:x.st.length≠0):Ctr Tryz.prog 151 [.agg [.v (.int .i64 x.ma),.lst 1 (x.st.map Rf.s3),.lst 3 (x.qu.sl.map j4),.lst 2 (x.qu.wa.map j8)]] (.shp false [some 4,none] [.v (.int .i64 x.ma),.fr 3 1 ((x.st.take (x.st.length - 1)).map Rf.s3),.fr 104 3 ((a4Q x.qu (M7 x)).sl.map j4),.fr 76 2 ((a4Q x.qu (M7 x)).wa.map j8),.v (.int .i64 (M7 x))]):=by
 have hl4:=hG.f.qu.sl.len
 have hwn:=hG.f.qu.wn
 have hsn:=hG.f.sn
 obtain ⟨hla,hlb⟩:=b7y hG hn
 have hls:=a8R hn
 have htn:((x.st.length:Int) - 1).toNat=x.st.length - 1:=J
 refine Ctr.of (n:=41) G Tryz.func151 Z a8 Z Z Z (λw0=>?_)
 refine n9 0 Z (λ_=>Z) (λu0=>?_)
 refine vm1 ?_
 refine vm9 ?_
 refine zcd (λh1=>?_) (λh1=>?_)
 ·exfalso;omega
 refine zgn ?_
 refine t8 (j7 15 [0,1] mixed a8 Z Z (λr0=>?_) (λ_ h=>h))
 refine c3k ?_
 refine zsa 6 ?_
 refine zsa 7 ?_
 refine A7 (N:=3) Z (s8 (fuel:=6) [⟨12,5,2,true,.box (avR [.slice none 0 0,.slice none 0 0] [])⟩] (AllVOK.cons (VOK.boxS G Z Z Z Z Z) (AllVOK.nil)) (λhok=>?_))
 refine m6 [(8,[])] a8 a8 (λe he=>hok e he) a8 (AllVS.cons ?_ AllVS.nil)
 refine VStep.mk0 [0,1] Z Z (λb1 _ hbn=>d3 5 Z Z Z (ArgsOK.of Z) (a34 x.qu _ hG.f.qu (by rw [hls];exact hla) (by rw [hls];exact hlb)) Z Z (b4 Z)) a8 a8 a8 a8 (w6 9 Z a8 Z Z Z Z (b8 Z Z) a8 a8 a8 (w6 10 Z a8 Z Z Z Z (e7 Z Z Z) a8 a8 a8 (w6 11 Z a8 Z Z Z Z (e7 Z Z Z) a8 a8 a8 (m6 [(13,[12])] a8 a8 (λe he=>hok e he) a8 (AllVS.cons ?_ AllVS.nil)))))
 refine c99 ?_
 clear hok
 refine zsa 14 ?_
 refine H8 ?_
 refine t8 (j7 18 [0,2,3,4] mixed a8 Z Z (λr0=>?_) (λ_ h=>h))
 refine c3k ?_
 first | refine c8 6 Z a8 a8 Z Z Z Z (O0 G Z Z Z Z Z J J J) ?_ | refine c8 6 Z a8 a8 Z Z Z Z (O0 G Z Z Z Z Z J a6a a6a) ?_
 refine d0d ?_
 refine zsa 14 ?_
 refine zsa 15 ?_
 refine b7 (rs:=[7]) a8 Z (AllB.cons ?_ AllB.nil)
 refine g9 [0,2,3,4] Z Z (d3 6 Z Z Z (ArgsOK.of (congrArg some (congrArg (λz=>[AV.lst 1 z]) b1b))) (I9 (x.st.take (x.st.length - 1)) b7U) Z Z (b4 ⟨Z,?_⟩))
 refine b7 (rs:=[9]) a8 Z (AllB.cons ?_ AllB.nil)
 refine b5r ?_
 refine b7 (rs:=[16]) a8 Z (AllB.cons ?_ AllB.nil)
 refine b5r ?_
 refine zsa 17 ?_
 refine H8 ?_
 refine d7 (p7 Z Z Z Z (b3 (i8 ?_) (b3 (c7 Z ?_) (b3 (c7 Z ?_) (b3 (c7 Z ?_) (b3 (i8 ?_) d9))))))
 all_goals (first | rfl | (rw [hls];done))
theorem a6b (x:Ifc) (hn:x.st.length<=1048576) (hl:x.qu.sl.length<=1048576) (hw:x.qu.wa.length<=1048576):Ctr Tryz.prog 123 [.agg [.v (.int .i64 x.ma),.lst 1 (x.st.map Rf.s3),.lst 3 (x.qu.sl.map j4),.lst 2 (x.qu.wa.map j8)]] (.shp true [some 4] [.v (.int .i64 x.ma),.fr 3 1 (x.st.map Rf.s3),.fr 104 3 (x.qu.sl.map j4),.fr 76 2 (x.qu.wa.map j8)]):=by
 refine Ctr.of (n:=12) G Tryz.func123 Z a8 Z Z Z (λw0=>?_)
 refine n9 0 Z (λ_=>Z) (λu0=>?_)
 refine vm1 ?_
 refine vm9 ?_
 refine zgn ?_
 refine t8 (j7 10 [0] mixed a8 Z Z (λr0=>?_) (λ_ h=>h))
 refine a1q ?_
 refine zsa 5 ?_
 refine zsa 6 ?_
 refine b7 (rs:=[4]) a8 Z (AllB.cons ?_ AllB.nil)
 refine g9 [0] Z Z (d3 3 Z Z Z (ArgsOK.of Z) (I9 x.st hn) Z Z (b4 ⟨Z,?_⟩))
 refine b7 (rs:=[7]) a8 Z (AllB.cons ?_ AllB.nil)
 refine g9 [0] Z Z (d3 5 Z Z Z (ArgsOK.of Z) (a8c x.qu hl hw) Z Z (b4 ⟨Z,?_⟩))
 exact c5P
theorem a2O (m:Mach) (hM:MaG m):Ctr Tryz.prog 79 [.agg [.lst 2 (m.rs.map p5),.lst 1 (m.en.map m9),.lst 1 (m.ra.map m9),.nst none 4 (m.cp.map (s2 104 76))]] (.shp true [some 4] [.fr 132 2 (m.rs.map p5),.fr 4 1 (m.en.map m9),.fr 4 1 (m.ra.map m9),.ne 74 4 (m.cp.map (s2 104 76))]):=by
 have f1:=hM.n
 have f2:=hM.en
 have f3:=hM.ra
 have f4:=hM.rn
 refine Ctr.of (n:=38) G Tryz.func79 Z a8 Z Z Z (λw0=>?_)
 refine n9 0 Z (λ_=>Z) (λu0=>?_)
 refine vm1 ?_
 refine vm9 ?_
 refine zgn ?_
 refine t8 (j7 16 [0,1] mixed a8 Z Z (λr0=>?_) (λ_ h=>h))
 refine zsa 1 ?_
 refine zsa 2 ?_
 refine zsa 5 ?_
 refine zsa 6 ?_
 refine zsa 9 ?_
 refine zsa 10 ?_
 refine A7 (N:=7) Z (s8 (fuel:=5) [⟨0,5,2,false,.row 132 2 []⟩,⟨4,9,3,false,.row 4 1 []⟩,⟨8,13,4,false,.row 4 1 []⟩,⟨12,17,5,false,.row 74 4 []⟩,⟨14,3,6,true,.box (avR [.slice none 0 0,.slice none 0 0,.slice none 0 0,.slice none 0 0] [])⟩] (AllVOK.cons (VOK.lit G Z Z Z Z Z) (AllVOK.cons (VOK.lit G Z Z Z Z Z) (AllVOK.cons (VOK.lit G Z Z Z Z Z) (AllVOK.cons (VOK.lit G Z Z Z Z Z) (AllVOK.cons (VOK.boxS G Z Z Z Z Z) (AllVOK.nil)))))) (λhok=>?_))
 refine m6 [(3,[0])] a8 a8 (λe he=>hok e he) a8 (AllVS.cons ?_ AllVS.nil)
 refine VStep.mk1 [0,1] 5 (.own 2) 2 (.row 132 2 []) [⟨4,9,3,false,.row 4 1 []⟩,⟨8,13,4,false,.row 4 1 []⟩,⟨12,17,5,false,.row 74 4 []⟩,⟨14,3,6,true,.box (avR [.slice none 0 0,.slice none 0 0,.slice none 0 0,.slice none 0 0] [])⟩] Z Z Z Z Z (λb1 _ hbn=>l2 G U5 Z Z Z Z Z Z Z Z Z N6 Z Z (b4 Z)) a8 a8 a8 a8 (m6 [(7,[4])] a8 a8 (λe he=>hok e (vin (is:=[0]) Z he)) a8 (AllVS.cons ?_ AllVS.nil))
 refine VStep.mk1 [0,1] 9 (.own 3) 3 (.row 4 1 []) [⟨8,13,4,false,.row 4 1 []⟩,⟨12,17,5,false,.row 74 4 []⟩,⟨14,3,6,true,.box (avR [.slice none 0 0,.slice none 0 0,.slice none 0 0,.slice none 0 0] [])⟩] Z Z Z Z Z (λb1 _ hbn=>l2 G U5 Z Z Z Z Z Z Z Z Z N6 Z Z (b4 Z)) a8 a8 a8 a8 (m6 [(11,[8])] a8 a8 (λe he=>hok e (vin (is:=[0,4]) Z he)) a8 (AllVS.cons ?_ AllVS.nil))
 refine VStep.mk1 [0,1] 13 (.own 4) 4 (.row 4 1 []) [⟨12,17,5,false,.row 74 4 []⟩,⟨14,3,6,true,.box (avR [.slice none 0 0,.slice none 0 0,.slice none 0 0,.slice none 0 0] [])⟩] Z Z Z Z Z (λb1 _ hbn=>l2 G U5 Z Z Z Z Z Z Z Z Z N6 Z Z (b4 Z)) a8 a8 a8 a8 (m6 [(13,[12])] a8 a8 (λe he=>hok e (vin (is:=[0,4,8]) Z he)) a8 (AllVS.cons ?_ AllVS.nil))
 refine VStep.mk1 [0,1] 17 (.own 5) 5 (.row 74 4 []) [⟨14,3,6,true,.box (avR [.slice none 0 0,.slice none 0 0,.slice none 0 0,.slice none 0 0] [])⟩] Z Z Z Z Z (λb1 _ hbn=>b5 Z Z (u3 G Z Z Z Z) (b4 Z)) a8 a8 a8 a8 (m6 [(15,[14])] a8 a8 (λe he=>hok e (vin (is:=[0,4,8,12]) Z he)) a8 (AllVS.cons ?_ AllVS.nil))
 refine c8b ?_
 clear hok
 refine c8l ?_
 refine i6 [1,2,3] [0,1,2,3,4,6] (λ(k:Nat)=>[(4,.v (.int .i64 (k:Int)))]) (λ(k:Nat)=>[(5,some (.nest 74 4 ((m.cp.take k).map (s2 104 76)) []))]) (λ(k:Nat)=>k<=m.cp.length) (λ(k:Nat)=>m.cp.length - k) 0 Z Z ?_ ?_ ?_ ?_
 ·exact P9
 ·exact a6F
 ·exact a1U
 intro k hk
 have hkl:((m.cp.take k).map (s2 104 76)).length=k:=c1p
 refine vm2 ?_
 refine zcd (λh1=>?_) (λh1=>?_)
 ·obtain ⟨g1,g2,g3⟩:=hM.lens (k:=k) J
  exact d0l
 obtain rfl:k=m.cp.length:=J
 refine zgo ?_
 refine d7 (p7 Z Z Z Z (b3 (c7 Z ?_) (b3 (c7 Z ?_) (b3 (c7 Z ?_) (b3 (B2 Z ?_) d9)))))
 all_goals exact c78
theorem a8e (m:Mach) (hM:MaG m):Ctr Tryz.prog 70 [.agg [.lst 2 (m.rs.map p5),.lst 1 (m.en.map m9),.lst 1 (m.ra.map m9),.nst none 4 (m.cp.map (s2 104 76))]] (.shp true [some 4] [.fr 132 2 (m.rs.map p5),.fr 4 1 (m.en.map m9),.fr 4 1 (m.ra.map m9),.ne 74 4 (m.cp.map (s2 104 76))]):=by
 have f1:=hM.n
 have f2:=hM.en
 have f3:=hM.ra
 have f4:=hM.rn
 refine Ctr.of (n:=36) G Tryz.func70 Z Y Z Z Z (λw0=>?_)
 refine n9 0 Z (λ_=>Z) (λu0=>?_)
 refine c1 (λK1 hK1=>?_)
 refine b6 (a7 Z (B4 1 Z Z Z Z Z Z Z (a7 Z (d6 G 2 Z Z Z Z Z (b4 (hK1 _ ?_))))))
 clear hK1 K1
 refine c1 (λK2 hK2=>?_)
 refine j7 16 [0,1] mixed Y Z Z (λr0=>?_) (λ_ h=>h)
 refine c8 1 Z Y Y Z Z Z Z (d5 G Z Z Z Z) (c8 2 Z Y Y Z Z Z Z (a7l (f9 G Z Z Z Z Z Z Z)) (c8 5 Z Y Y Z Z Z Z (d5 G Z Z Z Z) (c8 6 Z Y Y Z Z Z Z (a7l (f9 G Z Z Z Z Z Z Z)) (c8 9 Z Y Y Z Z Z Z (d5 G Z Z Z Z) (c8 10 Z Y Y Z Z Z Z (a7l (f9 G Z Z Z Z Z Z Z)) ?_)))))
 refine A7 (N:=7) Z (s8 (fuel:=5) [⟨0,6,2,false,.row 132 2 []⟩,⟨4,10,3,false,.row 4 1 []⟩,⟨8,14,4,false,.row 4 1 []⟩,⟨12,18,5,false,.row 74 4 []⟩,⟨14,3,6,true,.box (avR [.slice none 0 0,.slice none 0 0,.slice none 0 0,.slice none 0 0] [])⟩] (AllVOK.cons (VOK.lit G Z Z Z Z Z) (AllVOK.cons (VOK.lit G Z Z Z Z Z) (AllVOK.cons (VOK.lit G Z Z Z Z Z) (AllVOK.cons (VOK.lit G Z Z Z Z Z) (AllVOK.cons (VOK.boxS G Z Z Z Z Z) (AllVOK.nil)))))) (λhok=>?_))
 refine m6 [(3,[0])] Y Y (λe he=>hok e he) Y (AllVS.cons ?_ AllVS.nil)
 refine VStep.mk1 [0,1] 6 (.own 2) 2 (.row 132 2 []) [⟨4,10,3,false,.row 4 1 []⟩,⟨8,14,4,false,.row 4 1 []⟩,⟨12,18,5,false,.row 74 4 []⟩,⟨14,3,6,true,.box (avR [.slice none 0 0,.slice none 0 0,.slice none 0 0,.slice none 0 0] [])⟩] Z Z Z Z Z (λb1 _ hbn=>l2 G (by rw [hbn];exact Nat.le_of_ble_eq_true Z) Z Z Z Z Z Z Z Z Z (by first | (simp only [List.length_map,List.length_cons,List.length_nil];omega) | (simp;omega)) Z Z (b4 Z)) Y Y Y Y ?_
 refine m6 [(7,[4])] Y Y (λe he=>hok e (vin (is:=[0]) Z he)) Y (AllVS.cons ?_ AllVS.nil)
 refine VStep.mk1 [0,1] 10 (.own 3) 3 (.row 4 1 []) [⟨8,14,4,false,.row 4 1 []⟩,⟨12,18,5,false,.row 74 4 []⟩,⟨14,3,6,true,.box (avR [.slice none 0 0,.slice none 0 0,.slice none 0 0,.slice none 0 0] [])⟩] Z Z Z Z Z (λb1 _ hbn=>l2 G (by rw [hbn];exact Nat.le_of_ble_eq_true Z) Z Z Z Z Z Z Z Z Z (by first | (simp only [List.length_map,List.length_cons,List.length_nil];omega) | (simp;omega)) Z Z (b4 Z)) Y Y Y Y ?_
 refine m6 [(11,[8])] Y Y (λe he=>hok e (vin (is:=[0,4]) Z he)) Y (AllVS.cons ?_ AllVS.nil)
 refine VStep.mk1 [0,1] 14 (.own 4) 4 (.row 4 1 []) [⟨12,18,5,false,.row 74 4 []⟩,⟨14,3,6,true,.box (avR [.slice none 0 0,.slice none 0 0,.slice none 0 0,.slice none 0 0] [])⟩] Z Z Z Z Z (λb1 _ hbn=>l2 G (by rw [hbn];exact Nat.le_of_ble_eq_true Z) Z Z Z Z Z Z Z Z Z (by first | (simp only [List.length_map,List.length_cons,List.length_nil];omega) | (simp;omega)) Z Z (b4 Z)) Y Y Y Y ?_
 refine m6 [(13,[12])] Y Y (λe he=>hok e (vin (is:=[0,4,8]) Z he)) Y (AllVS.cons ?_ AllVS.nil)
 refine VStep.mk1 [0,1] 18 (.own 5) 5 (.row 74 4 []) [⟨14,3,6,true,.box (avR [.slice none 0 0,.slice none 0 0,.slice none 0 0,.slice none 0 0] [])⟩] Z Z Z Z Z (λb1 _ hbn=>b5 Z Z (u3 G Z Z Z Z) (b4 Z)) Y Y Y Y ?_
 refine m6 [(15,[14])] Y Y (λe he=>hok e (vin (is:=[0,4,8,12]) Z he)) Y (AllVS.cons ?_ AllVS.nil)
 refine VStep.mk1 [0,1] 3 (.ptr 6 0) 6 (.box (avR [.slice none 0 0,.slice none 0 0,.slice none 0 0,.slice none 0 0] [])) [] Z Z Z Z Z (λb1 _ hbn=>f6 G Z Z Z Z Z Z Z Z Z Z Z (b4 Z)) Y Y Y Y (E1 ?_)
 clear hok
 refine a3a (Gh.nest (id:=5) (yss:=[]) Z Z (by intro _ _ _ h;simp at h)) (z7 Y (hK2 _ ?_))
 clear hK2 K2
 refine c1 (λK3 hK3=>?_)
 refine c1 (λK4 hK4=>?_)
 refine b6 (a7 Z (b5 Z Z (d5 G Z Z Z Z) (a7 Z (b5 Z Z (b9s (f9 G Z Z Z Z Z Z Z)) (a7 Z ?_)))))
 first | refine b5 Z Z (V6 G Z Z Z Z (List.length_map _)) ?_ | refine b5 Z Z (a1y G Z Z Z Z) ?_
 refine a7 Z (b5 Z Z (b8 Z Z) (b4 (hK4 _ ?_)))
 clear hK4 K4
 refine p8 ?_
 refine i6 [2,3,21,22] [1,2,3,4,6] (λ(k:Nat)=>[(23,.v (.int .i64 (k:Int)))]) (λ(k:Nat)=>[(5,some (.nest 74 4 ((m.cp.take k).map (s2 104 76)) []))]) (λ(k:Nat)=>k<=m.cp.length) (λ(k:Nat)=>m.cp.length - k) 0 Z Z ?_ ?_ ?_ ?_
 ·exact P9
 ·exact a6F
 ·exact a1U
 ·intro k hk
  have hkl:((m.cp.take k).map (s2 104 76)).length=k:=(by rw [List.length_map,List.length_take];omega)
  simp only [List.cons_append,List.nil_append]
  refine c1 (λK5 hK5=>?_)
  refine b6 (a7 Z (b5 Z Z (u4 Z Z Z Z) (b4 (hK5 _ ?_))))
  clear hK5 K5
  refine c1 (λK6 hK6=>?_)
  refine l1 Z (λh1=>?_) (λh1=>?_)
  ·try rw [h1]
   try simp only [rfb] at h1
   obtain ⟨g1,g2,g3⟩:=hM.lens (k:=k) J
   refine r7 (hK6 _ ?_)
   clear hK6 K6
   refine c1 (λK7 hK7=>?_)
   refine p8 ?_
   refine c1 (λK8 hK8=>?_)
   refine b6 (a7 Z ?_)
   first | refine b5 Z Z (I7 G Z Z Z Z J (a2z J) Z) ?_ | refine b5 Z Z (I7 G Z Z Z Z J (H1 J J) Z) ?_ | refine b5 Z Z (I7 G Z Z Z Z J (C3 J J) Z) ?_
   refine a7 Z (b5 Z Z (V2 G Z Z Z Z) (a7 Z (d6 G 8 Z Z Z Z Z (a7 Z (a7X 26 Z (λ_=>Z) λv26=>f6 G Z Z Z Z Z Z Z Z Z Z Z (b4 (hK8 _ ?_)))))))
   clear hK8 K8
   apply C4 [2,3,21,22,23] [1,2,3,4,6,12] 13 8 [1,2,3,4,7] mixed Y Z Z hK7
   ·intro r0
    refine c8 0 Z Y Y Z Z Z Z (d5 G Z Z Z Z) (c8 2 Z Y Y Z Z Z Z (c6 G Z Z Z Z Z Z) ?_)
    refine b7 (rs:=[1,3]) Y Z (AllB.cons ?_ (AllB.cons ?_ AllB.nil))
    ·refine e9 [1,2,3,4,7] Z Z (b5 Z Z (f9 G Z Z Z Z Z Z Z) (b4 ⟨Z,?_⟩))
     refine b7 (rs:=[3]) Y Z (AllB.cons ?_ AllB.nil)
     refine e9 [1,2,3,4,7] Z Z (d3 11 Z Z Z (ArgsOK.of Z) (G2 (m.cp.getD k default) J J J) Z Z (b4 ⟨Z,?_⟩))
     exact c6b
    ·refine e9 [1,2,3,4,7] Z Z (d3 11 Z Z Z (ArgsOK.of Z) (G2 (m.cp.getD k default) J J J) Z Z (b4 ⟨Z,?_⟩))
     refine b7 (rs:=[1,4]) Y Z (AllB.cons ?_ (AllB.cons ?_ AllB.nil))
     ·refine e9 [1,2,3,4,7] Z Z (b5 Z Z (f9 G Z Z Z Z Z Z Z) (b4 ⟨Z,?_⟩))
      exact c6b
     ·refine e9 [1,2,3,4,7] Z Z (A4 G 12 Z Z Z Z Z Z Z Z (.v Z (.own Z (.own Z (.own Z .nil)))) Z Z Z Z (b4 ⟨Z,?_⟩))
      refine b7 (rs:=[1]) Y Z (AllB.cons ?_ AllB.nil)
      refine e9 [1,2,3,4,7] Z Z (b5 Z Z (f9 G Z Z Z Z Z Z Z) (b4 ⟨Z,?_⟩))
      exact c5D
   ·clear hK7 K7
    refine b6 (a7 Z ?_)
    first | refine b5 Z Z (q9 Z Z Z Z J J) ?_ | refine b5 Z Z (s6 Z Z Z Z) ?_
    refine a7 Z (b5 Z Z (b8 Z Z) (r4 (Gh.sub 12 5 np Z Z Z) ?_))
    refine b4 ⟨(k+1),?_,?_,⟨⟨_,Z,by rfl⟩,Z,trivial⟩,⟨⟨_,Z,by (exact congrArg (λz=>Row.nest _ _ z []) (b2v J Z))⟩,Z,Z,trivial⟩,Z,Z,Z⟩
    ·omega
    ·omega
  ·try rw [h1]
   try simp only [rfb] at h1
   obtain rfl:k=m.cp.length:=J
   refine J0 (hK3 _ ?_)
   clear hK6 K6 hK3 K3
   refine c1 (λK9 hK9=>?_)
   refine b6 (a7 Z (b5 Z Z (c6 G Z Z Z Z Z Z) (a7 Z (f6 G Z Z Z Z Z Z Z Z Z Z Z (b4 (hK9 _ ?_))))))
   clear hK9 K9
   refine d7 (p7 Z Z Z Z (b3 (c7 Z ?_) (b3 (c7 Z ?_) (b3 (c7 Z ?_) (b3 (B2 Z ?_) d9)))))
   all_goals (first | rfl | (rw [List.take_length];done) | (rw [List.take_length];rfl) | simp)
theorem a35 (l:List Int) (v:Int) (hn:l.length<=1048576):Ctr Tryz.prog 278 [.lst 1 (l.map Rf.s3),.v (.int .i64 v)] (.one (.v (.int .i64 (O4 (λj=>decide (v=l.getD j default)) l.length)))):=by
 refine Ctr.of (n:=19) G Tryz.func278 Z a8 Z Z Z (λw0=>?_)
 refine zgo ?_
 refine i6 [0,1,7] [] (λ(i:Nat)=>[(8,.v (.int .i64 (i:Int)))]) (λ(i:Nat)=>[]) (λ(i:Nat)=>i<=l.length/\∀j,j < i→decide (v=l.getD j default)=false) (λ(i:Nat)=>l.length - i) 0 Z Z ?_ ?_ ?_ ?_
 ·exact T5
 ·exact C0
 ·exact trivial
 intro i hinv
 refine vm2 ?_
 refine zcd (λh1=>?_) (λh1=>?_)
 ·refine zcd (λh2=>?_) (λh2=>?_)
  ·refine zf1 ?_
   all_goals exact c4J
  exact c40
 refine zf1 ?_
 all_goals exact c4J
theorem a15 (l:List Int) (v:Int) (hn:l.length<=1048576):Ctr Tryz.prog 231 [.lst 1 (l.map Rf.s3),.v (.int .i64 v)] (.one (.v (.bool (a9v l v)))):=by
 refine Ctr.of (n:=9) G Tryz.func231 Z a8 Z Z Z (λw0=>?_)
 refine zcl (a35 _ _ Z7) ?_
 refine zf1 ?_
 all_goals (simp only [a9v];rw [a5s])
theorem a36 (l:List Int) (v:Int) (hn:l.length<=1048576):Ctr Tryz.prog 161 [.lst 1 (l.map Rf.s3),.v (.int .i64 v)] (.one (.v (.bool (a9v l v)))):=by
 refine Ctr.of (n:=18) G Tryz.func161 Z a8 Z Z Z (λw0=>?_)
 refine zgo ?_
 refine i6 [0,1] [] (λ(i:Nat)=>[(5,.v (.int .i64 (i:Int)))]) (λ(i:Nat)=>[]) (λ(i:Nat)=>i<=l.length/\∀j,j < i→decide (v=l.getD j default)=false) (λ(i:Nat)=>l.length - i) 0 Z Z ?_ ?_ ?_ ?_
 ·exact T5
 ·exact C0
 ·exact trivial
 intro i hinv
 refine vm2 ?_
 refine zcd (λh1=>?_) (λh1=>?_)
 ·refine zcd (λh2=>?_) (λh2=>?_)
  ·refine zf1 ?_
   all_goals exact c4K
  exact c40
 refine zf1 ?_
 all_goals exact c4K
end Go.Proofs.YtdhckhjphmjniaaGreatDoor
