/- Texts merged into one: M5, M9, M13, M14, W7. -/
import Derived.Test.YtpfhomblkgmkkaaGreatDoorPFnExactExecuteCommandB
set_option maxHeartbeats 4000000
set_option linter.unusedSimpArgs false
set_option linter.unusedVariables false
set_option maxRecDepth 20000
namespace Go.Proofs.YtpfhomblkgmkkaaGreatDoor
open Go Go.Rf
theorem a0B (q:Que) (hF:QF q):Ctr Tryz.prog 285 [.agg [.lst 3 (q.sl.map e9),.lst 2 (q.wa.map e7)]] (.shp true [some 2] [.fr 169 3 ((a1H q).sl.map e9),.fr 182 2 ((a1H q).wa.map e7) true]):=by
 have hq4:=hF.sl.len
 have hqw:=hF.wn
 refine Ctr.of (n:=47) G Tryz.func285 Z a8 Z Z Z (λw0=>?_)
 refine j5 0 Z (λ_=>Z) (λu0=>?_)
 refine N3 ?_
 refine p8 ?_
 refine c8 4 Z Z Z (ArgsOK.of Z) (a8m q J J) Z Z ?_
 refine vm5 ?_
 refine d6 G 5 Z Z Z Z Z ?_
 refine zgo ?_
 refine e6 [2,3] [1,4] (λ(x:Que)=>[]) (λ(x:Que)=>[(2,some (.row 169 3 (x.sl.map e9))),(3,some (.row 182 2 (x.wa.map e7) true))]) (λ(x:Que)=>QF x/\a1H x=a1H q) (λ(x:Que)=>phi x) q Z Z ?_ ?_ ?_ ?_
 ·exact ⟨hF,Z⟩
 ·exact trivial
 ·exact b58
 intro x hinv
 have hFx:=hinv.1
 have hl4:=hFx.sl.len
 have hwn:=hFx.wn
 have hf:=@b7V x.sl
 have hb:=@a0V x.sl false
 refine vm4 ?_
 refine zcl (a1R x J J hFx.sl.difS) ?_
 refine zcd (λh1=>?_) (λh1=>?_)
 ·obtain ⟨hw0,hbb⟩:=b5x hFx h1
  have hnx:=b1h hFx h1
  obtain ⟨hF2,hphi⟩:=b1f hFx h1
  refine zgn ?_
  refine r4 (n9 (l3 10 [1,2,3,4] mixed a8 Z Z (λr0=>?_) (λ_ h=>h)))
  refine zsa 0 ?_
  refine zsa 1 ?_
  first | refine d5 2 Z a8 a8 Z Z Z Z (b9 G Z Z Z Z Z J J) ?_ | refine d5 2 Z a8 a8 Z Z Z Z (b9 G Z Z Z Z Z J B1) ?_
  first | refine d5 3 Z a8 a8 Z Z Z Z (d8 G Z Z Z Z (a14 J) Z) ?_ | refine d5 3 Z a8 a8 Z Z Z Z (d8 G Z Z Z Z (V5 J J) Z) ?_ | refine d5 3 Z a8 a8 Z Z Z Z (d8 G Z Z Z Z (x9 J J) Z) ?_ | refine d5 3 Z a8 a8 Z Z Z Z (d8 G Z Z Z Z (x9 J B1) Z) ?_
  refine zsa 4 ?_
  refine zsa 5 ?_
  refine x5 (N:=6) Z (r7 (fuel:=3) [⟨7,4,5,true,.box (avR [.int .i64 0,.int .i64 0] [])⟩] (AllVOK.cons (VOK.boxS G Z Z Z Z Z) (AllVOK.nil)) (λhok=>?_))
  refine m6 [(6,[])] a8 a8 (λe he=>hok e he) a8 (AllVS.cons ?_ AllVS.nil)
  refine VStep.mk0 [1,2,3,4] Z Z (λb1 _ hbn=>b5 Z Z (f7 Z (ArgsOK.of Z) (a03 x.sl J) Z) (b6 Z)) a8 a8 a8 a8 (m6 [(8,[7])] a8 a8 (λe he=>hok e he) a8 (AllVS.cons ?_ AllVS.nil))
  refine VStep.mk1 [1,2,3,4] 4 (.ptr 5 0) 5 (.box (avR [.int .i64 0,.int .i64 0] [])) [] Z Z Z Z Z (λb1 _ hbn=>m3 G Z Z Z Z Z Z Z Z Z Z Z (b6 Z)) a8 a8 a8 a8 (D1 ?_)
  clear hok
  refine zsa 9 ?_
  refine J1 ?_
  refine p8 ?_
  refine c0w G 7 Z Z Z Z Z Z Z Z s6 s6 ?_
  refine zcd (λh2=>?_) (λh2=>?_)
  ·refine zcl (N4 x.sl false J hFx.sl.difS) ?_
   refine zgo ?_
   apply x7 [2,3,4,5] [1,2,4,5,7] 8 11 [1,2,5,6] mixed a8 Z Z (λ_ h=>znk h)
   ·intro r0
    refine zsa 0 ?_
    refine zsa 2 ?_
    refine zsa 4 ?_
    refine b7 (rs:=[1,3]) a8 Z (AllB.cons ?_ (AllB.cons ?_ AllB.nil))
    ·refine g9 [1,2,5,6] Z Z ?_
     refine U6 ?_
     refine b7 (rs:=[3]) a8 Z (AllB.cons ?_ AllB.nil)
     refine c7v ?_
     exact c4a
    refine c7v ?_
    refine b7 (rs:=[1,7]) a8 Z (AllB.cons ?_ (AllB.cons ?_ AllB.nil))
    ·refine g9 [1,2,5,6] Z Z ?_
     refine U6 ?_
     exact c4a
    refine g9 [1,2,5,6] Z Z (b5 Z Z (f7 Z (ArgsOK.of Z) (z6 _) Z) (b6 ⟨Z,?_⟩))
    refine b7 (rs:=[1]) a8 Z (AllB.cons ?_ AllB.nil)
    refine g9 [1,2,5,6] Z Z ?_
    refine U6 ?_
    exact c3F
   refine C4 (Gh.tl (id:=7) Z) ?_
   refine c7y ?_
   refine a0s (Gh.sub 7 3 np Z Z Z) (b6 ⟨(stQ x),?_,?_,trivial,⟨⟨_,Z,by (first | rfl | (rw [p7 (q:=x) J];exact congrArg (λz=>Row.row _ _ z) (a2F (f:=e9) (x:=⟨1,_,_⟩))) | (rw [s3 (q:=x) J];exact congrArg (λz=>Row.row _ _ z) (a2F (f:=e9) (x:=⟨1,_,_⟩))) | (rw [p7 (q:=x) J];exact congrArg (λz=>Row.row _ _ z true) (List.map_drop).symm) | (rw [s3 (q:=x) J];done) | (rw [s3 (q:=x) J];rfl) | (rw [p7 (q:=x) J];done) | (rw [p7 (q:=x) J];rfl) | (rw [p7 (q:=x) J];exact congrArg (λz=>Row.row _ _ z true) X6)| (rw [s3 (q:=x) J];exact congrArg (λz=>Row.row _ _ z true) X6))⟩,Z,Z,⟨⟨_,Z,by (first | rfl | (rw [p7 (q:=x) J];exact congrArg (λz=>Row.row _ _ z) (a2F (f:=e9) (x:=⟨1,_,_⟩))) | (rw [s3 (q:=x) J];exact congrArg (λz=>Row.row _ _ z) (a2F (f:=e9) (x:=⟨1,_,_⟩))) | (rw [p7 (q:=x) J];exact congrArg (λz=>Row.row _ _ z true) (List.map_drop).symm) | (rw [s3 (q:=x) J];done) | (rw [s3 (q:=x) J];rfl) | (rw [p7 (q:=x) J];done) | (rw [p7 (q:=x) J];rfl) | (rw [p7 (q:=x) J];exact congrArg (λz=>Row.row _ _ z true) X6)| (rw [s3 (q:=x) J];exact congrArg (λz=>Row.row _ _ z true) X6))⟩,Z,Z,trivial⟩⟩,Z,Z,Z⟩)
   ·exact ⟨hF2,hnx▸hinv.2⟩
   exact hphi
  refine zgn ?_
  refine C4 (Gh.tl (id:=6) Z) ?_
  refine c7y ?_
  refine a0s (Gh.sub 6 3 np Z Z Z) (b6 ⟨(stQ x),?_,?_,trivial,⟨⟨_,Z,by (first | rfl | (rw [p7 (q:=x) J];exact congrArg (λz=>Row.row _ _ z) (a2F (f:=e9) (x:=⟨1,_,_⟩))) | (rw [s3 (q:=x) J];exact congrArg (λz=>Row.row _ _ z) (a2F (f:=e9) (x:=⟨1,_,_⟩))) | (rw [p7 (q:=x) J];exact congrArg (λz=>Row.row _ _ z true) (List.map_drop).symm) | (rw [s3 (q:=x) J];done) | (rw [s3 (q:=x) J];rfl) | (rw [p7 (q:=x) J];done) | (rw [p7 (q:=x) J];rfl) | (rw [p7 (q:=x) J];exact congrArg (λz=>Row.row _ _ z true) X6)| (rw [s3 (q:=x) J];exact congrArg (λz=>Row.row _ _ z true) X6))⟩,Z,Z,⟨⟨_,Z,by (first | rfl | (rw [p7 (q:=x) J];exact congrArg (λz=>Row.row _ _ z) (a2F (f:=e9) (x:=⟨1,_,_⟩))) | (rw [s3 (q:=x) J];exact congrArg (λz=>Row.row _ _ z) (a2F (f:=e9) (x:=⟨1,_,_⟩))) | (rw [p7 (q:=x) J];exact congrArg (λz=>Row.row _ _ z true) (List.map_drop).symm) | (rw [s3 (q:=x) J];done) | (rw [s3 (q:=x) J];rfl) | (rw [p7 (q:=x) J];done) | (rw [p7 (q:=x) J];rfl) | (rw [p7 (q:=x) J];exact congrArg (λz=>Row.row _ _ z true) X6)| (rw [s3 (q:=x) J];exact congrArg (λz=>Row.row _ _ z true) X6))⟩,Z,Z,trivial⟩⟩,Z,Z,Z⟩)
  ·exact ⟨hF2,hnx▸hinv.2⟩
  exact hphi
 have hd:=b1i h1
 refine zgo ?_
 refine f6 (m8 Z Z Z Z (b4 (d7 Z ?_) (b4 (d7 Z ?_) f8)))
 all_goals ((rw [← hinv.2,hd];done))
theorem a6A (q:Que) (hl:q.sl.length<=1048576) (hw:q.wa.length<=1048576):Ctr Tryz.prog 137 [.agg [.lst 3 (q.sl.map e9),.lst 2 (q.wa.map e7)]] (.shp true [some 2] [.fr 169 3 (q.sl.map e9),.fr 182 2 (q.wa.map e7)]):=by
 refine Ctr.of (n:=12) G Tryz.func137 Z a8 Z Z Z (λw0=>?_)
 exact c7R
theorem a3A (a b:Int):Ctr Tryz.prog 243 [.v (.int .i64 a),.v (.int .i64 b)] (.one (.v (.int .i64 (min a b)))):=by
 refine Ctr.of (n:=10) G Tryz.func243 Z a8 Z Z Z (λw0=>?_)
 refine zcd (λh1=>?_) (λh1=>?_)
 ·refine zf1 ?_
  all_goals (simp_all;omega)
 refine zf1 ?_
 all_goals (simp_all;omega)
theorem a8n (sl:List Slot) (lim:Int) (hF:SlF sl):Ctr Tryz.prog 283 [.lst 3 (sl.map e9),.v (.int .i64 lim)] (.many [.fr 169 3 ((tkT sl lim).1.map e9),.v (.int .i64 (tkT sl lim).2.1),.v (.bool (tkT sl lim).2.2)]):=by
 have hl4:=hF.len
 have hb:=@a0V sl true
 have hf:=@a2l sl
 refine Ctr.of (n:=33) G Tryz.func283 Z a8 Z Z Z (λw0=>?_)
 refine zcl (N4 sl true J hF.difS) ?_
 refine zcd (λh1=>?_) (λh1=>?_)
 ·refine zwt ?_
  exact c27
 refine zcd (λh2=>?_) (λh2=>?_)
 ·exact c27
 refine a6x ?_
 refine C8 ?_
 refine n9 (l3 9 [0] mixed a8 Z Z (λr0=>?_) (λ_ h=>h))
 refine zsa 0 ?_
 refine zsa 1 ?_
 refine zsa 2 ?_
 refine zsa 4 ?_
 refine zsa 5 ?_
 refine b7 (rs:=[3]) a8 Z (AllB.cons ?_ AllB.nil)
 refine g9 [0] Z Z (c8 2 Z Z Z (ArgsOK.of Z) (Y5 sl _ ⟨_,_,_⟩ J J) Z Z (b6 ⟨Z,?_⟩))
 refine zsa 6 ?_
 refine zsa 7 ?_
 refine zsa 8 ?_
 refine J1 ?_
 refine f6 (r5 Z Z Z Z (b4 (d7 Z ?_) (b4 (l4 ?_) (b4 (l4 ?_) f8))))
 all_goals exact c2v
theorem b0F (sl:List Slot) (lim:Int) (hF:SlF sl) (hk:a2m sl lim=true):Ctr Tryz.prog 293 [.lst 3 (sl.map e9),.v (.int .i64 lim)] (.many [.fr 169 3 ((tkS sl).map e9),.v (.int .i64 (tkI sl))]):=by
 have hl4:=hF.len
 have hb:=@a0V sl true
 have hf:=@a2l sl
 have hkk:=W8.mp hk
 refine Ctr.of (n:=33) G Tryz.func293 Z a8 Z Z Z (λw0=>?_)
 refine zcl (a2z sl J) ?_
 refine zcd (λh1=>?_) (λh1=>?_)
 ·exfalso;omega
 refine zcd (λh2=>?_) (λh2=>?_)
 ·exfalso;omega
 refine a6x ?_
 refine C8 ?_
 refine n9 (l3 8 [0] mixed a8 Z Z (λr0=>?_) (λ_ h=>h))
 refine zsa 0 ?_
 refine zsa 1 ?_
 refine zsa 2 ?_
 refine zsa 4 ?_
 refine zsa 5 ?_
 refine b7 (rs:=[3]) a8 Z (AllB.cons ?_ AllB.nil)
 refine g9 [0] Z Z (c8 2 Z Z Z (ArgsOK.of Z) (F2 sl _ ⟨_,_,_⟩ J J) Z Z (b6 ⟨Z,?_⟩))
 refine zsa 6 ?_
 refine zsa 7 ?_
 refine J1 ?_
 refine f6 (r5 Z Z Z Z (b4 (d7 Z ?_) (b4 (l4 ?_) f8)))
 all_goals (rfl)
theorem b0G (sl:List Slot) (irq p:Int) (hF:SlF sl) (h0:0<=r9 sl irq):Ctr Tryz.prog 310 [.lst 3 (sl.map e9),.v (.int .i64 irq),.v (.int .i64 p)] (.many [.fr 169 3 ((ptS sl irq).map e9),.v (.bool true)]):=by
 have hl4:=hF.len
 have hf:=@a2l sl irq
 refine Ctr.of (n:=38) G Tryz.func310 Z a8 Z Z Z (λw0=>?_)
 refine zcl (B7 sl irq J) ?_
 refine zcd (λh1=>?_) (λh1=>?_)
 ·refine a6x ?_
  refine zcd (λh2=>?_) (λh2=>?_)
  ·exact c3R
  exact c3R
 exfalso;omega
theorem b2Q (sl:List Slot) (irq p:Int) (hF:SlF sl) (h0:0<=r9 sl irq):Ctr Tryz.prog 315 [.lst 3 (sl.map e9),.v (.int .i64 irq),.v (.int .i64 p)] (.many [.fr 169 3 ((ptS sl irq).map e9),.v (.bool true)]):=by
 have hl4:=hF.len
 have hf:=@a2l sl irq
 refine Ctr.of (n:=39) G Tryz.func315 Z a8 Z Z Z (λw0=>?_)
 refine zcl (F0 sl irq J) ?_
 refine zcd (λh1=>?_) (λh1=>?_)
 ·refine a6x ?_
  refine zcd (λh2=>?_) (λh2=>?_)
  ·exact c3S
  exact c3S
 exfalso;omega
theorem R8 (q:Que) (hl:q.sl.length<=1048576) (hw:q.wa.length<=1048576):Ctr Tryz.prog 166 [.agg [.lst 3 (q.sl.map e9),.lst 2 (q.wa.map e7)]] (.shp true [some 2] [.fr 169 3 (q.sl.map e9),.fr 182 2 (q.wa.map e7)]):=by
 exact c3W
theorem a8o (q:Que) (irq p:Int) (hF:QF q) (hi:0<=irq/\irq<=7) (hp:0<=p/\p<=15):Ctr Tryz.prog 282 [.agg [.lst 3 (q.sl.map e9),.lst 2 (q.wa.map e7)],.v (.int .i64 irq),.v (.int .i64 p)] (.shp true [some 2] [.fr 169 3 ((a3k q irq p).sl.map e9),.fr 182 2 ((a3k q irq p).wa.map e7) true]):=by
 have hl4:=hF.sl.len
 have hwn:=hF.wn
 have hQ:=(b4K (irq:=irq) (p:=p) hF hi hp).1
 refine Ctr.of (n:=40) G Tryz.func282 Z a8 Z Z Z (λw0=>?_)
 refine j5 0 Z (λ_=>Z) (λu0=>?_)
 refine N3 ?_
 refine p8 ?_
 refine c8 4 Z Z Z (ArgsOK.of Z) (R8 q J J) Z Z ?_
 refine vm5 ?_
 refine d6 G 5 Z Z Z Z Z ?_
 refine zcl (B7 q.sl irq J) ?_
 refine zcd (λh1=>?_) (λh1=>?_)
 ·have ho:=b8o (p:=p) h1
  rw [ho] at hQ
  refine p8 ?_
  refine c8 6 Z Z Z (ArgsOK.of Z) (b0G q.sl irq p hF.sl h1) Z Z ?_
  exact c3V
 refine zcl (a0E q.wa irq J) ?_
 refine zcd (λh2=>?_) (λh2=>?_)
 ·have ho:=b8p (p:=p) h1 h2
  rw [ho] at hQ
  refine p8 ?_
  refine c8 6 Z Z Z (ArgsOK.of Z) (a00 q.wa ⟨irq,p⟩ J) Z Z ?_
  exact c3V
 have ho:=b8q (p:=p) h1 h2
 rw [ho] at hQ
 refine p8 ?_
 refine c8 7 Z Z Z (ArgsOK.of Z) (a0B _ hQ) Z Z ?_
 refine zgo ?_
 exact c59
theorem G1 (q:Que) (hF:QF q):Ctr Tryz.prog 295 [.agg [.lst 3 (q.sl.map e9),.lst 2 (q.wa.map e7)]] (.shp true [some 2] [.fr 169 3 ((a1H q).sl.map e9),.fr 182 2 ((a1H q).wa.map e7)]):=by
 have hq4:=hF.sl.len
 have hqw:=hF.wn
 refine Ctr.of (n:=56) G Tryz.func295 Z a8 Z Z Z (λw0=>?_)
 refine j5 0 Z (λ_=>Z) (λu0=>?_)
 refine N3 ?_
 refine p8 ?_
 refine c8 4 Z Z Z (ArgsOK.of Z) (a6A q J J) Z Z ?_
 refine vm5 ?_
 refine d6 G 5 Z Z Z Z Z ?_
 refine zgo ?_
 refine e6 [2,3] [1,4] (λ(x:Que)=>[]) (λ(x:Que)=>[(2,some (.row 169 3 (x.sl.map e9))),(3,some (.row 182 2 (x.wa.map e7)))]) (λ(x:Que)=>QF x/\a1H x=a1H q) (λ(x:Que)=>phi x) q Z Z ?_ ?_ ?_ ?_
 ·exact ⟨hF,Z⟩
 ·exact trivial
 ·exact b58
 intro x hinv
 have hFx:=hinv.1
 have hl4:=hFx.sl.len
 have hwn:=hFx.wn
 have hf:=@b7V x.sl
 have hb:=@a0V x.sl false
 refine vm4 ?_
 refine zcl (a1S x J J) ?_
 refine zcd (λh1=>?_) (λh1=>?_)
 ·obtain ⟨hw0,hbb⟩:=b5x hFx h1
  have hnx:=b1h hFx h1
  obtain ⟨hF2,hphi⟩:=b1f hFx h1
  refine p8 ?_
  first | refine b5 Z Z (b9 G Z Z Z Z Z J J) ?_ | refine b5 Z Z (b9 G Z Z Z Z Z J B1) ?_
  refine vm5 ?_
  first | refine b5 Z Z (d8 G Z Z Z Z (a14 J) Z) ?_ | refine b5 Z Z (d8 G Z Z Z Z (V5 J J) Z) ?_ | refine b5 Z Z (d8 G Z Z Z Z (x9 J J) Z) ?_ | refine b5 Z Z (d8 G Z Z Z Z (x9 J B1) Z) ?_
  refine vm5 ?_
  refine d6 G 6 Z Z Z Z Z ?_
  refine p8 ?_
  refine t7 G 7 Z Z Z Z Z Z Z Z ?_
  refine p8 ?_
  refine c5W ?_
  refine vm5 ?_
  refine a9c G np Z Z Z Z Z Z Z (ArgOK.sub Z s6) Z B1 Z Z ?_
  refine zgn ?_
  refine c0j (id:=6) ((x.wa.drop 1).map e7) Z X6 ?_
  refine zcl (a4C x.sl J) ?_
  refine zcd (λh2=>?_) (λh2=>?_)
  ·refine zcl (a2A x.sl J) ?_
   refine zgn ?_
   refine l3 16 [1,2,3,4,5,6] mixed a8 Z Z (λr0=>?_) (λ_ h=>h)
   refine a0A ?_
   first | refine d5 4 Z a8 a8 Z Z Z Z (b9 G Z Z Z Z Z J J) ?_ | refine d5 4 Z a8 a8 Z Z Z Z (b9 G Z Z Z Z Z J B1) ?_
   refine d5 5 Z a8 a8 Z Z Z Z (N7 G Z Z Z Z) ?_
   first | refine d5 6 Z a8 a8 Z Z Z Z (j2 G Z Z Z Z Z (a14 J) Z) ?_ | refine d5 6 Z a8 a8 Z Z Z Z (j2 G Z Z Z Z Z (V5 J J) Z) ?_ | refine d5 6 Z a8 a8 Z Z Z Z (j2 G Z Z Z Z Z (x9 J J) Z) ?_ | refine d5 6 Z a8 a8 Z Z Z Z (j2 G Z Z Z Z Z (x9 J B1) Z) ?_
   refine zsa 7 ?_
   refine zsa 8 ?_
   refine zsa 9 ?_
   first | refine d5 10 Z a8 a8 Z Z Z Z (b9 G Z Z Z Z Z J J) ?_ | refine d5 10 Z a8 a8 Z Z Z Z (b9 G Z Z Z Z Z J B1) ?_
   refine d5 11 Z a8 a8 Z Z Z Z (N7 G Z Z Z Z) ?_
   first | refine d5 12 Z a8 a8 Z Z Z Z (j2 G Z Z Z Z Z (a14 J) Z) ?_ | refine d5 12 Z a8 a8 Z Z Z Z (j2 G Z Z Z Z Z (V5 J J) Z) ?_ | refine d5 12 Z a8 a8 Z Z Z Z (j2 G Z Z Z Z Z (x9 J J) Z) ?_ | refine d5 12 Z a8 a8 Z Z Z Z (j2 G Z Z Z Z Z (x9 J B1) Z) ?_
   refine zsa 13 ?_
   refine b7 (rs:=[14]) a8 Z (AllB.cons ?_ AllB.nil)
   refine g9 [1,2,3,4,5,6] Z Z (c8 8 Z Z Z (ArgsOK.of Z) (a1g (x.wa.drop 1) ⟨_,_⟩ (by rw [List.length_drop];omega)) Z Z (b6 ⟨Z,?_⟩))
   refine zsa 15 ?_
   refine J1 ?_
   refine p8 ?_
   refine c8 9 Z Z Z (ArgsOK.of Z) (F2 x.sl _ ⟨1,_,_⟩ J J) Z Z ?_
   refine b36 ?_
   refine a0s (Gh.sub 8 2 np Z Z Z) (a0s (Gh.sub 7 3 np Z Z Z) (b6 ⟨(stQ x),?_,?_,trivial,⟨⟨_,Z,by (first | rfl | (rw [p7 (q:=x) J];exact congrArg (λz=>Row.row _ _ z) (a2F (f:=e9) (x:=⟨1,_,_⟩))) | (rw [s3 (q:=x) J];exact congrArg (λz=>Row.row _ _ z) (a2F (f:=e9) (x:=⟨1,_,_⟩))) | (rw [p7 (q:=x) J];exact congrArg (λz=>Row.row _ _ z) (List.map_drop).symm) | (rw [s3 (q:=x) J];done) | (rw [s3 (q:=x) J];rfl) | (rw [p7 (q:=x) J];done) | (rw [p7 (q:=x) J];rfl) | (rw [p7 (q:=x) J];exact congrArg (λz=>Row.row _ _ z) X6)| (rw [s3 (q:=x) J];exact congrArg (λz=>Row.row _ _ z) X6))⟩,Z,Z,⟨⟨_,Z,by (first | rfl | (rw [p7 (q:=x) J];exact congrArg (λz=>Row.row _ _ z) (a2F (f:=e9) (x:=⟨1,_,_⟩))) | (rw [s3 (q:=x) J];exact congrArg (λz=>Row.row _ _ z) (a2F (f:=e9) (x:=⟨1,_,_⟩))) | (rw [p7 (q:=x) J];exact congrArg (λz=>Row.row _ _ z) (List.map_drop).symm) | (rw [s3 (q:=x) J];done) | (rw [s3 (q:=x) J];rfl) | (rw [p7 (q:=x) J];done) | (rw [p7 (q:=x) J];rfl) | (rw [p7 (q:=x) J];exact congrArg (λz=>Row.row _ _ z) X6)| (rw [s3 (q:=x) J];exact congrArg (λz=>Row.row _ _ z) X6))⟩,Z,Z,trivial⟩⟩,Z,Z,Z⟩))
   ·exact ⟨hF2,hnx▸hinv.2⟩
   exact hphi
  refine p8 ?_
  refine c8 8 Z Z Z (ArgsOK.of Z) (F2 x.sl _ ⟨1,_,_⟩ J J) Z Z ?_
  refine b36 ?_
  refine a0s (Gh.sub 7 2 np Z Z Z) (a0s (Gh.sub 6 3 np Z Z Z) (b6 ⟨(stQ x),?_,?_,trivial,⟨⟨_,Z,by (first | rfl | (rw [p7 (q:=x) J];exact congrArg (λz=>Row.row _ _ z) (a2F (f:=e9) (x:=⟨1,_,_⟩))) | (rw [s3 (q:=x) J];exact congrArg (λz=>Row.row _ _ z) (a2F (f:=e9) (x:=⟨1,_,_⟩))) | (rw [p7 (q:=x) J];exact congrArg (λz=>Row.row _ _ z) (List.map_drop).symm) | (rw [s3 (q:=x) J];done) | (rw [s3 (q:=x) J];rfl) | (rw [p7 (q:=x) J];done) | (rw [p7 (q:=x) J];rfl) | (rw [p7 (q:=x) J];exact congrArg (λz=>Row.row _ _ z) X6)| (rw [s3 (q:=x) J];exact congrArg (λz=>Row.row _ _ z) X6))⟩,Z,Z,⟨⟨_,Z,by (first | rfl | (rw [p7 (q:=x) J];exact congrArg (λz=>Row.row _ _ z) (a2F (f:=e9) (x:=⟨1,_,_⟩))) | (rw [s3 (q:=x) J];exact congrArg (λz=>Row.row _ _ z) (a2F (f:=e9) (x:=⟨1,_,_⟩))) | (rw [p7 (q:=x) J];exact congrArg (λz=>Row.row _ _ z) (List.map_drop).symm) | (rw [s3 (q:=x) J];done) | (rw [s3 (q:=x) J];rfl) | (rw [p7 (q:=x) J];done) | (rw [p7 (q:=x) J];rfl) | (rw [p7 (q:=x) J];exact congrArg (λz=>Row.row _ _ z) X6)| (rw [s3 (q:=x) J];exact congrArg (λz=>Row.row _ _ z) X6))⟩,Z,Z,trivial⟩⟩,Z,Z,Z⟩))
  ·exact ⟨hF2,hnx▸hinv.2⟩
  exact hphi
 have hd:=b1i h1
 refine zgo ?_
 refine f6 (m8 Z Z Z Z (b4 (d7 Z ?_) (b4 (d7 Z ?_) f8)))
 all_goals ((rw [← hinv.2,hd];done))
theorem a92 (q:Que) (irq p:Int) (hF:QF q) (hi:0<=irq/\irq<=7) (hp:0<=p/\p<=15):Ctr Tryz.prog 292 [.agg [.lst 3 (q.sl.map e9),.lst 2 (q.wa.map e7)],.v (.int .i64 irq),.v (.int .i64 p)] (.shp true [some 2] [.fr 169 3 ((a3k q irq p).sl.map e9),.fr 182 2 ((a3k q irq p).wa.map e7)]):=by
 have hl4:=hF.sl.len
 have hwn:=hF.wn
 have hQ:=(b4K (irq:=irq) (p:=p) hF hi hp).1
 refine Ctr.of (n:=44) G Tryz.func292 Z a8 Z Z Z (λw0=>?_)
 refine j5 0 Z (λ_=>Z) (λu0=>?_)
 refine d3 (λK1 hK1=>?_)
 refine b0y ?_
 refine b0x ?_
 refine b6 (hK1 _ ?_)
 clear hK1 K1
 refine d3 (λK2 hK2=>?_)
 refine d3 (λK3 hK3=>?_)
 refine b9v ?_
 refine b5 Z Z (f7 Z (ArgsOK.of Z) (F0 q.sl irq J) Z) ?_
 refine vm5 ?_
 refine b5 Z Z (B3 Z Z Z Z) (b6 (hK3 _ ?_))
 clear hK3 K3
 refine j9 Z (λh1=>?_) (λh1=>?_)
 ·try rw [h1]
  try simp only [rfb] at h1
  have ho:=b8o (p:=p) h1
  rw [ho] at hQ
  refine d3 (λK4 hK4=>?_)
  refine b9v ?_
  refine b5 Z Z (c7 Z Z) ?_
  refine vm5 ?_
  refine c8 3 Z Z Z (ArgsOK.of Z) (b2Q q.sl irq p hF.sl h1) Z Z ?_
  refine vm5 ?_
  refine c5T ?_
  refine hK4 _ ?_
  clear hK4 K4
  refine d3 (λK5 hK5=>?_)
  refine c5S ?_
  refine c8 5 Z Z Z (ArgsOK.of Z) (G1 _ hQ) Z Z ?_
  refine c1p ?_
  refine b6 (hK5 _ ?_)
  clear hK5 K5
  refine f6 (m8 Z Z Z Z (b4 (d7 Z ?_) (b4 (d7 Z ?_) f8)))
  all_goals clear hK2 K2
  all_goals exact b9o
 ·try rw [h1]
  try simp only [rfb] at h1
  refine s4 (hK2 _ ?_)
  clear hK2 K2
  refine d3 (λK6 hK6=>?_)
  refine d3 (λK7 hK7=>?_)
  refine b9v ?_
  refine b5 Z Z (f7 Z (ArgsOK.of Z) (b2P q.wa irq J) Z) ?_
  refine vm5 ?_
  refine b5 Z Z (B3 Z Z Z Z) (b6 (hK7 _ ?_))
  clear hK7 K7
  refine j9 Z (λh2=>?_) (λh2=>?_)
  ·try rw [h2]
   try simp only [rfb] at h2
   have ho:=b8q (p:=p) h1 h2
   rw [ho] at hQ
   refine d3 (λK8 hK8=>?_)
   refine b8 ?_
   refine vm5 ?_
   refine b5 Z Z (d9 G Z Z Z Z Z Z) ?_
   refine vm5 ?_
   refine c8 4 Z Z Z (ArgsOK.of Z) (G1 _ hQ) Z Z ?_
   refine c1p ?_
   refine b6 (hK8 _ ?_)
   clear hK8 K8
   refine f6 (m8 Z Z Z Z (b4 (d7 Z ?_) (b4 (d7 Z ?_) f8)))
   all_goals clear hK6 K6
   all_goals exact b9o
  ·try rw [h2]
   try simp only [rfb] at h2
   have ho:=b8p (p:=p) h1 h2
   rw [ho] at hQ
   refine s4 (hK6 _ ?_)
   clear hK6 K6
   refine d3 (λK9 hK9=>?_)
   refine l3 11 [0] mixed a8 Z Z (λr0=>?_) (λ_ h=>h)
   refine d5 0 Z a8 a8 Z Z Z Z (m9 G Z Z Z Z) (d5 1 Z a8 a8 Z Z Z Z (o7 G Z Z Z Z Z Z Z) (d5 2 Z a8 a8 Z Z Z Z (m9 G Z Z Z Z) (d5 3 Z a8 a8 Z Z Z Z (a5S (o7 G Z Z Z Z Z Z Z)) (d5 4 Z a8 a8 Z Z Z Z (c7 Z Z) (d5 5 Z a8 a8 Z Z Z Z (c7 Z Z) (d5 6 Z a8 a8 Z Z Z Z (w6 G Z Z Z Z) ?_))))))
   refine b7 (rs:=[7]) a8 Z (AllB.cons ?_ AllB.nil)
   refine f9 [0] Z Z (c8 3 Z Z Z (ArgsOK.of Z) (a1g q.wa ⟨irq,p⟩ J) Z Z (b6 ⟨Z,?_⟩))
   refine b7 (rs:=[8]) a8 Z (AllB.cons ?_ AllB.nil)
   refine f9 [0] Z Z (b5 Z Z (w6 G Z Z Z Z) (b6 ⟨Z,?_⟩))
   refine b7 (rs:=[9]) a8 Z (AllB.cons ?_ AllB.nil)
   refine f9 [0] Z Z (c8 5 Z Z Z (ArgsOK.of Z) (G1 _ hQ) Z Z (b6 ⟨Z,?_⟩))
   refine b7 (rs:=[10]) a8 Z (AllB.cons ?_ AllB.nil)
   refine f9 [0] Z Z (m3 G Z Z Z Z Z Z Z Z Z Z Z (b6 ⟨Z,?_⟩))
   refine C3 a8 (hK9 _ ?_)
   clear hK9 K9
   exact c59
theorem a7m (q:Que) (lim:Int) (hF:QF q):Ctr Tryz.prog 226 [.agg [.lst 3 (q.sl.map e9),.lst 2 (q.wa.map e7)],.v (.int .i64 lim)] (.shp false [some 2,none,none] [.fr 169 3 ((b2n q lim).1.sl.map e9),.fr 182 2 ((b2n q lim).1.wa.map e7),.v (.int .i64 (b2n q lim).2.1),.v (.bool (b2n q lim).2.2)]):=by
 have hl4:=hF.sl.len
 have hwn:=hF.wn
 refine Ctr.of (n:=28) G Tryz.func226 Z a8 Z Z Z (λw0=>?_)
 refine j5 0 Z (λ_=>Z) (λu0=>?_)
 refine N3 ?_
 refine p8 ?_
 refine c8 3 Z Z Z (ArgsOK.of Z) (a8n q.sl lim hF.sl) Z Z ?_
 refine zcd (λh1=>?_) (λh1=>?_)
 ·rw [c1Y] at h1
  have ht:=b8r (q:=q) h1
  refine zgo ?_
  refine f6 (m8 Z Z Z Z (b4 (M8 ?_) (b4 (M8 ?_) (b4 (l4 ?_) (b4 (l4 ?_) f8)))))
  all_goals exact c2J
 rw [c1Y] at h1
 have ht:=b4L (q:=q) h1
 have ht2:=b5s (sl:=q.sl) h1
 refine p8 ?_
 refine c8 5 Z Z Z (ArgsOK.of Z) (R8 q J J) Z Z ?_
 refine vm5 ?_
 refine d6 G 6 Z Z Z Z Z ?_
 refine zgo ?_
 refine f6 (m8 Z Z Z Z (b4 (d7 Z ?_) (b4 (d7 Z ?_) (b4 (l4 ?_) (b4 (l4 ?_) f8)))))
 all_goals exact c2J
theorem b0H (q:Que) (lim:Int) (hF:QF q) (hk:a2m q.sl lim=true):Ctr Tryz.prog 242 [.agg [.lst 3 (q.sl.map e9),.lst 2 (q.wa.map e7)],.v (.int .i64 lim)] (.shp false [some 2,none] [.fr 169 3 ((b2i q).sl.map e9),.fr 182 2 ((b2i q).wa.map e7),.v (.int .i64 (tkI q.sl))]):=by
 have hl4:=hF.sl.len
 have hwn:=hF.wn
 have htl:(tkS q.sl).length=4:=by unfold tkS;rw [List.length_set];exact hl4
 refine Ctr.of (n:=24) G Tryz.func242 Z a8 Z Z Z (λw0=>?_)
 refine j5 0 Z (λ_=>Z) (λu0=>?_)
 refine N3 ?_
 refine p8 ?_
 refine c8 3 Z Z Z (ArgsOK.of Z) (b0F q.sl lim hF.sl hk) Z Z ?_
 refine zgn ?_
 refine n9 (l3 11 [0,2] mixed a8 Z Z (λr0=>?_) (λ_ h=>h))
 refine zsa 1 ?_
 refine zsa 4 ?_
 refine zsa 5 ?_
 refine zsa 8 ?_
 refine x5 (N:=5) Z (r7 (fuel:=5) [⟨0,15,3,false,.row 169 3 []⟩,⟨3,18,4,false,.row 182 2 []⟩] (AllVOK.cons (VOK.lit G Z Z Z Z Z) (AllVOK.cons (VOK.lit G Z Z Z Z Z) (AllVOK.nil))) (λhok=>?_))
 refine m6 [(2,[0])] a8 a8 (λe he=>hok e he) a8 (AllVS.cons ?_ AllVS.nil)
 refine VStep.mk1 [0,2] 15 (.own 3) 3 (.row 169 3 []) [⟨3,18,4,false,.row 182 2 []⟩] Z Z Z Z Z (λb1 _ hbn=>j3 G O9 Z Z Z Z Z Z Z Z Z B1 Z Z (b6 Z)) a8 a8 a8 a8 (m6 [(6,[3])] a8 a8 (λe he=>hok e (vin (is:=[0]) Z he)) a8 (AllVS.cons ?_ AllVS.nil))
 refine VStep.mk1 [0,2] 18 (.own 4) 4 (.row 182 2 []) [] Z Z Z Z Z (λb1 _ hbn=>j3 G O9 Z Z Z Z Z Z Z Z Z B1 Z Z (b6 Z)) a8 a8 a8 a8 (D1 ?_)
 clear hok
 refine b7 (rs:=[7]) a8 Z (AllB.cons ?_ AllB.nil)
 refine g9 [0,2] Z Z ?_
 refine U6 ?_
 refine b7 (rs:=[9]) a8 Z (AllB.cons ?_ AllB.nil)
 refine g9 [0,2] Z Z ?_
 refine U6 ?_
 refine zsa 10 ?_
 refine J1 ?_
 refine f6 (m8 Z Z Z Z (b4 (d7 Z ?_) (b4 (d7 Z ?_) (b4 (l4 ?_) f8))))
 all_goals (first | rfl | simp | (simp [b2i];done))
theorem S0 (sl:List Slot) (irq:Int) (hl:sl.length<=1048576) (h0:0<=r9 sl irq):Ctr Tryz.prog 161 [.lst 3 (sl.map e9),.v (.int .i64 irq)] (.one (.v (.int .i64 (lvl sl irq)))):=by
 have hf:=@a2l sl irq
 refine Ctr.of (n:=12) G Tryz.func161 Z a8 Z Z Z (λw0=>?_)
 refine zcl (B7 sl irq hl) ?_
 exact a9X
theorem Y6 (q:Que) (irq:Int) (hl:q.sl.length<=1048576) (h0:0<=r9 q.sl irq):Ctr Tryz.prog 142 [.agg [.lst 3 (q.sl.map e9),.lst 2 (q.wa.map e7)],.v (.int .i64 irq)] (.one (.v (.int .i64 (lvl q.sl irq)))):=by
 have hf:=@a2l q.sl irq
 refine Ctr.of (n:=14) G Tryz.func142 Z a8 Z Z Z (λw0=>?_)
 refine j5 0 Z (λ_=>Z) (λu0=>?_)
 refine vm3 ?_
 refine zgd ?_
 refine zcl (F0 q.sl irq hl) ?_
 exact a9X
theorem a2s (x:Ifc) (hF:IfF x):Ctr Tryz.prog 227 [.agg [.v (.int .i64 x.ma),.lst 1 (x.st.map Rf.n7),.lst 3 (x.qu.sl.map e9),.lst 2 (x.qu.wa.map e7)]] (.one (.v (.int .i64 (b0v x)))):=by
 have hl4:=hF.qu.sl.len
 have hwn:=hF.qu.wn
 have hsn:=hF.sn
 refine Ctr.of (n:=19) G Tryz.func227 Z a8 Z Z Z (λw0=>?_)
 refine j5 0 Z (λ_=>Z) (λu0=>?_)
 refine n9 ?_
 refine b0y ?_
 refine C8 ?_
 refine j9 Z (λh1=>?_) (λh1=>?_)
 ·try rw [h1]
  try simp only [rfb] at h1
  exact c1G
 try rw [h1]
 try simp only [rfb] at h1
 have htn:((x.st.length:Int) - 1).toNat=x.st.length - 1:=J
 have htp:=hF.top (show x.st.length - 1 < x.st.length by omega)
 refine zgn ?_
 refine b9z ?_
 iterate 8 refine zst ?_
 refine j6 Z ?_
 refine c1k ?_
 refine j6 Z (s1 Z Z (f7 Z (ArgsOK.of Z) (S0 x.qu.sl _ J (by first | assumption | (rw [htn];assumption))) Z) ?_)
 exact c1G
theorem a04 (x:Ifc) (hF:IfF x):Ctr Tryz.prog 244 [.agg [.v (.int .i64 x.ma),.lst 1 (x.st.map Rf.n7),.lst 3 (x.qu.sl.map e9),.lst 2 (x.qu.wa.map e7)]] (.one (.v (.int .i64 (b0v x)))):=by
 have hl4:=hF.qu.sl.len
 have hwn:=hF.qu.wn
 have hsn:=hF.sn
 refine Ctr.of (n:=18) G Tryz.func244 Z a8 Z Z Z (λw0=>?_)
 refine j5 0 Z (λ_=>Z) (λu0=>?_)
 refine n9 ?_
 refine b0y ?_
 refine C8 ?_
 refine zgn ?_
 refine j9 Z (λh1=>?_) (λh1=>?_)
 ·try rw [h1]
  try simp only [rfb] at h1
  have htn:((x.st.length:Int) - 1).toNat=x.st.length - 1:=J
  have htp:=hF.top (show x.st.length - 1 < x.st.length by omega)
  refine b9z ?_
  iterate 5 refine zst ?_
  refine j6 Z ?_
  refine c1k ?_
  refine j6 Z (s1 Z Z (f7 Z (ArgsOK.of Z) (Y6 x.qu _ J (by first | assumption | (rw [htn];assumption))) Z) ?_)
  exact c1G
 try rw [h1]
 try simp only [rfb] at h1
 refine zgn ?_
 exact c1G
theorem A0 (x:Ifc) (hn:x.st.length<=1048576) (hl:x.qu.sl.length<=1048576) (hw:x.qu.wa.length<=1048576):Ctr Tryz.prog 107 [.agg [.v (.int .i64 x.ma),.lst 1 (x.st.map Rf.n7),.lst 3 (x.qu.sl.map e9),.lst 2 (x.qu.wa.map e7)]] (.shp true [some 4] [.v (.int .i64 x.ma),.fr 3 1 (x.st.map Rf.n7),.fr 169 3 (x.qu.sl.map e9),.fr 182 2 (x.qu.wa.map e7)]):=by
 refine Ctr.of (n:=12) G Tryz.func107 Z a8 Z Z Z (λw0=>?_)
 refine j5 0 Z (λ_=>Z) (λu0=>?_)
 refine N3 ?_
 refine zgn ?_
 refine n9 (l3 10 [0] mixed a8 Z Z (λr0=>?_) (λ_ h=>h))
 refine a0A ?_
 refine zsa 5 ?_
 refine zsa 6 ?_
 refine b7 (rs:=[4]) a8 Z (AllB.cons ?_ AllB.nil)
 refine g9 [0] Z Z (c8 3 Z Z Z (ArgsOK.of Z) (z7 x.st hn) Z Z (b6 ⟨Z,?_⟩))
 refine b7 (rs:=[7]) a8 Z (AllB.cons ?_ AllB.nil)
 refine g9 [0] Z Z (c8 5 Z Z Z (ArgsOK.of Z) (R8 x.qu hl hw) Z Z (b6 ⟨Z,?_⟩))
 exact c3J
theorem a8p (x:Ifc) (irq p:Int) (hF:IfF x) (hi:0<=irq/\irq<=7) (hp:0<=p/\p<=15):Ctr Tryz.prog 225 [.agg [.v (.int .i64 x.ma),.lst 1 (x.st.map Rf.n7),.lst 3 (x.qu.sl.map e9),.lst 2 (x.qu.wa.map e7)],.v (.int .i64 irq),.v (.int .i64 p)] (.shp true [some 4] [.v (.int .i64 x.ma),.fr 3 1 (x.st.map Rf.n7),.fr 169 3 ((a3k x.qu irq p).sl.map e9),.fr 182 2 ((a3k x.qu irq p).wa.map e7) true]):=by
 have hl4:=hF.qu.sl.len
 have hwn:=hF.qu.wn
 have hsn:=hF.sn
 refine Ctr.of (n:=17) G Tryz.func225 Z a8 Z Z Z (λw0=>?_)
 refine j5 0 Z (λ_=>Z) (λu0=>?_)
 refine N3 ?_
 refine p8 ?_
 refine c8 5 Z Z Z (ArgsOK.of Z) (A0 x J J J) Z Z ?_
 refine vm5 ?_
 refine d6 G 6 Z Z Z Z Z ?_
 refine p8 ?_
 refine c8 8 Z Z Z (ArgsOK.of Z) (a8o x.qu irq p hF.qu hi hp) Z Z ?_
 refine zgo ?_
 exact c57
theorem a8q (x:Ifc) (irq p:Int) (hF:IfF x) (hi:0<=irq/\irq<=7) (hp:0<=p/\p<=15):Ctr Tryz.prog 241 [.agg [.v (.int .i64 x.ma),.lst 1 (x.st.map Rf.n7),.lst 3 (x.qu.sl.map e9),.lst 2 (x.qu.wa.map e7)],.v (.int .i64 irq),.v (.int .i64 p)] (.shp true [some 4] [.v (.int .i64 x.ma),.fr 3 1 (x.st.map Rf.n7),.fr 169 3 ((a3k x.qu irq p).sl.map e9),.fr 182 2 ((a3k x.qu irq p).wa.map e7)]):=by
 have hl4:=hF.qu.sl.len
 have hwn:=hF.qu.wn
 have hsn:=hF.sn
 refine Ctr.of (n:=18) G Tryz.func241 Z a8 Z Z Z (λw0=>?_)
 refine j5 0 Z (λ_=>Z) (λu0=>?_)
 refine N3 ?_
 refine zgn ?_
 refine n9 (l3 12 [0] mixed a8 Z Z (λr0=>?_) (λ_ h=>h))
 refine a0A ?_
 refine zsa 5 ?_
 refine zsa 6 ?_
 refine zsa 7 ?_
 refine zsa 8 ?_
 refine b7 (rs:=[4]) a8 Z (AllB.cons ?_ AllB.nil)
 refine g9 [0] Z Z (c8 3 Z Z Z (ArgsOK.of Z) (E3 x.st J) Z Z (b6 ⟨Z,?_⟩))
 refine b7 (rs:=[9]) a8 Z (AllB.cons ?_ AllB.nil)
 refine g9 [0] Z Z (c8 5 Z Z Z (ArgsOK.of Z) (a92 x.qu irq p hF.qu hi hp) Z Z (b6 ⟨Z,?_⟩))
 refine b7 (rs:=[10]) a8 Z (AllB.cons ?_ AllB.nil)
 refine b2K ?_
 refine b7 (rs:=[11]) a8 Z (AllB.cons ?_ AllB.nil)
 exact c3I
theorem a93 (x:Ifc) (hF:IfF x):Ctr Tryz.prog 177 [.agg [.v (.int .i64 x.ma),.lst 1 (x.st.map Rf.n7),.lst 3 (x.qu.sl.map e9),.lst 2 (x.qu.wa.map e7)]] (.shp false [some 4,none,none] [.v (.int .i64 (R3 x).1.ma),.fr 3 1 ((R3 x).1.st.map Rf.n7),.fr 169 3 ((R3 x).1.qu.sl.map e9),.fr 182 2 ((R3 x).1.qu.wa.map e7),.v (.int .i64 (R3 x).2.1),.v (.bool (R3 x).2.2)]):=by
 have hl4:=hF.qu.sl.len
 have hwn:=hF.qu.wn
 have hsn:=hF.sn
 refine Ctr.of (n:=34) G Tryz.func177 Z a8 Z Z Z (λw0=>?_)
 refine j5 0 Z (λ_=>Z) (λu0=>?_)
 refine N3 ?_
 refine zgn ?_
 refine n9 (l3 16 [0,1] mixed a8 Z Z (λr0=>?_) (λ_ h=>h))
 refine a0A ?_
 refine zsa 4 ?_
 refine x5 (N:=3) Z (r7 (fuel:=10) [⟨12,5,2,true,.box (avR [.slice none 0 0,.slice none 0 0] [])⟩] (AllVOK.cons (VOK.boxS G Z Z Z Z Z) (AllVOK.nil)) (λhok=>?_))
 refine m6 [(5,[])] a8 a8 (λe he=>hok e he) a8 (AllVS.cons ?_ AllVS.nil)
 refine VStep.mk0 [0,1] Z Z (λb1 _ hbn=>b5 Z Z (f7 Z (ArgsOK.of Z) (a2s x hF) Z) (b6 Z)) a8 a8 a8 a8 (s7 6 Z a8 Z Z Z Z (b7q Z Z Z) a8 a8 a8 (m6 [(7,[])] a8 a8 (λe he=>hok e he) a8 (AllVS.cons ?_ AllVS.nil)))
 refine VStep.mk0 [0,1] Z Z (λb1 _ hbn=>c8 5 Z Z Z (ArgsOK.of Z) (a7m x.qu (c0M x) hF.qu) Z Z (b6 Z)) a8 a8 a8 a8 (s7 8 Z a8 Z Z Z Z (c7 Z Z) a8 a8 a8 (s7 9 Z a8 Z Z Z Z (j7 Z Z Z) a8 a8 a8 (s7 10 Z a8 Z Z Z Z (j7 Z Z Z) a8 a8 a8 (s7 11 Z a8 Z Z Z Z (j7 Z Z Z) a8 a8 a8 (m6 [(13,[12])] a8 a8 (λe he=>hok e he) a8 (AllVS.cons ?_ AllVS.nil))))))
 refine c7H ?_
 clear hok
 refine zsa 14 ?_
 refine zsa 15 ?_
 refine J1 ?_
 refine zcd (λh1=>?_) (λh1=>?_)
 ·rw [b8s] at h1
  have ht:=b5C (x:=x) h1
  refine zgo ?_
  refine f6 (m8 Z Z Z Z (b4 (l4 ?_) (b4 (M8 ?_) (b4 (M8 ?_) (b4 (M8 ?_) (b4 (l4 ?_) (b4 (l4 ?_) f8)))))))
  all_goals exact c2K
 rw [b8s] at h1
 have ht:=b5B (x:=x) h1
 have ht2:=b4L h1
 refine zgo ?_
 apply x7 [2,3,4] [1,3,4,5] 7 14 [0,2,3,4] mixed a8 Z Z (λ_ h=>znk h)
 ·intro r0
  refine a0A ?_
  refine zsa 5 ?_
  refine zsa 8 ?_
  refine zsa 10 ?_
  refine b7 (rs:=[4,6]) a8 Z (AllB.cons ?_ (AllB.cons ?_ AllB.nil))
  ·refine g9 [0,2,3,4] Z Z (c8 6 Z Z Z (ArgsOK.of Z) (z7 x.st J) Z Z (b6 ⟨Z,?_⟩))
   refine b7 (rs:=[6]) a8 Z (AllB.cons ?_ AllB.nil)
   refine g9 [0,2,3,4] Z Z (t7 G 7 Z Z Z Z Z Z Z Z (b6 ⟨Z,?_⟩))
   refine b7 (rs:=[7]) a8 Z (AllB.cons ?_ AllB.nil)
   refine g9 [0,2,3,4] Z Z (j3 G a0z Z Z Z Z Z Z Z Z Z R4 Z Z (b6 ⟨Z,?_⟩))
   refine b7 (rs:=[9]) a8 Z (AllB.cons ?_ AllB.nil)
   refine b35 ?_
   refine b7 (rs:=[11]) a8 Z (AllB.cons ?_ AllB.nil)
   refine b35 ?_
   refine zsa 12 ?_
   refine zsa 13 ?_
   exact a4y
  refine g9 [0,2,3,4] Z Z (t7 G 6 Z Z Z Z Z Z Z Z (b6 ⟨Z,?_⟩))
  refine b7 (rs:=[4]) a8 Z (AllB.cons ?_ AllB.nil)
  refine g9 [0,2,3,4] Z Z (c8 7 Z Z Z (ArgsOK.of Z) (z7 x.st J) Z Z (b6 ⟨Z,?_⟩))
  refine b7 (rs:=[7]) a8 Z (AllB.cons ?_ AllB.nil)
  refine g9 [0,2,3,4] Z Z (j3 G a0z Z Z Z Z Z Z Z Z Z R4 Z Z (b6 ⟨Z,?_⟩))
  refine b7 (rs:=[9]) a8 Z (AllB.cons ?_ AllB.nil)
  refine b35 ?_
  refine b7 (rs:=[11]) a8 Z (AllB.cons ?_ AllB.nil)
  refine b35 ?_
  refine zsa 12 ?_
  refine zsa 13 ?_
  refine a3c (Gh.sub 6 5 a0z Z Z Z) ?_
  exact a4y
 refine f6 (m8 Z Z Z Z (b4 (l4 ?_) (b4 (d7 Z ?_) (b4 (d7 Z ?_) (b4 (d7 Z ?_) (b4 (l4 ?_) (b4 (l4 ?_) f8)))))))
 all_goals exact c2K
theorem a94 (x:Ifc) (hF:IfF x) (hk:okT x=true):Ctr Tryz.prog 196 [.agg [.v (.int .i64 x.ma),.lst 1 (x.st.map Rf.n7),.lst 3 (x.qu.sl.map e9),.lst 2 (x.qu.wa.map e7)]] (.shp false [some 4,none] [.v (.int .i64 (a4X x).ma),.fr 3 1 ((a4X x).st.map Rf.n7),.fr 169 3 ((a4X x).qu.sl.map e9),.fr 182 2 ((a4X x).qu.wa.map e7),.v (.int .i64 (tkI x.qu.sl))]):=by
 have hl4:=hF.qu.sl.len
 have hwn:=hF.qu.wn
 have hsn:=hF.sn
 have hkk:=W8.mp hk
 have htb:=b8t hF.qu.sl hkk.1
 refine Ctr.of (n:=35) G Tryz.func196 Z a8 Z Z Z (λw0=>?_)
 refine j5 0 Z (λ_=>Z) (λu0=>?_)
 refine N3 ?_
 refine zgn ?_
 refine n9 (l3 14 [0,1] mixed a8 Z Z (λr0=>?_) (λ_ h=>h))
 refine a0A ?_
 refine zsa 4 ?_
 refine x5 (N:=3) Z (r7 (fuel:=8) [⟨11,4,2,true,.box (avR [.slice none 0 0,.slice none 0 0] [])⟩] (AllVOK.cons (VOK.boxS G Z Z Z Z Z) (AllVOK.nil)) (λhok=>?_))
 refine m6 [(5,[])] a8 a8 (λe he=>hok e he) a8 (AllVS.cons ?_ AllVS.nil)
 refine VStep.mk0 [0,1] Z Z (λb1 _ hbn=>b5 Z Z (f7 Z (ArgsOK.of Z) (a04 x hF) Z) (b6 Z)) a8 a8 a8 a8 (m6 [(6,[])] a8 a8 (λe he=>hok e he) a8 (AllVS.cons ?_ AllVS.nil))
 refine VStep.mk0 [0,1] Z Z (λb1 _ hbn=>b5 Z Z (f7 Z (ArgsOK.of Z) (a3A _ _) Z) (b6 Z)) a8 a8 a8 a8 (m6 [(7,[])] a8 a8 (λe he=>hok e he) a8 (AllVS.cons ?_ AllVS.nil))
 refine VStep.mk0 [0,1] Z Z (λb1 _ hbn=>c8 5 Z Z Z (ArgsOK.of Z) (b0H x.qu (c0M x) hF.qu hk) Z Z (b6 Z)) a8 a8 a8 a8 (s7 8 Z a8 Z Z Z Z (c7 Z Z) a8 a8 a8 (s7 9 Z a8 Z Z Z Z (j7 Z Z Z) a8 a8 a8 (s7 10 Z a8 Z Z Z Z (j7 Z Z Z) a8 a8 a8 (m6 [(12,[11])] a8 a8 (λe he=>hok e he) a8 (AllVS.cons ?_ AllVS.nil)))))
 refine c7I ?_
 clear hok
 refine zsa 13 ?_
 refine J1 ?_
 refine n9 (l3 9 [0,1,2,3,4] mixed a8 Z Z (λr0=>?_) (λ_ h=>h))
 refine a0A ?_
 refine zsa 5 ?_
 refine x5 (N:=6) Z (r7 (fuel:=3) [⟨7,6,5,true,.box (avR [.int .i64 0,.slice none 0 0,.slice none 0 0,.slice none 0 0] [])⟩] (AllVOK.cons (VOK.boxS G Z Z Z Z Z) (AllVOK.nil)) (λhok=>?_))
 refine m6 [(4,[])] a8 a8 (λe he=>hok e he) a8 (AllVS.cons ?_ AllVS.nil)
 refine VStep.mk0 [0,1,2,3,4] Z Z (λb1 _ hbn=>c8 7 Z Z Z (ArgsOK.of Z) (E3 x.st J) Z Z (b6 Z)) a8 a8 a8 a8 (m6 [(6,[])] a8 a8 (λe he=>hok e he) a8 (AllVS.cons ?_ AllVS.nil))
 refine VStep.mk0 [0,1,2,3,4] Z Z (λb1 _ hbn=>b5 Z Z (w6 G Z Z Z Z) (b6 Z)) a8 a8 a8 a8 (m6 [(8,[7])] a8 a8 (λe he=>hok e he) a8 (AllVS.cons ?_ AllVS.nil))
 refine c7F ?_
 clear hok
 refine J1 ?_
 refine zcd (λh1=>?_) (λh1=>?_)
 ·refine p8 ?_
  refine t7 G 8 Z Z Z Z Z Z Z Z ?_
  refine vm5 ?_
  refine Z2 (Gh.forget (id:=5) (k:=1) Z Z)<|Z2 (Gh.keep [0,1,2,3,4,5,6,7] Z)<|j3 G np rfl rfl rfl rfl rfl rfl rfl rfl rfl R4 rfl rfl ?_
  refine zgo ?_
  refine f6 (m8 Z Z Z Z (b4 (l4 ?_) (b4 (d7 Z ?_) (b4 (d7 Z ?_) (b4 (d7 Z ?_) (b4 (l4 ?_) f8))))))
  all_goals (first | rfl | (simp [a4X,Rf.n7];done))
 exfalso;omega
theorem N5 (q:Que) (hF:QF q):Ctr Tryz.prog 115 [.agg [.lst 3 (q.sl.map e9),.lst 2 (q.wa.map e7)]] (.one (.fr 3 1 ((A5 q).map Rf.n7))):=by
 have hl4:=hF.sl.len
 have hwn:=hF.wn8
 have cS:=E7 (pnL q 4) (b5D hF 4 (Nat.le_refl _)) (by have:=@b2o q 4;omega)
 rw [b4M hF] at cS
 refine Ctr.of (n:=50) G Tryz.func115 Z a8 Z Z Z (λw0=>?_)
 refine j5 0 Z (λ_=>Z) (λu0=>?_)
 refine vm3 ?_
 refine p8 ?_
 refine b42 ?_
 refine zgo ?_
 refine vm8 ?_
 refine vm5 ?_
 refine c1r ?_
 refine zgo ?_
 refine e6 [4,15,16] [2] (λ(i:Nat)=>[(3,.own 1),(17,.v (.int .i64 (i:Int)))]) (λ(i:Nat)=>[(1,some (.row 182 2 ((pnL q i).map e7)))]) (λ(i:Nat)=>i<=4) (λ(i:Nat)=>4 - i) 0 Z Z ?_ ?_ ?_ ?_
 ·exact B2
 ·exact R5
 ·exact a0J
 intro i hi
 have hpl:=@b2o q i
 refine vm4 ?_
 refine zcd (λh1=>?_) (λh1=>?_)
 ·refine p8 ?_
  refine d6 G 4 Z Z Z Z Z ?_
  refine zcd (λh2=>?_) (λh2=>?_)
  ·refine zwt ?_
   exact c3K
  refine zcd (λh3=>?_) (λh3=>?_)
  ·exact c3K
  exact c79
 obtain rfl:i=4:=J
 refine p8 ?_
 refine w4 3 [1] Z Z Z cS Z (RowsIn.cons Z RowsIn.nil) Z Z Z ?_
 refine zgo ?_
 refine e6 [37,38] [1] (λ(i:Nat)=>[(4,.own 2),(39,.v (.int .i64 (i:Int)))]) (λ(i:Nat)=>[(2,some (.row 3 1 (((A5 q).take i).map Rf.n7)))]) (λ(i:Nat)=>i<=(pnS q 4).length) (λ(i:Nat)=>(pnS q 4).length - i) 0 Z Z ?_ ?_ ?_ ?_
 ·exact B2
 ·exact R5
 ·exact a0J
 intro i hi
 have hpl:=@a6g q 4
 refine vm4 ?_
 refine zcd (λh4=>?_) (λh4=>?_)
 ·refine vm7 ?_
  refine b5 Z Z (d8 G Z Z Z Z (x9 J B1) Z) ?_
  refine vm5 ?_
  refine d6 G 4 Z Z Z Z Z ?_
  refine p8 ?_
  refine t7 G 5 Z Z Z Z Z Z Z Z ?_
  refine vm8 ?_
  exact c3g
 refine zfo ?_
 all_goals (first | rfl | (rw [b5F J]))
theorem U8 (q:Que) (hF:QF q):Ctr Tryz.prog 143 [.agg [.lst 3 (q.sl.map e9),.lst 2 (q.wa.map e7)]] (.one (.fr 3 1 ((A5 q).map Rf.n7))):=by
 have hl4:=hF.sl.len
 have hwn:=hF.wn8
 refine Ctr.of (n:=55) G Tryz.func143 Z a8 Z Z Z (λw0=>?_)
 refine j5 0 Z (λ_=>Z) (λu0=>?_)
 refine vm3 ?_
 refine p8 ?_
 refine b42 ?_
 refine zgo ?_
 refine vm8 ?_
 refine zgo ?_
 refine e6 [1] [0] (λ(i:Nat)=>[(3,.own 1),(4,.v (.int .i64 (i:Int)))]) (λ(i:Nat)=>[(1,some (.row 182 2 ((pnS q i).map e7)))]) (λ(i:Nat)=>i<=4) (λ(i:Nat)=>4 - i) 0 Z Z ?_ ?_ ?_ ?_
 ·exact B2
 ·exact R5
 ·exact a0J
 intro i hi
 have hpl:=@a6g q i
 refine vm4 ?_
 refine zcd (λh1=>?_) (λh1=>?_)
 ·refine zgo ?_
  refine a7k ?_
  refine zcd (λh2=>?_) (λh2=>?_)
  ·refine zwt ?_
   exact c8c
  refine zcd (λh3=>?_) (λh3=>?_)
  ·exact c8c
  refine zgo ?_
  refine ⟨(i+1),?_,?_,⟨⟨_,Z,by rfl⟩,Z,⟨⟨_,Z,by rfl⟩,Z,trivial⟩⟩,⟨⟨_,Z,by (first | (rw [b1n J,List.map_append];rfl) | (rw [b1n J];done) | (rw [b1n J];rfl) | (rw [c11 J];done))⟩,Z,Z,trivial⟩,Z,Z,Z⟩
  ·omega
  omega
 obtain rfl:i=4:=J
 refine p8 ?_
 refine c1r ?_
 refine zgo ?_
 refine e6 [3] [1] (λ(i:Nat)=>[(6,.own 2),(7,.v (.int .i64 (i:Int)))]) (λ(i:Nat)=>[(2,some (.row 3 1 (((A5 q).take i).map Rf.n7)))]) (λ(i:Nat)=>i<=(pnS q 4).length) (λ(i:Nat)=>(pnS q 4).length - i) 0 Z Z ?_ ?_ ?_ ?_
 ·exact B2
 ·exact R5
 ·exact a0J
 intro i hi
 have hpl:=@a6g q 4
 refine vm4 ?_
 refine zcd (λh4=>?_) (λh4=>?_)
 ·refine vm7 ?_
  refine b9y ?_
  refine vm5 ?_
  refine c5Y ?_
  refine vm5 ?_
  refine t7 G 4 Z Z Z Z Z Z Z Z ?_
  refine vm8 ?_
  exact c3g
 refine zfo ?_
 all_goals (first | rfl | (rw [b5F J]))
theorem a2t (l r:List Int) (hl:l.length<=1048576) (hr:r.length<=1048576):Ctr Tryz.prog 159 [.lst 1 (l.map Rf.n7),.lst 1 (r.map Rf.n7)] (.one (.v (.bool (decide (l=r))))):=by
 refine Ctr.of (n:=26) G Tryz.func159 Z a8 Z Z Z (λw0=>?_)
 refine zcd (λh1=>?_) (λh1=>?_)
 ·exact c3i
 refine zgo ?_
 refine e6 [0,1,12] [] (λ(i:Nat)=>[(13,.v (.int .i64 (i:Int)))]) (λ(i:Nat)=>[]) (λ(i:Nat)=>i<=l.length/\∀j,j < i→l.getD j default=r.getD j default) (λ(i:Nat)=>l.length - i) 0 Z Z ?_ ?_ ?_ ?_
 ·exact E5
 ·exact u6
 ·exact trivial
 intro i hinv
 refine vm4 ?_
 refine zcd (λh2=>?_) (λh2=>?_)
 ·refine zgd ?_
  refine zcd (λh3=>?_) (λh3=>?_)
  ·exact c3i
  exact b37
 refine zf1 ?_
 all_goals exact c2A
theorem a2B (x:Slot):Ctr Tryz.prog 205 [.v (a2x x)] (.one (.v (.bool (P3 x)))):=by
 refine Ctr.of (n:=11) G Tryz.func205 Z a8 Z Z Z (λw0=>?_)
 refine vm3 ?_
 refine zcd (λh1=>?_) (λh1=>?_)
 ·exact c3x
 exact c3x
theorem a6B (sl:List Slot) (hF:SlF sl):Ctr Tryz.prog 160 [.lst 3 (sl.map e9)] (.one (.fr 3 1 ((srtI (actN sl 4)).map Rf.n7))):=by
 have hl4:=hF.len
 refine Ctr.of (n:=24) G Tryz.func160 Z a8 Z Z Z (λw0=>?_)
 refine b34 ?_
 refine e6 [7,8] [] (λ(i:Nat)=>[(3,.own 0),(9,.v (.int .i64 (i:Int)))]) (λ(i:Nat)=>[(0,some (.row 3 1 ((actN sl i).map Rf.n7)))]) (λ(i:Nat)=>i<=4) (λ(i:Nat)=>4 - i) 0 Z Z ?_ ?_ ?_ ?_
 ·exact B2
 ·exact R5
 ·exact a0J
 intro i hi
 have hpl:=@X1 sl i
 refine vm4 ?_
 refine zcd (λh1=>?_) (λh1=>?_)
 ·refine zgo ?_
  refine b0x ?_
  refine zcl (a2B _) ?_
  refine zcd (λh2=>?_) (λh2=>?_)
  ·refine p8 ?_
   refine c1r ?_
   refine vm8 ?_
   exact c26
  exact c26
 obtain rfl:i=4:=J
 refine p8 ?_
 refine w4 1 [0] Z Z Z (S7 (actN sl 4) (by have:=@X1 sl 4;omega)) Z (RowsIn.cons Z RowsIn.nil) Z Z Z ?_
 refine zfo ?_
 all_goals (rfl)
theorem b2N (l:List Int) (n:Int) (hl:l.length<=1048576) (hne:∀x∈l,x≠n):Ctr Tryz.prog 191 [.lst 1 (l.map Rf.n7),.v (.int .i64 n)] (.one (.fr 3 1 ((b2q l n).map Rf.n7))):=by
 refine Ctr.of (n:=45) G Tryz.func191 Z a8 Z Z Z (λw0=>?_)
 refine zgo ?_
 refine e6 [0,1] [] (λ(k:Nat)=>[(5,.v (.int .i64 (k:Int)))]) (λ(k:Nat)=>[]) (λ(k:Nat)=>k<=l.length/\∀j,j < k→l.getD j default < n) (λ(k:Nat)=>l.length - k) 0 Z Z ?_ ?_ ?_ ?_
 ·exact E5
 ·exact u6
 ·exact trivial
 intro k hk
 refine vm4 ?_
 refine zcd (λh1=>?_) (λh1=>?_)
 ·refine zcd (λh2=>?_) (λh2=>?_)
  ·refine zgo ?_
   refine ⟨(k+1),?_,?_,⟨⟨_,Z,by rfl⟩,Z,trivial⟩,trivial,Z,Z,Z⟩
   ·exact ⟨by omega,o9 hk.2 i6⟩
   omega
  refine zcd (λh3=>?_) (λh3=>?_)
  ·refine zcd (λh4=>?_) (λh4=>?_)
   ·exact c3u
   exact b9U
  refine zwf ?_
  exact b9U
 refine zwf ?_
 refine zcd (λh5=>?_) (λh5=>?_)
 ·refine zcd (λh6=>?_) (λh6=>?_)
  ·exact c3u
  exact b9U
 refine zwf ?_
 refine zgo ?_
 apply x7 [4] [0] 2 13 [] mixed a8 Z Z (λ_ h=>znk h)
 ·exact ws4
 refine zfo ?_
 all_goals exact c2C
theorem a8r (sl:List Slot) (hF:SlF sl):Ctr Tryz.prog 140 [.lst 3 (sl.map e9)] (.one (.fr 3 1 ((a69 sl 4).map Rf.n7))):=by
 have hl4:=hF.len
 refine Ctr.of (n:=34) G Tryz.func140 Z a8 Z Z Z (λw0=>?_)
 refine b34 ?_
 refine e6 [0] [] (λ(i:Nat)=>[(3,.own 0),(4,.v (.int .i64 (i:Int)))]) (λ(i:Nat)=>[(0,some (.row 3 1 ((a69 sl i).map Rf.n7)))]) (λ(i:Nat)=>i<=4) (λ(i:Nat)=>4 - i) 0 Z Z ?_ ?_ ?_ ?_
 ·exact B2
 ·exact R5
 ·exact a0J
 intro i hi
 refine vm4 ?_
 refine zcd (λh1=>?_) (λh1=>?_)
 ·refine zcd (λh2=>?_) (λh2=>?_)
  ·refine zwt ?_
   exact c8b
  refine zcd (λh3=>?_) (λh3=>?_)
  ·exact c8b
  refine zgo ?_
  refine ⟨(i+1),?_,?_,⟨⟨_,Z,by rfl⟩,Z,⟨⟨_,Z,by rfl⟩,Z,trivial⟩⟩,⟨⟨_,Z,by (first | (rw [b8B J];done) | (rw [b8C J];done))⟩,Z,Z,trivial⟩,Z,Z,Z⟩
  ·omega
  omega
 obtain rfl:i=4:=J
 refine zfo ?_
 all_goals (rfl)
theorem a49 (x:Ifc) (hn:x.st.length<=1048576) (hl:x.qu.sl.length<=1048576) (hw:x.qu.wa.length<=1048576):Ctr Tryz.prog 105 [.agg [.v (.int .i64 x.ma),.lst 1 (x.st.map Rf.n7),.lst 3 (x.qu.sl.map e9),.lst 2 (x.qu.wa.map e7)]] (.one (.v (.bool (a3o x)))):=by
 refine Ctr.of (n:=54) G Tryz.func105 Z a8 Z Z Z (λw0=>?_)
 refine j5 0 Z (λ_=>Z) (λu0=>?_)
 refine n9 ?_
 refine b0y ?_
 refine zgn ?_
 refine n9 ?_
 refine a45 ?_
 refine b5 Z Z (f7 Z (ArgsOK.of Z) (a4B x.ma) Z) ?_
 refine a3v ?_
 refine A1 Z Z Z (λh1=>?_) (λh1=>?_)
 ·try rw [h1]
  try simp only [rfb] at h1
  refine zgn ?_
  refine L8 Z ?_
  exact c1x
 try rw [h1]
 try simp only [rfb] at h1
 refine a3v ?_
 refine a0I ?_
 refine b5 Z Z (f7 Z (ArgsOK.of Z) (a91 x.qu hl hw) Z) ?_
 refine zgn ?_
 refine j9 Z (λh2=>?_) (λh2=>?_)
 ·try rw [h2]
  try simp only [rfb] at h2
  exact c1x
 try rw [h2]
 try simp only [rfb] at h2
 have hq:=a9J.mp h2
 have hSl:=hq.1.sl
 have hl4:=hSl.len
 refine zgn ?_
 refine a45 ?_
 refine c8 2 Z Z Z (ArgsOK.of Z) (z7 x.st hn) Z Z ?_
 refine zgn ?_
 refine n9 (b8 ?_)
 refine zst ?_
 refine vm5 ?_
 refine w4 2 [1] Z Z Z (S7 x.st hn) Z (RowsIn.cons Z RowsIn.nil) Z Z Z ?_
 refine zgn ?_
 refine n9 (n9 (b8 ?_))
 iterate 4 refine zst ?_
 refine vm5 ?_
 refine c8 3 Z Z Z (ArgsOK.of Z) (a6B x.qu.sl hSl) Z Z ?_
 refine vm5 ?_
 refine b5 Z Z (f7 Z (ArgsOK.of Z) (a2t (srtI x.st) (srtI (actN x.qu.sl 4)) (by rw [R1];exact hn) (by rw [R1];have:=@X1 x.qu.sl 4;omega)) Z) ?_
 refine zgn ?_
 refine j9 Z (λh3=>?_) (λh3=>?_)
 ·try rw [h3]
  try simp only [rfb] at h3
  exact c1x
 try rw [h3]
 try simp only [rfb] at h3
 have hin:=λj (hj:j < x.st.length)=>b4N (b4O h3 (n6.mpr ⟨j,hj,Z⟩)) hl4
 refine C8 ?_
 refine r4 (e6 [1] [0] (λ(i:Nat)=>[(4,.v (.int .i64 (i:Int)))]) (λ(i:Nat)=>[]) (λ(i:Nat)=>1<=i/\∀j,j < i→lvD x.qu.sl x.st j=true) (λ(i:Nat)=>x.st.length - i) 1 Z Z ?_ ?_ ?_ ?_)
 ·exact ⟨Nat.le_refl _,λj hj=>by obtain rfl:j=0:=J;exact c12⟩
 ·exact u6
 ·exact trivial
 intro i hinv
 have hti:0 < i→((i:Int) - 1).toNat=i - 1:=λ_=>J
 refine vm4 ?_
 refine zgn ?_
 refine j9 Z (λh4=>?_) (λh4=>?_)
 ·try rw [h4]
  try simp only [rfb] at h4
  have hi1:=hin i J
  have hi2:=hin (i - 1) J
  refine a2H ?_
  refine b9z ?_
  iterate 8 refine zst ?_
  refine j6 Z (s1 Z Z (f7 Z (ArgsOK.of Z) (S0 x.qu.sl _ hl hi1) Z) ?_)
  iterate 6 refine zst ?_
  refine j6 Z ?_
  refine c1k ?_
  refine j6 Z (s1 Z Z (f7 Z (ArgsOK.of Z) (S0 x.qu.sl _ hl (by rw [hti J];exact hi2)) Z) ?_)
  refine zgn ?_
  refine j9 Z (λh5=>?_) (λh5=>?_)
  ·try rw [h5]
   try simp only [rfb] at h5
   exact c1x
  try rw [h5]
  try simp only [rfb] at h5
  refine zgn ?_
  refine U7 ?_
  refine ⟨(i+1),?_,?_,⟨⟨_,Z,by rfl⟩,Z,trivial⟩,trivial,Z,Z,Z⟩
  ·exact ⟨by omega,o9 hinv.2 (c13 b5Z)⟩
  omega
 try rw [h4]
 try simp only [rfb] at h4
 refine zgn ?_
 refine a1P ?_
 all_goals exact c2p
theorem a2u (l:List Int) (v:Int) (hn:l.length<=1048576):Ctr Tryz.prog 281 [.lst 1 (l.map Rf.n7),.v (.int .i64 v)] (.one (.v (.int .i64 (G6 (λj=>decide (v=l.getD j default)) l.length)))):=by
 refine Ctr.of (n:=19) G Tryz.func281 Z a8 Z Z Z (λw0=>?_)
 refine zgo ?_
 refine e6 [0,1,7] [] (λ(i:Nat)=>[(8,.v (.int .i64 (i:Int)))]) (λ(i:Nat)=>[]) (λ(i:Nat)=>i<=l.length/\∀j,j < i→decide (v=l.getD j default)=false) (λ(i:Nat)=>l.length - i) 0 Z Z ?_ ?_ ?_ ?_
 ·exact E5
 ·exact u6
 ·exact trivial
 intro i hinv
 refine vm4 ?_
 refine zcd (λh1=>?_) (λh1=>?_)
 ·refine zcd (λh2=>?_) (λh2=>?_)
  ·refine zf1 ?_
   all_goals exact c2L
  exact c8i
 refine zf1 ?_
 all_goals exact c2L
theorem a0K (l:List Int) (v:Int) (hn:l.length<=1048576):Ctr Tryz.prog 224 [.lst 1 (l.map Rf.n7),.v (.int .i64 v)] (.one (.v (.bool (a9C l v)))):=by
 refine Ctr.of (n:=9) G Tryz.func224 Z a8 Z Z Z (λw0=>?_)
 refine zcl (a2u _ _ a1O) ?_
 refine zf1 ?_
 all_goals (simp only [a9C];rw [a3R])
theorem a2v (l:List Int) (v:Int) (hn:l.length<=1048576):Ctr Tryz.prog 141 [.lst 1 (l.map Rf.n7),.v (.int .i64 v)] (.one (.v (.bool (a9C l v)))):=by
 refine Ctr.of (n:=18) G Tryz.func141 Z a8 Z Z Z (λw0=>?_)
 refine zgo ?_
 refine e6 [0,1] [] (λ(i:Nat)=>[(5,.v (.int .i64 (i:Int)))]) (λ(i:Nat)=>[]) (λ(i:Nat)=>i<=l.length/\∀j,j < i→decide (v=l.getD j default)=false) (λ(i:Nat)=>l.length - i) 0 Z Z ?_ ?_ ?_ ?_
 ·exact E5
 ·exact u6
 ·exact trivial
 intro i hinv
 refine vm4 ?_
 refine zcd (λh1=>?_) (λh1=>?_)
 ·refine zcd (λh2=>?_) (λh2=>?_)
  ·refine zf1 ?_
   all_goals exact c2M
  exact c8i
 refine zf1 ?_
 all_goals exact c2M
end Go.Proofs.YtpfhomblkgmkkaaGreatDoor
