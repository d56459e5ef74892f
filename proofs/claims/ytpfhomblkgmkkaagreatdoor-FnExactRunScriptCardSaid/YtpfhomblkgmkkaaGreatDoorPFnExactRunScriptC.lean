/- Texts merged into one: M5, M9, M13, M14, W7. -/
import Derived.Test.YtpfhomblkgmkkaaGreatDoorPFnExactRunScriptB
set_option maxHeartbeats 4000000
set_option linter.unusedSimpArgs false
set_option linter.unusedVariables false
set_option maxRecDepth 20000
namespace Go.Proofs.YtpfhomblkgmkkaaGreatDoor
open Go Go.Rf
theorem a0D (q:Que) (hF:QF q):Ctr Tryz.prog 285 [.agg [.lst 3 (q.sl.map e9),.lst 2 (q.wa.map f7)]] (.shp true [some 2] [.fr 169 3 ((a1L q).sl.map e9),.fr 182 2 ((a1L q).wa.map f7) true]):=by
 have hq4:=hF.sl.len
 have hqw:=hF.wn
 refine Ctr.of (n:=47) G Tryz.func285 Z a8 Z Z Z (λw0=>?_)
 refine j5 0 Z (λ_=>Z) (λu0=>?_)
 refine N0 ?_
 refine n9 ?_
 refine c8 4 Z Z Z (ArgsOK.of Z) (a8h q J J) Z Z ?_
 refine vm5 ?_
 refine d8 G 5 Z Z Z Z Z ?_
 refine zgo ?_
 refine d9 [2,3] [1,4] (λ(x:Que)=>[]) (λ(x:Que)=>[(2,some (.row 169 3 (x.sl.map e9))),(3,some (.row 182 2 (x.wa.map f7) true))]) (λ(x:Que)=>QF x/\a1L x=a1L q) (λ(x:Que)=>phi x) q Z Z ?_ ?_ ?_ ?_
 ·exact ⟨hF,Z⟩
 ·exact trivial
 ·exact b7e
 intro x hinv
 have hFx:=hinv.1
 have hl4:=hFx.sl.len
 have hwn:=hFx.wn
 have hf:=@b7Z x.sl
 have hb:=@a0X x.sl false
 refine vm4 ?_
 refine zcl (a1R x J J hFx.sl.difS) ?_
 refine zcd (λh1=>?_) (λh1=>?_)
 ·obtain ⟨hw0,hbb⟩:=b5r hFx h1
  have hnx:=b1b hFx h1
  obtain ⟨hF2,hphi⟩:=b09 hFx h1
  refine zgn ?_
  refine r4 (p6 (j7 10 [1,2,3,4] mixed a8 Z Z (λr0=>?_) (λ_ h=>h)))
  refine zsa 0 ?_
  refine zsa 1 ?_
  first | refine d4 2 Z a8 a8 Z Z Z Z (b9 G Z Z Z Z Z J J) ?_ | refine d4 2 Z a8 a8 Z Z Z Z (b9 G Z Z Z Z Z J B1) ?_
  first | refine d4 3 Z a8 a8 Z Z Z Z (d7 G Z Z Z Z (a1r J) Z) ?_ | refine d4 3 Z a8 a8 Z Z Z Z (d7 G Z Z Z Z (V9 J J) Z) ?_ | refine d4 3 Z a8 a8 Z Z Z Z (d7 G Z Z Z Z (x7 J J) Z) ?_ | refine d4 3 Z a8 a8 Z Z Z Z (d7 G Z Z Z Z (x7 J B1) Z) ?_
  refine zsa 4 ?_
  refine zsa 5 ?_
  refine x5 (N:=6) Z (r7 (fuel:=3) [⟨7,4,5,true,.box (avR [.int .i64 0,.int .i64 0] [])⟩] (AllVOK.cons (VOK.boxS G Z Z Z Z Z) (AllVOK.nil)) (λhok=>?_))
  refine m5 [(6,[])] a8 a8 (λe he=>hok e he) a8 (AllVS.cons ?_ AllVS.nil)
  refine VStep.mk0 [1,2,3,4] Z Z (λb1 _ hbn=>b5 Z Z (f9 Z (ArgsOK.of Z) (a05 x.sl J) Z) (b6 Z)) a8 a8 a8 a8 (m5 [(8,[7])] a8 a8 (λe he=>hok e he) a8 (AllVS.cons ?_ AllVS.nil))
  refine VStep.mk1 [1,2,3,4] 4 (.ptr 5 0) 5 (.box (avR [.int .i64 0,.int .i64 0] [])) [] Z Z Z Z Z (λb1 _ hbn=>m4 G Z Z Z Z Z Z Z Z Z Z Z (b6 Z)) a8 a8 a8 a8 (D0 ?_)
  clear hok
  refine zsa 9 ?_
  refine H4 ?_
  refine n9 ?_
  refine c0y G 7 Z Z Z Z Z Z Z Z s6 s6 ?_
  refine zcd (λh2=>?_) (λh2=>?_)
  ·refine zcl (N1 x.sl false J hFx.sl.difS) ?_
   refine zgo ?_
   apply x8 [2,3,4,5] [1,2,4,5,7] 8 11 [1,2,5,6] mixed a8 Z Z (λ_ h=>znk h)
   ·intro r0
    refine zsa 0 ?_
    refine zsa 2 ?_
    refine zsa 4 ?_
    refine b7 (rs:=[1,3]) a8 Z (AllB.cons ?_ (AllB.cons ?_ AllB.nil))
    ·refine f8 [1,2,5,6] Z Z ?_
     refine J5 ?_
     refine b7 (rs:=[3]) a8 Z (AllB.cons ?_ AllB.nil)
     refine c7v ?_
     exact c33
    refine c7v ?_
    refine b7 (rs:=[1,7]) a8 Z (AllB.cons ?_ (AllB.cons ?_ AllB.nil))
    ·refine f8 [1,2,5,6] Z Z ?_
     refine J5 ?_
     exact c33
    refine f8 [1,2,5,6] Z Z (b5 Z Z (f9 Z (ArgsOK.of Z) (z7 _) Z) (b6 ⟨Z,?_⟩))
    refine b7 (rs:=[1]) a8 Z (AllB.cons ?_ AllB.nil)
    refine f8 [1,2,5,6] Z Z ?_
    refine J5 ?_
    exact c3A
   refine B4 (Gh.tl (id:=7) Z) ?_
   refine c7y ?_
   refine G7 (Gh.sub 7 3 np Z Z Z) (b6 ⟨(stQ x),?_,?_,trivial,⟨⟨_,Z,by (first | rfl | (rw [p7 (q:=x) J];exact congrArg (λz=>Row.row _ _ z) (a2M (f:=e9) (x:=⟨1,_,_⟩))) | (rw [s2 (q:=x) J];exact congrArg (λz=>Row.row _ _ z) (a2M (f:=e9) (x:=⟨1,_,_⟩))) | (rw [p7 (q:=x) J];exact congrArg (λz=>Row.row _ _ z true) (List.map_drop).symm) | (rw [s2 (q:=x) J];done) | (rw [s2 (q:=x) J];rfl) | (rw [p7 (q:=x) J];done) | (rw [p7 (q:=x) J];rfl) | (rw [p7 (q:=x) J];exact congrArg (λz=>Row.row _ _ z true) X9)| (rw [s2 (q:=x) J];exact congrArg (λz=>Row.row _ _ z true) X9))⟩,Z,Z,⟨⟨_,Z,by (first | rfl | (rw [p7 (q:=x) J];exact congrArg (λz=>Row.row _ _ z) (a2M (f:=e9) (x:=⟨1,_,_⟩))) | (rw [s2 (q:=x) J];exact congrArg (λz=>Row.row _ _ z) (a2M (f:=e9) (x:=⟨1,_,_⟩))) | (rw [p7 (q:=x) J];exact congrArg (λz=>Row.row _ _ z true) (List.map_drop).symm) | (rw [s2 (q:=x) J];done) | (rw [s2 (q:=x) J];rfl) | (rw [p7 (q:=x) J];done) | (rw [p7 (q:=x) J];rfl) | (rw [p7 (q:=x) J];exact congrArg (λz=>Row.row _ _ z true) X9)| (rw [s2 (q:=x) J];exact congrArg (λz=>Row.row _ _ z true) X9))⟩,Z,Z,trivial⟩⟩,Z,Z,Z⟩)
   ·exact ⟨hF2,hnx▸hinv.2⟩
   exact hphi
  refine zgn ?_
  refine B4 (Gh.tl (id:=6) Z) ?_
  refine c7y ?_
  refine G7 (Gh.sub 6 3 np Z Z Z) (b6 ⟨(stQ x),?_,?_,trivial,⟨⟨_,Z,by (first | rfl | (rw [p7 (q:=x) J];exact congrArg (λz=>Row.row _ _ z) (a2M (f:=e9) (x:=⟨1,_,_⟩))) | (rw [s2 (q:=x) J];exact congrArg (λz=>Row.row _ _ z) (a2M (f:=e9) (x:=⟨1,_,_⟩))) | (rw [p7 (q:=x) J];exact congrArg (λz=>Row.row _ _ z true) (List.map_drop).symm) | (rw [s2 (q:=x) J];done) | (rw [s2 (q:=x) J];rfl) | (rw [p7 (q:=x) J];done) | (rw [p7 (q:=x) J];rfl) | (rw [p7 (q:=x) J];exact congrArg (λz=>Row.row _ _ z true) X9)| (rw [s2 (q:=x) J];exact congrArg (λz=>Row.row _ _ z true) X9))⟩,Z,Z,⟨⟨_,Z,by (first | rfl | (rw [p7 (q:=x) J];exact congrArg (λz=>Row.row _ _ z) (a2M (f:=e9) (x:=⟨1,_,_⟩))) | (rw [s2 (q:=x) J];exact congrArg (λz=>Row.row _ _ z) (a2M (f:=e9) (x:=⟨1,_,_⟩))) | (rw [p7 (q:=x) J];exact congrArg (λz=>Row.row _ _ z true) (List.map_drop).symm) | (rw [s2 (q:=x) J];done) | (rw [s2 (q:=x) J];rfl) | (rw [p7 (q:=x) J];done) | (rw [p7 (q:=x) J];rfl) | (rw [p7 (q:=x) J];exact congrArg (λz=>Row.row _ _ z true) X9)| (rw [s2 (q:=x) J];exact congrArg (λz=>Row.row _ _ z true) X9))⟩,Z,Z,trivial⟩⟩,Z,Z,Z⟩)
  ·exact ⟨hF2,hnx▸hinv.2⟩
  exact hphi
 have hd:=b1c h1
 refine zgo ?_
 refine e6 (m8 Z Z Z Z (b4 (d6 Z ?_) (b4 (d6 Z ?_) f6)))
 all_goals ((rw [← hinv.2,hd];done))
theorem a6u (q:Que) (hl:q.sl.length<=1048576) (hw:q.wa.length<=1048576):Ctr Tryz.prog 137 [.agg [.lst 3 (q.sl.map e9),.lst 2 (q.wa.map f7)]] (.shp true [some 2] [.fr 169 3 (q.sl.map e9),.fr 182 2 (q.wa.map f7)]):=by
 refine Ctr.of (n:=12) G Tryz.func137 Z a8 Z Z Z (λw0=>?_)
 exact c7Q
theorem a3B (a b:Int):Ctr Tryz.prog 243 [.v (.int .i64 a),.v (.int .i64 b)] (.one (.v (.int .i64 (min a b)))):=by
 refine Ctr.of (n:=10) G Tryz.func243 Z a8 Z Z Z (λw0=>?_)
 refine zcd (λh1=>?_) (λh1=>?_)
 ·refine zf1 ?_
  all_goals (simp_all;omega)
 refine zf1 ?_
 all_goals (simp_all;omega)
theorem a8i (sl:List Slot) (lim:Int) (hF:SlF sl):Ctr Tryz.prog 283 [.lst 3 (sl.map e9),.v (.int .i64 lim)] (.many [.fr 169 3 ((tkT sl lim).1.map e9),.v (.int .i64 (tkT sl lim).2.1),.v (.bool (tkT sl lim).2.2)]):=by
 have hl4:=hF.len
 have hb:=@a0X sl true
 have hf:=@a2o sl
 refine Ctr.of (n:=33) G Tryz.func283 Z a8 Z Z Z (λw0=>?_)
 refine zcl (N1 sl true J hF.difS) ?_
 refine zcd (λh1=>?_) (λh1=>?_)
 ·refine zwt ?_
  exact c22
 refine zcd (λh2=>?_) (λh2=>?_)
 ·exact c22
 refine a6q ?_
 refine zgn ?_
 refine zgn ?_
 refine p6 (j7 9 [0] mixed a8 Z Z (λr0=>?_) (λ_ h=>h))
 refine zsa 0 ?_
 refine zsa 1 ?_
 refine zsa 2 ?_
 refine zsa 4 ?_
 refine zsa 5 ?_
 refine b7 (rs:=[3]) a8 Z (AllB.cons ?_ AllB.nil)
 refine f8 [0] Z Z (c8 2 Z Z Z (ArgsOK.of Z) (Y6 sl _ ⟨_,_,_⟩ J J) Z Z (b6 ⟨Z,?_⟩))
 refine zsa 6 ?_
 refine zsa 7 ?_
 refine zsa 8 ?_
 refine H4 ?_
 refine e6 (p8 Z Z Z Z (b4 (d6 Z ?_) (b4 (l3 ?_) (b4 (l3 ?_) f6))))
 all_goals exact c2s
theorem b0z (sl:List Slot) (lim:Int) (hF:SlF sl) (hk:a2p sl lim=true):Ctr Tryz.prog 293 [.lst 3 (sl.map e9),.v (.int .i64 lim)] (.many [.fr 169 3 ((tkS sl).map e9),.v (.int .i64 (tkI sl))]):=by
 have hl4:=hF.len
 have hb:=@a0X sl true
 have hf:=@a2o sl
 have hkk:=X2.mp hk
 refine Ctr.of (n:=33) G Tryz.func293 Z a8 Z Z Z (λw0=>?_)
 refine zcl (a2G sl J) ?_
 refine zcd (λh1=>?_) (λh1=>?_)
 ·exfalso;omega
 refine zcd (λh2=>?_) (λh2=>?_)
 ·exfalso;omega
 refine a6q ?_
 refine zgn ?_
 refine zgn ?_
 refine p6 (j7 8 [0] mixed a8 Z Z (λr0=>?_) (λ_ h=>h))
 refine zsa 0 ?_
 refine zsa 1 ?_
 refine zsa 2 ?_
 refine zsa 4 ?_
 refine zsa 5 ?_
 refine b7 (rs:=[3]) a8 Z (AllB.cons ?_ AllB.nil)
 refine f8 [0] Z Z (c8 2 Z Z Z (ArgsOK.of Z) (E8 sl _ ⟨_,_,_⟩ J J) Z Z (b6 ⟨Z,?_⟩))
 refine zsa 6 ?_
 refine zsa 7 ?_
 refine H4 ?_
 refine e6 (p8 Z Z Z Z (b4 (d6 Z ?_) (b4 (l3 ?_) f6)))
 all_goals (rfl)
theorem b0A (sl:List Slot) (irq p:Int) (hF:SlF sl) (h0:0<=r9 sl irq):Ctr Tryz.prog 310 [.lst 3 (sl.map e9),.v (.int .i64 irq),.v (.int .i64 p)] (.many [.fr 169 3 ((ptS sl irq).map e9),.v (.bool true)]):=by
 have hl4:=hF.len
 have hf:=@a2o sl irq
 refine Ctr.of (n:=38) G Tryz.func310 Z a8 Z Z Z (λw0=>?_)
 refine zcl (B8 sl irq J) ?_
 refine zcd (λh1=>?_) (λh1=>?_)
 ·refine a6q ?_
  refine zcd (λh2=>?_) (λh2=>?_)
  ·exact c3M
  exact c3M
 exfalso;omega
theorem b2M (sl:List Slot) (irq p:Int) (hF:SlF sl) (h0:0<=r9 sl irq):Ctr Tryz.prog 315 [.lst 3 (sl.map e9),.v (.int .i64 irq),.v (.int .i64 p)] (.many [.fr 169 3 ((ptS sl irq).map e9),.v (.bool true)]):=by
 have hl4:=hF.len
 have hf:=@a2o sl irq
 refine Ctr.of (n:=39) G Tryz.func315 Z a8 Z Z Z (λw0=>?_)
 refine zcl (E7 sl irq J) ?_
 refine zcd (λh1=>?_) (λh1=>?_)
 ·refine a6q ?_
  refine zcd (λh2=>?_) (λh2=>?_)
  ·exact c3N
  exact c3N
 exfalso;omega
theorem R9 (q:Que) (hl:q.sl.length<=1048576) (hw:q.wa.length<=1048576):Ctr Tryz.prog 166 [.agg [.lst 3 (q.sl.map e9),.lst 2 (q.wa.map f7)]] (.shp true [some 2] [.fr 169 3 (q.sl.map e9),.fr 182 2 (q.wa.map f7)]):=by
 exact c3Q
theorem a8j (q:Que) (irq p:Int) (hF:QF q) (hi:0<=irq/\irq<=7) (hp:0<=p/\p<=15):Ctr Tryz.prog 282 [.agg [.lst 3 (q.sl.map e9),.lst 2 (q.wa.map f7)],.v (.int .i64 irq),.v (.int .i64 p)] (.shp true [some 2] [.fr 169 3 ((a3j q irq p).sl.map e9),.fr 182 2 ((a3j q irq p).wa.map f7) true]):=by
 have hl4:=hF.sl.len
 have hwn:=hF.wn
 have hQ:=(b4F (irq:=irq) (p:=p) hF hi hp).1
 refine Ctr.of (n:=40) G Tryz.func282 Z a8 Z Z Z (λw0=>?_)
 refine j5 0 Z (λ_=>Z) (λu0=>?_)
 refine N0 ?_
 refine n9 ?_
 refine c8 4 Z Z Z (ArgsOK.of Z) (R9 q J J) Z Z ?_
 refine vm5 ?_
 refine d8 G 5 Z Z Z Z Z ?_
 refine zcl (B8 q.sl irq J) ?_
 refine zcd (λh1=>?_) (λh1=>?_)
 ·have ho:=b8t (p:=p) h1
  rw [ho] at hQ
  refine n9 ?_
  refine c8 6 Z Z Z (ArgsOK.of Z) (b0A q.sl irq p hF.sl h1) Z Z ?_
  exact c3P
 refine zcl (a0G q.wa irq J) ?_
 refine zcd (λh2=>?_) (λh2=>?_)
 ·have ho:=b8u (p:=p) h1 h2
  rw [ho] at hQ
  refine n9 ?_
  refine c8 6 Z Z Z (ArgsOK.of Z) (a02 q.wa ⟨irq,p⟩ J) Z Z ?_
  exact c3P
 have ho:=b8v (p:=p) h1 h2
 rw [ho] at hQ
 refine n9 ?_
 refine c8 7 Z Z Z (ArgsOK.of Z) (a0D _ hQ) Z Z ?_
 refine zgo ?_
 exact c54
theorem F9 (q:Que) (hF:QF q):Ctr Tryz.prog 295 [.agg [.lst 3 (q.sl.map e9),.lst 2 (q.wa.map f7)]] (.shp true [some 2] [.fr 169 3 ((a1L q).sl.map e9),.fr 182 2 ((a1L q).wa.map f7)]):=by
 have hq4:=hF.sl.len
 have hqw:=hF.wn
 refine Ctr.of (n:=56) G Tryz.func295 Z a8 Z Z Z (λw0=>?_)
 refine j5 0 Z (λ_=>Z) (λu0=>?_)
 refine N0 ?_
 refine n9 ?_
 refine c8 4 Z Z Z (ArgsOK.of Z) (a6u q J J) Z Z ?_
 refine vm5 ?_
 refine d8 G 5 Z Z Z Z Z ?_
 refine zgo ?_
 refine d9 [2,3] [1,4] (λ(x:Que)=>[]) (λ(x:Que)=>[(2,some (.row 169 3 (x.sl.map e9))),(3,some (.row 182 2 (x.wa.map f7)))]) (λ(x:Que)=>QF x/\a1L x=a1L q) (λ(x:Que)=>phi x) q Z Z ?_ ?_ ?_ ?_
 ·exact ⟨hF,Z⟩
 ·exact trivial
 ·exact b7e
 intro x hinv
 have hFx:=hinv.1
 have hl4:=hFx.sl.len
 have hwn:=hFx.wn
 have hf:=@b7Z x.sl
 have hb:=@a0X x.sl false
 refine vm4 ?_
 refine zcl (a1S x J J) ?_
 refine zcd (λh1=>?_) (λh1=>?_)
 ·obtain ⟨hw0,hbb⟩:=b5r hFx h1
  have hnx:=b1b hFx h1
  obtain ⟨hF2,hphi⟩:=b09 hFx h1
  refine n9 ?_
  first | refine b5 Z Z (b9 G Z Z Z Z Z J J) ?_ | refine b5 Z Z (b9 G Z Z Z Z Z J B1) ?_
  refine vm5 ?_
  first | refine b5 Z Z (d7 G Z Z Z Z (a1r J) Z) ?_ | refine b5 Z Z (d7 G Z Z Z Z (V9 J J) Z) ?_ | refine b5 Z Z (d7 G Z Z Z Z (x7 J J) Z) ?_ | refine b5 Z Z (d7 G Z Z Z Z (x7 J B1) Z) ?_
  refine vm5 ?_
  refine d8 G 6 Z Z Z Z Z ?_
  refine n9 ?_
  refine s4 G 7 Z Z Z Z Z Z Z Z ?_
  refine n9 ?_
  refine c5R ?_
  refine vm5 ?_
  refine a88 G np Z Z Z Z Z Z Z (ArgOK.sub Z s6) Z B1 Z Z ?_
  refine zgn ?_
  refine c0k (id:=6) ((x.wa.drop 1).map f7) Z X9 ?_
  refine zcl (a4y x.sl J) ?_
  refine zcd (λh2=>?_) (λh2=>?_)
  ·refine zcl (a2H x.sl J) ?_
   refine zgn ?_
   refine j7 16 [1,2,3,4,5,6] mixed a8 Z Z (λr0=>?_) (λ_ h=>h)
   refine a0C ?_
   first | refine d4 4 Z a8 a8 Z Z Z Z (b9 G Z Z Z Z Z J J) ?_ | refine d4 4 Z a8 a8 Z Z Z Z (b9 G Z Z Z Z Z J B1) ?_
   refine d4 5 Z a8 a8 Z Z Z Z (V7 G Z Z Z Z) ?_
   first | refine d4 6 Z a8 a8 Z Z Z Z (i7 G Z Z Z Z Z (a1r J) Z) ?_ | refine d4 6 Z a8 a8 Z Z Z Z (i7 G Z Z Z Z Z (V9 J J) Z) ?_ | refine d4 6 Z a8 a8 Z Z Z Z (i7 G Z Z Z Z Z (x7 J J) Z) ?_ | refine d4 6 Z a8 a8 Z Z Z Z (i7 G Z Z Z Z Z (x7 J B1) Z) ?_
   refine zsa 7 ?_
   refine zsa 8 ?_
   refine zsa 9 ?_
   first | refine d4 10 Z a8 a8 Z Z Z Z (b9 G Z Z Z Z Z J J) ?_ | refine d4 10 Z a8 a8 Z Z Z Z (b9 G Z Z Z Z Z J B1) ?_
   refine d4 11 Z a8 a8 Z Z Z Z (V7 G Z Z Z Z) ?_
   first | refine d4 12 Z a8 a8 Z Z Z Z (i7 G Z Z Z Z Z (a1r J) Z) ?_ | refine d4 12 Z a8 a8 Z Z Z Z (i7 G Z Z Z Z Z (V9 J J) Z) ?_ | refine d4 12 Z a8 a8 Z Z Z Z (i7 G Z Z Z Z Z (x7 J J) Z) ?_ | refine d4 12 Z a8 a8 Z Z Z Z (i7 G Z Z Z Z Z (x7 J B1) Z) ?_
   refine zsa 13 ?_
   refine b7 (rs:=[14]) a8 Z (AllB.cons ?_ AllB.nil)
   refine f8 [1,2,3,4,5,6] Z Z (c8 8 Z Z Z (ArgsOK.of Z) (a1l (x.wa.drop 1) ⟨_,_⟩ (by rw [List.length_drop];omega)) Z Z (b6 ⟨Z,?_⟩))
   refine zsa 15 ?_
   refine H4 ?_
   refine n9 ?_
   refine c8 9 Z Z Z (ArgsOK.of Z) (E8 x.sl _ ⟨1,_,_⟩ J J) Z Z ?_
   iterate 3 refine zst ?_
   refine G7 (Gh.sub 8 2 np Z Z Z) (G7 (Gh.sub 7 3 np Z Z Z) (b6 ⟨(stQ x),?_,?_,trivial,⟨⟨_,Z,by (first | rfl | (rw [p7 (q:=x) J];exact congrArg (λz=>Row.row _ _ z) (a2M (f:=e9) (x:=⟨1,_,_⟩))) | (rw [s2 (q:=x) J];exact congrArg (λz=>Row.row _ _ z) (a2M (f:=e9) (x:=⟨1,_,_⟩))) | (rw [p7 (q:=x) J];exact congrArg (λz=>Row.row _ _ z) (List.map_drop).symm) | (rw [s2 (q:=x) J];done) | (rw [s2 (q:=x) J];rfl) | (rw [p7 (q:=x) J];done) | (rw [p7 (q:=x) J];rfl) | (rw [p7 (q:=x) J];exact congrArg (λz=>Row.row _ _ z) X9)| (rw [s2 (q:=x) J];exact congrArg (λz=>Row.row _ _ z) X9))⟩,Z,Z,⟨⟨_,Z,by (first | rfl | (rw [p7 (q:=x) J];exact congrArg (λz=>Row.row _ _ z) (a2M (f:=e9) (x:=⟨1,_,_⟩))) | (rw [s2 (q:=x) J];exact congrArg (λz=>Row.row _ _ z) (a2M (f:=e9) (x:=⟨1,_,_⟩))) | (rw [p7 (q:=x) J];exact congrArg (λz=>Row.row _ _ z) (List.map_drop).symm) | (rw [s2 (q:=x) J];done) | (rw [s2 (q:=x) J];rfl) | (rw [p7 (q:=x) J];done) | (rw [p7 (q:=x) J];rfl) | (rw [p7 (q:=x) J];exact congrArg (λz=>Row.row _ _ z) X9)| (rw [s2 (q:=x) J];exact congrArg (λz=>Row.row _ _ z) X9))⟩,Z,Z,trivial⟩⟩,Z,Z,Z⟩))
   ·exact ⟨hF2,hnx▸hinv.2⟩
   exact hphi
  refine n9 ?_
  refine c8 8 Z Z Z (ArgsOK.of Z) (E8 x.sl _ ⟨1,_,_⟩ J J) Z Z ?_
  iterate 3 refine zst ?_
  refine G7 (Gh.sub 7 2 np Z Z Z) (G7 (Gh.sub 6 3 np Z Z Z) (b6 ⟨(stQ x),?_,?_,trivial,⟨⟨_,Z,by (first | rfl | (rw [p7 (q:=x) J];exact congrArg (λz=>Row.row _ _ z) (a2M (f:=e9) (x:=⟨1,_,_⟩))) | (rw [s2 (q:=x) J];exact congrArg (λz=>Row.row _ _ z) (a2M (f:=e9) (x:=⟨1,_,_⟩))) | (rw [p7 (q:=x) J];exact congrArg (λz=>Row.row _ _ z) (List.map_drop).symm) | (rw [s2 (q:=x) J];done) | (rw [s2 (q:=x) J];rfl) | (rw [p7 (q:=x) J];done) | (rw [p7 (q:=x) J];rfl) | (rw [p7 (q:=x) J];exact congrArg (λz=>Row.row _ _ z) X9)| (rw [s2 (q:=x) J];exact congrArg (λz=>Row.row _ _ z) X9))⟩,Z,Z,⟨⟨_,Z,by (first | rfl | (rw [p7 (q:=x) J];exact congrArg (λz=>Row.row _ _ z) (a2M (f:=e9) (x:=⟨1,_,_⟩))) | (rw [s2 (q:=x) J];exact congrArg (λz=>Row.row _ _ z) (a2M (f:=e9) (x:=⟨1,_,_⟩))) | (rw [p7 (q:=x) J];exact congrArg (λz=>Row.row _ _ z) (List.map_drop).symm) | (rw [s2 (q:=x) J];done) | (rw [s2 (q:=x) J];rfl) | (rw [p7 (q:=x) J];done) | (rw [p7 (q:=x) J];rfl) | (rw [p7 (q:=x) J];exact congrArg (λz=>Row.row _ _ z) X9)| (rw [s2 (q:=x) J];exact congrArg (λz=>Row.row _ _ z) X9))⟩,Z,Z,trivial⟩⟩,Z,Z,Z⟩))
  ·exact ⟨hF2,hnx▸hinv.2⟩
  exact hphi
 have hd:=b1c h1
 refine zgo ?_
 refine e6 (m8 Z Z Z Z (b4 (d6 Z ?_) (b4 (d6 Z ?_) f6)))
 all_goals ((rw [← hinv.2,hd];done))
theorem a9Z (q:Que) (irq p:Int) (hF:QF q) (hi:0<=irq/\irq<=7) (hp:0<=p/\p<=15):Ctr Tryz.prog 292 [.agg [.lst 3 (q.sl.map e9),.lst 2 (q.wa.map f7)],.v (.int .i64 irq),.v (.int .i64 p)] (.shp true [some 2] [.fr 169 3 ((a3j q irq p).sl.map e9),.fr 182 2 ((a3j q irq p).wa.map f7)]):=by
 have hl4:=hF.sl.len
 have hwn:=hF.wn
 have hQ:=(b4F (irq:=irq) (p:=p) hF hi hp).1
 refine Ctr.of (n:=44) G Tryz.func292 Z a8 Z Z Z (λw0=>?_)
 refine j5 0 Z (λ_=>Z) (λu0=>?_)
 refine d3 (λK1 hK1=>?_)
 refine b3W ?_
 refine b0t ?_
 refine b6 (hK1 _ ?_)
 clear hK1 K1
 refine d3 (λK2 hK2=>?_)
 refine d3 (λK3 hK3=>?_)
 refine b9v ?_
 refine b5 Z Z (f9 Z (ArgsOK.of Z) (E7 q.sl irq J) Z) ?_
 refine vm5 ?_
 refine b5 Z Z (B3 Z Z Z Z) (b6 (hK3 _ ?_))
 clear hK3 K3
 refine m6 Z (λh1=>?_) (λh1=>?_)
 ·try rw [h1]
  try simp only [rfb] at h1
  have ho:=b8t (p:=p) h1
  rw [ho] at hQ
  refine d3 (λK4 hK4=>?_)
  refine b9v ?_
  refine b5 Z Z (c7 Z Z) ?_
  refine vm5 ?_
  refine c8 3 Z Z Z (ArgsOK.of Z) (b2M q.sl irq p hF.sl h1) Z Z ?_
  refine vm5 ?_
  refine c5P ?_
  refine hK4 _ ?_
  clear hK4 K4
  refine d3 (λK5 hK5=>?_)
  refine c5O ?_
  refine c8 5 Z Z Z (ArgsOK.of Z) (F9 _ hQ) Z Z ?_
  refine c1r ?_
  refine b6 (hK5 _ ?_)
  clear hK5 K5
  refine e6 (m8 Z Z Z Z (b4 (d6 Z ?_) (b4 (d6 Z ?_) f6)))
  all_goals clear hK2 K2
  all_goals exact c5H
 ·try rw [h1]
  try simp only [rfb] at h1
  refine s3 (hK2 _ ?_)
  clear hK2 K2
  refine d3 (λK6 hK6=>?_)
  refine d3 (λK7 hK7=>?_)
  refine b9v ?_
  refine b5 Z Z (f9 Z (ArgsOK.of Z) (b2L q.wa irq J) Z) ?_
  refine vm5 ?_
  refine b5 Z Z (B3 Z Z Z Z) (b6 (hK7 _ ?_))
  clear hK7 K7
  refine m6 Z (λh2=>?_) (λh2=>?_)
  ·try rw [h2]
   try simp only [rfb] at h2
   have ho:=b8v (p:=p) h1 h2
   rw [ho] at hQ
   refine d3 (λK8 hK8=>?_)
   refine b8 ?_
   refine vm5 ?_
   refine b5 Z Z (i6 G Z Z Z Z Z Z) ?_
   refine vm5 ?_
   refine c8 4 Z Z Z (ArgsOK.of Z) (F9 _ hQ) Z Z ?_
   refine c1r ?_
   refine b6 (hK8 _ ?_)
   clear hK8 K8
   refine e6 (m8 Z Z Z Z (b4 (d6 Z ?_) (b4 (d6 Z ?_) f6)))
   all_goals clear hK6 K6
   all_goals exact c5H
  ·try rw [h2]
   try simp only [rfb] at h2
   have ho:=b8u (p:=p) h1 h2
   rw [ho] at hQ
   refine s3 (hK6 _ ?_)
   clear hK6 K6
   refine d3 (λK9 hK9=>?_)
   refine j7 11 [0] mixed a8 Z Z (λr0=>?_) (λ_ h=>h)
   refine d4 0 Z a8 a8 Z Z Z Z (m9 G Z Z Z Z) (d4 1 Z a8 a8 Z Z Z Z (o7 G Z Z Z Z Z Z Z) (d4 2 Z a8 a8 Z Z Z Z (m9 G Z Z Z Z) (d4 3 Z a8 a8 Z Z Z Z (a5M (o7 G Z Z Z Z Z Z Z)) (d4 4 Z a8 a8 Z Z Z Z (c7 Z Z) (d4 5 Z a8 a8 Z Z Z Z (c7 Z Z) (d4 6 Z a8 a8 Z Z Z Z (w5 G Z Z Z Z) ?_))))))
   refine b7 (rs:=[7]) a8 Z (AllB.cons ?_ AllB.nil)
   refine g8 [0] Z Z (c8 3 Z Z Z (ArgsOK.of Z) (a1l q.wa ⟨irq,p⟩ J) Z Z (b6 ⟨Z,?_⟩))
   refine b7 (rs:=[8]) a8 Z (AllB.cons ?_ AllB.nil)
   refine g8 [0] Z Z (b5 Z Z (w5 G Z Z Z Z) (b6 ⟨Z,?_⟩))
   refine b7 (rs:=[9]) a8 Z (AllB.cons ?_ AllB.nil)
   refine g8 [0] Z Z (c8 5 Z Z Z (ArgsOK.of Z) (F9 _ hQ) Z Z (b6 ⟨Z,?_⟩))
   refine b7 (rs:=[10]) a8 Z (AllB.cons ?_ AllB.nil)
   refine g8 [0] Z Z (m4 G Z Z Z Z Z Z Z Z Z Z Z (b6 ⟨Z,?_⟩))
   refine C4 a8 (hK9 _ ?_)
   clear hK9 K9
   exact c54
theorem a7g (q:Que) (lim:Int) (hF:QF q):Ctr Tryz.prog 226 [.agg [.lst 3 (q.sl.map e9),.lst 2 (q.wa.map f7)],.v (.int .i64 lim)] (.shp false [some 2,none,none] [.fr 169 3 ((b2g q lim).1.sl.map e9),.fr 182 2 ((b2g q lim).1.wa.map f7),.v (.int .i64 (b2g q lim).2.1),.v (.bool (b2g q lim).2.2)]):=by
 have hl4:=hF.sl.len
 have hwn:=hF.wn
 refine Ctr.of (n:=28) G Tryz.func226 Z a8 Z Z Z (λw0=>?_)
 refine j5 0 Z (λ_=>Z) (λu0=>?_)
 refine N0 ?_
 refine n9 ?_
 refine c8 3 Z Z Z (ArgsOK.of Z) (a8i q.sl lim hF.sl) Z Z ?_
 refine zcd (λh1=>?_) (λh1=>?_)
 ·rw [c1W] at h1
  have ht:=b8w (q:=q) h1
  refine zgo ?_
  refine e6 (m8 Z Z Z Z (b4 (I5 ?_) (b4 (I5 ?_) (b4 (l3 ?_) (b4 (l3 ?_) f6)))))
  all_goals exact c2G
 rw [c1W] at h1
 have ht:=b4G (q:=q) h1
 have ht2:=b5m (sl:=q.sl) h1
 refine n9 ?_
 refine c8 5 Z Z Z (ArgsOK.of Z) (R9 q J J) Z Z ?_
 refine vm5 ?_
 refine d8 G 6 Z Z Z Z Z ?_
 refine zgo ?_
 refine e6 (m8 Z Z Z Z (b4 (d6 Z ?_) (b4 (d6 Z ?_) (b4 (l3 ?_) (b4 (l3 ?_) f6)))))
 all_goals exact c2G
theorem b0B (q:Que) (lim:Int) (hF:QF q) (hk:a2p q.sl lim=true):Ctr Tryz.prog 242 [.agg [.lst 3 (q.sl.map e9),.lst 2 (q.wa.map f7)],.v (.int .i64 lim)] (.shp false [some 2,none] [.fr 169 3 ((b2c q).sl.map e9),.fr 182 2 ((b2c q).wa.map f7),.v (.int .i64 (tkI q.sl))]):=by
 have hl4:=hF.sl.len
 have hwn:=hF.wn
 have htl:(tkS q.sl).length=4:=by unfold tkS;rw [List.length_set];exact hl4
 refine Ctr.of (n:=24) G Tryz.func242 Z a8 Z Z Z (λw0=>?_)
 refine j5 0 Z (λ_=>Z) (λu0=>?_)
 refine N0 ?_
 refine n9 ?_
 refine c8 3 Z Z Z (ArgsOK.of Z) (b0z q.sl lim hF.sl hk) Z Z ?_
 refine zgn ?_
 refine p6 (j7 11 [0,2] mixed a8 Z Z (λr0=>?_) (λ_ h=>h))
 refine zsa 1 ?_
 refine zsa 4 ?_
 refine zsa 5 ?_
 refine zsa 8 ?_
 refine x5 (N:=5) Z (r7 (fuel:=5) [⟨0,15,3,false,.row 169 3 []⟩,⟨3,18,4,false,.row 182 2 []⟩] (AllVOK.cons (VOK.lit G Z Z Z Z Z) (AllVOK.cons (VOK.lit G Z Z Z Z Z) (AllVOK.nil))) (λhok=>?_))
 refine m5 [(2,[0])] a8 a8 (λe he=>hok e he) a8 (AllVS.cons ?_ AllVS.nil)
 refine VStep.mk1 [0,2] 15 (.own 3) 3 (.row 169 3 []) [⟨3,18,4,false,.row 182 2 []⟩] Z Z Z Z Z (λb1 _ hbn=>j3 G O8 Z Z Z Z Z Z Z Z Z B1 Z Z (b6 Z)) a8 a8 a8 a8 (m5 [(6,[3])] a8 a8 (λe he=>hok e (vin (is:=[0]) Z he)) a8 (AllVS.cons ?_ AllVS.nil))
 refine VStep.mk1 [0,2] 18 (.own 4) 4 (.row 182 2 []) [] Z Z Z Z Z (λb1 _ hbn=>j3 G O8 Z Z Z Z Z Z Z Z Z B1 Z Z (b6 Z)) a8 a8 a8 a8 (D0 ?_)
 clear hok
 refine b7 (rs:=[7]) a8 Z (AllB.cons ?_ AllB.nil)
 refine f8 [0,2] Z Z ?_
 refine J5 ?_
 refine b7 (rs:=[9]) a8 Z (AllB.cons ?_ AllB.nil)
 refine f8 [0,2] Z Z ?_
 refine J5 ?_
 refine zsa 10 ?_
 refine H4 ?_
 refine e6 (m8 Z Z Z Z (b4 (d6 Z ?_) (b4 (d6 Z ?_) (b4 (l3 ?_) f6))))
 all_goals (first | rfl | simp | (simp [b2c];done))
theorem S0 (sl:List Slot) (irq:Int) (hl:sl.length<=1048576) (h0:0<=r9 sl irq):Ctr Tryz.prog 161 [.lst 3 (sl.map e9),.v (.int .i64 irq)] (.one (.v (.int .i64 (lvl sl irq)))):=by
 have hf:=@a2o sl irq
 refine Ctr.of (n:=12) G Tryz.func161 Z a8 Z Z Z (λw0=>?_)
 refine zcl (B8 sl irq hl) ?_
 exact a9U
theorem Y7 (q:Que) (irq:Int) (hl:q.sl.length<=1048576) (h0:0<=r9 q.sl irq):Ctr Tryz.prog 142 [.agg [.lst 3 (q.sl.map e9),.lst 2 (q.wa.map f7)],.v (.int .i64 irq)] (.one (.v (.int .i64 (lvl q.sl irq)))):=by
 have hf:=@a2o q.sl irq
 refine Ctr.of (n:=14) G Tryz.func142 Z a8 Z Z Z (λw0=>?_)
 refine j5 0 Z (λ_=>Z) (λu0=>?_)
 refine vm3 ?_
 refine zgd ?_
 refine zcl (E7 q.sl irq hl) ?_
 exact a9U
theorem a2x (x:Ifc) (hF:IfF x):Ctr Tryz.prog 227 [.agg [.v (.int .i64 x.ma),.lst 1 (x.st.map Rf.n8),.lst 3 (x.qu.sl.map e9),.lst 2 (x.qu.wa.map f7)]] (.one (.v (.int .i64 (b0r x)))):=by
 have hl4:=hF.qu.sl.len
 have hwn:=hF.qu.wn
 have hsn:=hF.sn
 refine Ctr.of (n:=19) G Tryz.func227 Z a8 Z Z Z (λw0=>?_)
 refine j5 0 Z (λ_=>Z) (λu0=>?_)
 refine p6 ?_
 refine b3W ?_
 refine zgn ?_
 refine zgn ?_
 refine m6 Z (λh1=>?_) (λh1=>?_)
 ·try rw [h1]
  try simp only [rfb] at h1
  exact c1F
 try rw [h1]
 try simp only [rfb] at h1
 have htn:((x.st.length:Int) - 1).toNat=x.st.length - 1:=J
 have htp:=hF.top (show x.st.length - 1 < x.st.length by omega)
 refine zgn ?_
 refine b67 ?_
 iterate 8 refine zst ?_
 refine j4 Z ?_
 refine c1o ?_
 refine j4 Z (r5 Z Z (f9 Z (ArgsOK.of Z) (S0 x.qu.sl _ J (by first | assumption | (rw [htn];assumption))) Z) ?_)
 exact c1F
theorem a06 (x:Ifc) (hF:IfF x):Ctr Tryz.prog 244 [.agg [.v (.int .i64 x.ma),.lst 1 (x.st.map Rf.n8),.lst 3 (x.qu.sl.map e9),.lst 2 (x.qu.wa.map f7)]] (.one (.v (.int .i64 (b0r x)))):=by
 have hl4:=hF.qu.sl.len
 have hwn:=hF.qu.wn
 have hsn:=hF.sn
 refine Ctr.of (n:=18) G Tryz.func244 Z a8 Z Z Z (λw0=>?_)
 refine j5 0 Z (λ_=>Z) (λu0=>?_)
 refine p6 ?_
 refine b3W ?_
 refine zgn ?_
 refine zgn ?_
 refine zgn ?_
 refine m6 Z (λh1=>?_) (λh1=>?_)
 ·try rw [h1]
  try simp only [rfb] at h1
  have htn:((x.st.length:Int) - 1).toNat=x.st.length - 1:=J
  have htp:=hF.top (show x.st.length - 1 < x.st.length by omega)
  refine b67 ?_
  iterate 5 refine zst ?_
  refine j4 Z ?_
  refine c1o ?_
  refine j4 Z (r5 Z Z (f9 Z (ArgsOK.of Z) (Y7 x.qu _ J (by first | assumption | (rw [htn];assumption))) Z) ?_)
  exact c1F
 try rw [h1]
 try simp only [rfb] at h1
 refine zgn ?_
 exact c1F
theorem A2 (x:Ifc) (hn:x.st.length<=1048576) (hl:x.qu.sl.length<=1048576) (hw:x.qu.wa.length<=1048576):Ctr Tryz.prog 107 [.agg [.v (.int .i64 x.ma),.lst 1 (x.st.map Rf.n8),.lst 3 (x.qu.sl.map e9),.lst 2 (x.qu.wa.map f7)]] (.shp true [some 4] [.v (.int .i64 x.ma),.fr 3 1 (x.st.map Rf.n8),.fr 169 3 (x.qu.sl.map e9),.fr 182 2 (x.qu.wa.map f7)]):=by
 refine Ctr.of (n:=12) G Tryz.func107 Z a8 Z Z Z (λw0=>?_)
 refine j5 0 Z (λ_=>Z) (λu0=>?_)
 refine N0 ?_
 refine zgn ?_
 refine p6 (j7 10 [0] mixed a8 Z Z (λr0=>?_) (λ_ h=>h))
 refine a0C ?_
 refine zsa 5 ?_
 refine zsa 6 ?_
 refine b7 (rs:=[4]) a8 Z (AllB.cons ?_ AllB.nil)
 refine f8 [0] Z Z (c8 3 Z Z Z (ArgsOK.of Z) (z8 x.st hn) Z Z (b6 ⟨Z,?_⟩))
 refine b7 (rs:=[7]) a8 Z (AllB.cons ?_ AllB.nil)
 refine f8 [0] Z Z (c8 5 Z Z Z (ArgsOK.of Z) (R9 x.qu hl hw) Z Z (b6 ⟨Z,?_⟩))
 exact c3E
theorem a8k (x:Ifc) (irq p:Int) (hF:IfF x) (hi:0<=irq/\irq<=7) (hp:0<=p/\p<=15):Ctr Tryz.prog 225 [.agg [.v (.int .i64 x.ma),.lst 1 (x.st.map Rf.n8),.lst 3 (x.qu.sl.map e9),.lst 2 (x.qu.wa.map f7)],.v (.int .i64 irq),.v (.int .i64 p)] (.shp true [some 4] [.v (.int .i64 x.ma),.fr 3 1 (x.st.map Rf.n8),.fr 169 3 ((a3j x.qu irq p).sl.map e9),.fr 182 2 ((a3j x.qu irq p).wa.map f7) true]):=by
 have hl4:=hF.qu.sl.len
 have hwn:=hF.qu.wn
 have hsn:=hF.sn
 refine Ctr.of (n:=17) G Tryz.func225 Z a8 Z Z Z (λw0=>?_)
 refine j5 0 Z (λ_=>Z) (λu0=>?_)
 refine N0 ?_
 refine n9 ?_
 refine c8 5 Z Z Z (ArgsOK.of Z) (A2 x J J J) Z Z ?_
 refine vm5 ?_
 refine d8 G 6 Z Z Z Z Z ?_
 refine n9 ?_
 refine c8 8 Z Z Z (ArgsOK.of Z) (a8j x.qu irq p hF.qu hi hp) Z Z ?_
 refine zgo ?_
 exact c50
theorem a8l (x:Ifc) (irq p:Int) (hF:IfF x) (hi:0<=irq/\irq<=7) (hp:0<=p/\p<=15):Ctr Tryz.prog 241 [.agg [.v (.int .i64 x.ma),.lst 1 (x.st.map Rf.n8),.lst 3 (x.qu.sl.map e9),.lst 2 (x.qu.wa.map f7)],.v (.int .i64 irq),.v (.int .i64 p)] (.shp true [some 4] [.v (.int .i64 x.ma),.fr 3 1 (x.st.map Rf.n8),.fr 169 3 ((a3j x.qu irq p).sl.map e9),.fr 182 2 ((a3j x.qu irq p).wa.map f7)]):=by
 have hl4:=hF.qu.sl.len
 have hwn:=hF.qu.wn
 have hsn:=hF.sn
 refine Ctr.of (n:=18) G Tryz.func241 Z a8 Z Z Z (λw0=>?_)
 refine j5 0 Z (λ_=>Z) (λu0=>?_)
 refine N0 ?_
 refine zgn ?_
 refine p6 (j7 12 [0] mixed a8 Z Z (λr0=>?_) (λ_ h=>h))
 refine a0C ?_
 refine zsa 5 ?_
 refine zsa 6 ?_
 refine zsa 7 ?_
 refine zsa 8 ?_
 refine b7 (rs:=[4]) a8 Z (AllB.cons ?_ AllB.nil)
 refine f8 [0] Z Z (c8 3 Z Z Z (ArgsOK.of Z) (E1 x.st J) Z Z (b6 ⟨Z,?_⟩))
 refine b7 (rs:=[9]) a8 Z (AllB.cons ?_ AllB.nil)
 refine f8 [0] Z Z (c8 5 Z Z Z (ArgsOK.of Z) (a9Z x.qu irq p hF.qu hi hp) Z Z (b6 ⟨Z,?_⟩))
 refine b7 (rs:=[10]) a8 Z (AllB.cons ?_ AllB.nil)
 refine b2G ?_
 refine b7 (rs:=[11]) a8 Z (AllB.cons ?_ AllB.nil)
 exact c3D
theorem a90 (x:Ifc) (hF:IfF x):Ctr Tryz.prog 177 [.agg [.v (.int .i64 x.ma),.lst 1 (x.st.map Rf.n8),.lst 3 (x.qu.sl.map e9),.lst 2 (x.qu.wa.map f7)]] (.shp false [some 4,none,none] [.v (.int .i64 (R1 x).1.ma),.fr 3 1 ((R1 x).1.st.map Rf.n8),.fr 169 3 ((R1 x).1.qu.sl.map e9),.fr 182 2 ((R1 x).1.qu.wa.map f7),.v (.int .i64 (R1 x).2.1),.v (.bool (R1 x).2.2)]):=by
 have hl4:=hF.qu.sl.len
 have hwn:=hF.qu.wn
 have hsn:=hF.sn
 refine Ctr.of (n:=34) G Tryz.func177 Z a8 Z Z Z (λw0=>?_)
 refine j5 0 Z (λ_=>Z) (λu0=>?_)
 refine N0 ?_
 refine zgn ?_
 refine p6 (j7 16 [0,1] mixed a8 Z Z (λr0=>?_) (λ_ h=>h))
 refine a0C ?_
 refine zsa 4 ?_
 refine x5 (N:=3) Z (r7 (fuel:=10) [⟨12,5,2,true,.box (avR [.slice none 0 0,.slice none 0 0] [])⟩] (AllVOK.cons (VOK.boxS G Z Z Z Z Z) (AllVOK.nil)) (λhok=>?_))
 refine m5 [(5,[])] a8 a8 (λe he=>hok e he) a8 (AllVS.cons ?_ AllVS.nil)
 refine VStep.mk0 [0,1] Z Z (λb1 _ hbn=>b5 Z Z (f9 Z (ArgsOK.of Z) (a2x x hF) Z) (b6 Z)) a8 a8 a8 a8 (s8 6 Z a8 Z Z Z Z (b7q Z Z Z) a8 a8 a8 (m5 [(7,[])] a8 a8 (λe he=>hok e he) a8 (AllVS.cons ?_ AllVS.nil)))
 refine VStep.mk0 [0,1] Z Z (λb1 _ hbn=>c8 5 Z Z Z (ArgsOK.of Z) (a7g x.qu (c0P x) hF.qu) Z Z (b6 Z)) a8 a8 a8 a8 (s8 8 Z a8 Z Z Z Z (c7 Z Z) a8 a8 a8 (s8 9 Z a8 Z Z Z Z (j8 Z Z Z) a8 a8 a8 (s8 10 Z a8 Z Z Z Z (j8 Z Z Z) a8 a8 a8 (s8 11 Z a8 Z Z Z Z (j8 Z Z Z) a8 a8 a8 (m5 [(13,[12])] a8 a8 (λe he=>hok e he) a8 (AllVS.cons ?_ AllVS.nil))))))
 refine c7F ?_
 clear hok
 refine zsa 14 ?_
 refine zsa 15 ?_
 refine H4 ?_
 refine zcd (λh1=>?_) (λh1=>?_)
 ·rw [b8x] at h1
  have ht:=b5x (x:=x) h1
  refine zgo ?_
  refine e6 (m8 Z Z Z Z (b4 (l3 ?_) (b4 (I5 ?_) (b4 (I5 ?_) (b4 (I5 ?_) (b4 (l3 ?_) (b4 (l3 ?_) f6)))))))
  all_goals exact c2H
 rw [b8x] at h1
 have ht:=b5w (x:=x) h1
 have ht2:=b4G h1
 refine zgo ?_
 apply x8 [2,3,4] [1,3,4,5] 7 14 [0,2,3,4] mixed a8 Z Z (λ_ h=>znk h)
 ·intro r0
  refine a0C ?_
  refine zsa 5 ?_
  refine zsa 8 ?_
  refine zsa 10 ?_
  refine b7 (rs:=[4,6]) a8 Z (AllB.cons ?_ (AllB.cons ?_ AllB.nil))
  ·refine f8 [0,2,3,4] Z Z (c8 6 Z Z Z (ArgsOK.of Z) (z8 x.st J) Z Z (b6 ⟨Z,?_⟩))
   refine b7 (rs:=[6]) a8 Z (AllB.cons ?_ AllB.nil)
   refine f8 [0,2,3,4] Z Z (s4 G 7 Z Z Z Z Z Z Z Z (b6 ⟨Z,?_⟩))
   refine b7 (rs:=[7]) a8 Z (AllB.cons ?_ AllB.nil)
   refine f8 [0,2,3,4] Z Z (j3 G a0B Z Z Z Z Z Z Z Z Z R2 Z Z (b6 ⟨Z,?_⟩))
   refine b7 (rs:=[9]) a8 Z (AllB.cons ?_ AllB.nil)
   refine b3Z ?_
   refine b7 (rs:=[11]) a8 Z (AllB.cons ?_ AllB.nil)
   refine b3Z ?_
   refine zsa 12 ?_
   refine zsa 13 ?_
   exact a4u
  refine f8 [0,2,3,4] Z Z (s4 G 6 Z Z Z Z Z Z Z Z (b6 ⟨Z,?_⟩))
  refine b7 (rs:=[4]) a8 Z (AllB.cons ?_ AllB.nil)
  refine f8 [0,2,3,4] Z Z (c8 7 Z Z Z (ArgsOK.of Z) (z8 x.st J) Z Z (b6 ⟨Z,?_⟩))
  refine b7 (rs:=[7]) a8 Z (AllB.cons ?_ AllB.nil)
  refine f8 [0,2,3,4] Z Z (j3 G a0B Z Z Z Z Z Z Z Z Z R2 Z Z (b6 ⟨Z,?_⟩))
  refine b7 (rs:=[9]) a8 Z (AllB.cons ?_ AllB.nil)
  refine b3Z ?_
  refine b7 (rs:=[11]) a8 Z (AllB.cons ?_ AllB.nil)
  refine b3Z ?_
  refine zsa 12 ?_
  refine zsa 13 ?_
  refine a3a (Gh.sub 6 5 a0B Z Z Z) ?_
  exact a4u
 refine e6 (m8 Z Z Z Z (b4 (l3 ?_) (b4 (d6 Z ?_) (b4 (d6 Z ?_) (b4 (d6 Z ?_) (b4 (l3 ?_) (b4 (l3 ?_) f6)))))))
 all_goals exact c2H
theorem a91 (x:Ifc) (hF:IfF x) (hk:okT x=true):Ctr Tryz.prog 196 [.agg [.v (.int .i64 x.ma),.lst 1 (x.st.map Rf.n8),.lst 3 (x.qu.sl.map e9),.lst 2 (x.qu.wa.map f7)]] (.shp false [some 4,none] [.v (.int .i64 (a4U x).ma),.fr 3 1 ((a4U x).st.map Rf.n8),.fr 169 3 ((a4U x).qu.sl.map e9),.fr 182 2 ((a4U x).qu.wa.map f7),.v (.int .i64 (tkI x.qu.sl))]):=by
 have hl4:=hF.qu.sl.len
 have hwn:=hF.qu.wn
 have hsn:=hF.sn
 have hkk:=X2.mp hk
 have htb:=b8y hF.qu.sl hkk.1
 refine Ctr.of (n:=35) G Tryz.func196 Z a8 Z Z Z (λw0=>?_)
 refine j5 0 Z (λ_=>Z) (λu0=>?_)
 refine N0 ?_
 refine zgn ?_
 refine p6 (j7 14 [0,1] mixed a8 Z Z (λr0=>?_) (λ_ h=>h))
 refine a0C ?_
 refine zsa 4 ?_
 refine x5 (N:=3) Z (r7 (fuel:=8) [⟨11,4,2,true,.box (avR [.slice none 0 0,.slice none 0 0] [])⟩] (AllVOK.cons (VOK.boxS G Z Z Z Z Z) (AllVOK.nil)) (λhok=>?_))
 refine m5 [(5,[])] a8 a8 (λe he=>hok e he) a8 (AllVS.cons ?_ AllVS.nil)
 refine VStep.mk0 [0,1] Z Z (λb1 _ hbn=>b5 Z Z (f9 Z (ArgsOK.of Z) (a06 x hF) Z) (b6 Z)) a8 a8 a8 a8 (m5 [(6,[])] a8 a8 (λe he=>hok e he) a8 (AllVS.cons ?_ AllVS.nil))
 refine VStep.mk0 [0,1] Z Z (λb1 _ hbn=>b5 Z Z (f9 Z (ArgsOK.of Z) (a3B _ _) Z) (b6 Z)) a8 a8 a8 a8 (m5 [(7,[])] a8 a8 (λe he=>hok e he) a8 (AllVS.cons ?_ AllVS.nil))
 refine VStep.mk0 [0,1] Z Z (λb1 _ hbn=>c8 5 Z Z Z (ArgsOK.of Z) (b0B x.qu (c0P x) hF.qu hk) Z Z (b6 Z)) a8 a8 a8 a8 (s8 8 Z a8 Z Z Z Z (c7 Z Z) a8 a8 a8 (s8 9 Z a8 Z Z Z Z (j8 Z Z Z) a8 a8 a8 (s8 10 Z a8 Z Z Z Z (j8 Z Z Z) a8 a8 a8 (m5 [(12,[11])] a8 a8 (λe he=>hok e he) a8 (AllVS.cons ?_ AllVS.nil)))))
 refine c7G ?_
 clear hok
 refine zsa 13 ?_
 refine H4 ?_
 refine p6 (j7 9 [0,1,2,3,4] mixed a8 Z Z (λr0=>?_) (λ_ h=>h))
 refine a0C ?_
 refine zsa 5 ?_
 refine x5 (N:=6) Z (r7 (fuel:=3) [⟨7,6,5,true,.box (avR [.int .i64 0,.slice none 0 0,.slice none 0 0,.slice none 0 0] [])⟩] (AllVOK.cons (VOK.boxS G Z Z Z Z Z) (AllVOK.nil)) (λhok=>?_))
 refine m5 [(4,[])] a8 a8 (λe he=>hok e he) a8 (AllVS.cons ?_ AllVS.nil)
 refine VStep.mk0 [0,1,2,3,4] Z Z (λb1 _ hbn=>c8 7 Z Z Z (ArgsOK.of Z) (E1 x.st J) Z Z (b6 Z)) a8 a8 a8 a8 (m5 [(6,[])] a8 a8 (λe he=>hok e he) a8 (AllVS.cons ?_ AllVS.nil))
 refine VStep.mk0 [0,1,2,3,4] Z Z (λb1 _ hbn=>b5 Z Z (w5 G Z Z Z Z) (b6 Z)) a8 a8 a8 a8 (m5 [(8,[7])] a8 a8 (λe he=>hok e he) a8 (AllVS.cons ?_ AllVS.nil))
 refine c7D ?_
 clear hok
 refine H4 ?_
 refine zcd (λh1=>?_) (λh1=>?_)
 ·refine n9 ?_
  refine s4 G 8 Z Z Z Z Z Z Z Z ?_
  refine vm5 ?_
  refine Z3 (Gh.forget (id:=5) (k:=1) Z Z)<|Z3 (Gh.keep [0,1,2,3,4,5,6,7] Z)<|j3 G np rfl rfl rfl rfl rfl rfl rfl rfl rfl R2 rfl rfl ?_
  refine zgo ?_
  refine e6 (m8 Z Z Z Z (b4 (l3 ?_) (b4 (d6 Z ?_) (b4 (d6 Z ?_) (b4 (d6 Z ?_) (b4 (l3 ?_) f6))))))
  all_goals (first | rfl | (simp [a4U,Rf.n8];done))
 exfalso;omega
theorem N2 (q:Que) (hF:QF q):Ctr Tryz.prog 115 [.agg [.lst 3 (q.sl.map e9),.lst 2 (q.wa.map f7)]] (.one (.fr 3 1 ((A6 q).map Rf.n8))):=by
 have hl4:=hF.sl.len
 have hwn:=hF.wn8
 have cS:=E4 (pnL q 4) (b5y hF 4 (Nat.le_refl _)) (by have:=@b2h q 4;omega)
 rw [b4H hF] at cS
 refine Ctr.of (n:=50) G Tryz.func115 Z a8 Z Z Z (λw0=>?_)
 refine j5 0 Z (λ_=>Z) (λu0=>?_)
 refine vm3 ?_
 refine n9 ?_
 refine b3Y ?_
 refine zgo ?_
 refine vm6 ?_
 refine vm5 ?_
 refine b9y ?_
 refine zgo ?_
 refine d9 [4,15,16] [2] (λ(i:Nat)=>[(3,.own 1),(17,.v (.int .i64 (i:Int)))]) (λ(i:Nat)=>[(1,some (.row 182 2 ((pnL q i).map f7)))]) (λ(i:Nat)=>i<=4) (λ(i:Nat)=>4 - i) 0 Z Z ?_ ?_ ?_ ?_
 ·exact C7
 ·exact a0e
 ·exact a1k
 intro i hi
 have hpl:=@b2h q i
 refine vm4 ?_
 refine zcd (λh1=>?_) (λh1=>?_)
 ·refine n9 ?_
  refine d8 G 4 Z Z Z Z Z ?_
  refine zcd (λh2=>?_) (λh2=>?_)
  ·refine zwt ?_
   exact c3F
  refine zcd (λh3=>?_) (λh3=>?_)
  ·exact c3F
  exact c77
 obtain rfl:i=4:=J
 refine n9 ?_
 refine A1 3 [1] Z Z Z cS Z (RowsIn.cons Z RowsIn.nil) Z Z Z ?_
 refine zgo ?_
 refine d9 [37,38] [1] (λ(i:Nat)=>[(4,.own 2),(39,.v (.int .i64 (i:Int)))]) (λ(i:Nat)=>[(2,some (.row 3 1 (((A6 q).take i).map Rf.n8)))]) (λ(i:Nat)=>i<=(pnS q 4).length) (λ(i:Nat)=>(pnS q 4).length - i) 0 Z Z ?_ ?_ ?_ ?_
 ·exact C7
 ·exact a0e
 ·exact a1k
 intro i hi
 have hpl:=@a58 q 4
 refine vm4 ?_
 refine zcd (λh4=>?_) (λh4=>?_)
 ·refine vm7 ?_
  refine b5 Z Z (d7 G Z Z Z Z (x7 J B1) Z) ?_
  refine vm5 ?_
  refine d8 G 4 Z Z Z Z Z ?_
  refine n9 ?_
  refine s4 G 5 Z Z Z Z Z Z Z Z ?_
  refine vm6 ?_
  exact c3b
 refine zfo ?_
 all_goals (first | rfl | (rw [b5A J]))
theorem V0 (q:Que) (hF:QF q):Ctr Tryz.prog 143 [.agg [.lst 3 (q.sl.map e9),.lst 2 (q.wa.map f7)]] (.one (.fr 3 1 ((A6 q).map Rf.n8))):=by
 have hl4:=hF.sl.len
 have hwn:=hF.wn8
 refine Ctr.of (n:=55) G Tryz.func143 Z a8 Z Z Z (λw0=>?_)
 refine j5 0 Z (λ_=>Z) (λu0=>?_)
 refine vm3 ?_
 refine n9 ?_
 refine b3Y ?_
 refine zgo ?_
 refine vm6 ?_
 refine zgo ?_
 refine d9 [1] [0] (λ(i:Nat)=>[(3,.own 1),(4,.v (.int .i64 (i:Int)))]) (λ(i:Nat)=>[(1,some (.row 182 2 ((pnS q i).map f7)))]) (λ(i:Nat)=>i<=4) (λ(i:Nat)=>4 - i) 0 Z Z ?_ ?_ ?_ ?_
 ·exact C7
 ·exact a0e
 ·exact a1k
 intro i hi
 have hpl:=@a58 q i
 refine vm4 ?_
 refine zcd (λh1=>?_) (λh1=>?_)
 ·refine zgo ?_
  refine a7e ?_
  refine zcd (λh2=>?_) (λh2=>?_)
  ·refine zwt ?_
   exact c8a
  refine zcd (λh3=>?_) (λh3=>?_)
  ·exact c8a
  refine zgo ?_
  refine ⟨(i+1),?_,?_,⟨⟨_,Z,by rfl⟩,Z,⟨⟨_,Z,by rfl⟩,Z,trivial⟩⟩,⟨⟨_,Z,by (first | (rw [b1h J,List.map_append];rfl) | (rw [b1h J];done) | (rw [b1h J];rfl) | (rw [c1Z J];done))⟩,Z,Z,trivial⟩,Z,Z,Z⟩
  ·omega
  omega
 obtain rfl:i=4:=J
 refine n9 ?_
 refine b9y ?_
 refine zgo ?_
 refine d9 [3] [1] (λ(i:Nat)=>[(6,.own 2),(7,.v (.int .i64 (i:Int)))]) (λ(i:Nat)=>[(2,some (.row 3 1 (((A6 q).take i).map Rf.n8)))]) (λ(i:Nat)=>i<=(pnS q 4).length) (λ(i:Nat)=>(pnS q 4).length - i) 0 Z Z ?_ ?_ ?_ ?_
 ·exact C7
 ·exact a0e
 ·exact a1k
 intro i hi
 have hpl:=@a58 q 4
 refine vm4 ?_
 refine zcd (λh4=>?_) (λh4=>?_)
 ·refine vm7 ?_
  refine b9x ?_
  refine vm5 ?_
  refine c5T ?_
  refine vm5 ?_
  refine s4 G 4 Z Z Z Z Z Z Z Z ?_
  refine vm6 ?_
  exact c3b
 refine zfo ?_
 all_goals (first | rfl | (rw [b5A J]))
theorem a2y (l r:List Int) (hl:l.length<=1048576) (hr:r.length<=1048576):Ctr Tryz.prog 159 [.lst 1 (l.map Rf.n8),.lst 1 (r.map Rf.n8)] (.one (.v (.bool (decide (l=r))))):=by
 refine Ctr.of (n:=26) G Tryz.func159 Z a8 Z Z Z (λw0=>?_)
 refine zcd (λh1=>?_) (λh1=>?_)
 ·exact c3d
 refine zgo ?_
 refine d9 [0,1,12] [] (λ(i:Nat)=>[(13,.v (.int .i64 (i:Int)))]) (λ(i:Nat)=>[]) (λ(i:Nat)=>i<=l.length/\∀j,j < i→l.getD j default=r.getD j default) (λ(i:Nat)=>l.length - i) 0 Z Z ?_ ?_ ?_ ?_
 ·exact D9
 ·exact u3
 ·exact trivial
 intro i hinv
 refine vm4 ?_
 refine zcd (λh2=>?_) (λh2=>?_)
 ·refine zgd ?_
  refine zcd (λh3=>?_) (λh3=>?_)
  ·exact c3d
  exact b30
 refine zf1 ?_
 all_goals exact c2x
theorem a2I (x:Slot):Ctr Tryz.prog 205 [.v (a2D x)] (.one (.v (.bool (a0b x)))):=by
 refine Ctr.of (n:=11) G Tryz.func205 Z a8 Z Z Z (λw0=>?_)
 refine vm3 ?_
 refine zcd (λh1=>?_) (λh1=>?_)
 ·exact c3t
 exact c3t
theorem a6v (sl:List Slot) (hF:SlF sl):Ctr Tryz.prog 160 [.lst 3 (sl.map e9)] (.one (.fr 3 1 ((srtI (actN sl 4)).map Rf.n8))):=by
 have hl4:=hF.len
 refine Ctr.of (n:=24) G Tryz.func160 Z a8 Z Z Z (λw0=>?_)
 refine b3X ?_
 refine zgo ?_
 refine d9 [7,8] [] (λ(i:Nat)=>[(3,.own 0),(9,.v (.int .i64 (i:Int)))]) (λ(i:Nat)=>[(0,some (.row 3 1 ((actN sl i).map Rf.n8)))]) (λ(i:Nat)=>i<=4) (λ(i:Nat)=>4 - i) 0 Z Z ?_ ?_ ?_ ?_
 ·exact C7
 ·exact a0e
 ·exact a1k
 intro i hi
 have hpl:=@X4 sl i
 refine vm4 ?_
 refine zcd (λh1=>?_) (λh1=>?_)
 ·refine zgo ?_
  refine b0t ?_
  refine zcl (a2I _) ?_
  refine zcd (λh2=>?_) (λh2=>?_)
  ·refine n9 ?_
   refine b9y ?_
   refine vm6 ?_
   exact c8k
  exact c8k
 obtain rfl:i=4:=J
 refine n9 ?_
 refine A1 1 [0] Z Z Z (S6 (actN sl 4) (by have:=@X4 sl 4;omega)) Z (RowsIn.cons Z RowsIn.nil) Z Z Z ?_
 refine zfo ?_
 all_goals (rfl)
theorem b2J (l:List Int) (n:Int) (hl:l.length<=1048576) (hne:∀x∈l,x≠n):Ctr Tryz.prog 191 [.lst 1 (l.map Rf.n8),.v (.int .i64 n)] (.one (.fr 3 1 ((b2j l n).map Rf.n8))):=by
 refine Ctr.of (n:=45) G Tryz.func191 Z a8 Z Z Z (λw0=>?_)
 refine zgo ?_
 refine d9 [0,1] [] (λ(k:Nat)=>[(5,.v (.int .i64 (k:Int)))]) (λ(k:Nat)=>[]) (λ(k:Nat)=>k<=l.length/\∀j,j < k→l.getD j default < n) (λ(k:Nat)=>l.length - k) 0 Z Z ?_ ?_ ?_ ?_
 ·exact D9
 ·exact u3
 ·exact trivial
 intro k hk
 refine vm4 ?_
 refine zcd (λh1=>?_) (λh1=>?_)
 ·refine zcd (λh2=>?_) (λh2=>?_)
  ·refine zgo ?_
   refine ⟨(k+1),?_,?_,⟨⟨_,Z,by rfl⟩,Z,trivial⟩,trivial,Z,Z,Z⟩
   ·exact ⟨by omega,n7 hk.2 i1⟩
   omega
  refine zcd (λh3=>?_) (λh3=>?_)
  ·refine zcd (λh4=>?_) (λh4=>?_)
   ·exact c3q
   exact b9U
  refine zwf ?_
  exact b9U
 refine zwf ?_
 refine zcd (λh5=>?_) (λh5=>?_)
 ·refine zcd (λh6=>?_) (λh6=>?_)
  ·exact c3q
  exact b9U
 refine zwf ?_
 refine zgo ?_
 apply x8 [4] [0] 2 13 [] mixed a8 Z Z (λ_ h=>znk h)
 ·exact ws4
 refine zfo ?_
 all_goals exact c2z
theorem a8m (sl:List Slot) (hF:SlF sl):Ctr Tryz.prog 140 [.lst 3 (sl.map e9)] (.one (.fr 3 1 ((a66 sl 4).map Rf.n8))):=by
 have hl4:=hF.len
 refine Ctr.of (n:=34) G Tryz.func140 Z a8 Z Z Z (λw0=>?_)
 refine b3X ?_
 refine zgo ?_
 refine d9 [0] [] (λ(i:Nat)=>[(3,.own 0),(4,.v (.int .i64 (i:Int)))]) (λ(i:Nat)=>[(0,some (.row 3 1 ((a66 sl i).map Rf.n8)))]) (λ(i:Nat)=>i<=4) (λ(i:Nat)=>4 - i) 0 Z Z ?_ ?_ ?_ ?_
 ·exact C7
 ·exact a0e
 ·exact a1k
 intro i hi
 refine vm4 ?_
 refine zcd (λh1=>?_) (λh1=>?_)
 ·refine zcd (λh2=>?_) (λh2=>?_)
  ·refine zwt ?_
   exact c79
  refine zcd (λh3=>?_) (λh3=>?_)
  ·exact c79
  refine zgo ?_
  refine ⟨(i+1),?_,?_,⟨⟨_,Z,by rfl⟩,Z,⟨⟨_,Z,by rfl⟩,Z,trivial⟩⟩,⟨⟨_,Z,by (first | (rw [b8G J];done) | (rw [b8H J];done))⟩,Z,Z,trivial⟩,Z,Z,Z⟩
  ·omega
  omega
 obtain rfl:i=4:=J
 refine zfo ?_
 all_goals (rfl)
theorem a44 (x:Ifc) (hn:x.st.length<=1048576) (hl:x.qu.sl.length<=1048576) (hw:x.qu.wa.length<=1048576):Ctr Tryz.prog 105 [.agg [.v (.int .i64 x.ma),.lst 1 (x.st.map Rf.n8),.lst 3 (x.qu.sl.map e9),.lst 2 (x.qu.wa.map f7)]] (.one (.v (.bool (a3n x)))):=by
 refine Ctr.of (n:=54) G Tryz.func105 Z a8 Z Z Z (λw0=>?_)
 refine j5 0 Z (λ_=>Z) (λu0=>?_)
 refine p6 ?_
 refine b3W ?_
 refine zgn ?_
 refine p6 ?_
 refine a0d ?_
 refine P0 ?_
 refine vm5 ?_
 refine b5 Z Z (f9 Z (ArgsOK.of Z) (a4x x.ma) Z) ?_
 refine P0 ?_
 refine A3 Z Z Z (λh1=>?_) (λh1=>?_)
 ·try rw [h1]
  try simp only [rfb] at h1
  refine zgn ?_
  refine J9 Z ?_
  exact c1z
 try rw [h1]
 try simp only [rfb] at h1
 refine P0 ?_
 refine a1j ?_
 refine b5 Z Z (f9 Z (ArgsOK.of Z) (a9Y x.qu hl hw) Z) ?_
 refine zgn ?_
 refine m6 Z (λh2=>?_) (λh2=>?_)
 ·try rw [h2]
  try simp only [rfb] at h2
  exact c1z
 try rw [h2]
 try simp only [rfb] at h2
 have hq:=a9F.mp h2
 have hSl:=hq.1.sl
 have hl4:=hSl.len
 refine zgn ?_
 refine a0d ?_
 refine P0 ?_
 refine vm5 ?_
 refine c8 2 Z Z Z (ArgsOK.of Z) (z8 x.st hn) Z Z ?_
 refine zgn ?_
 refine a0d ?_
 refine zst ?_
 refine vm5 ?_
 refine A1 2 [1] Z Z Z (S6 x.st hn) Z (RowsIn.cons Z RowsIn.nil) Z Z Z ?_
 refine zgn ?_
 refine p6 ?_
 refine a0d ?_
 iterate 4 refine zst ?_
 refine vm5 ?_
 refine c8 3 Z Z Z (ArgsOK.of Z) (a6v x.qu.sl hSl) Z Z ?_
 refine vm5 ?_
 refine b5 Z Z (f9 Z (ArgsOK.of Z) (a2y (srtI x.st) (srtI (actN x.qu.sl 4)) (by rw [R0];exact hn) (by rw [R0];have:=@X4 x.qu.sl 4;omega)) Z) ?_
 refine zgn ?_
 refine m6 Z (λh3=>?_) (λh3=>?_)
 ·try rw [h3]
  try simp only [rfb] at h3
  exact c1z
 try rw [h3]
 try simp only [rfb] at h3
 have hin:=λj (hj:j < x.st.length)=>b4I (b4J h3 (p4.mpr ⟨j,hj,Z⟩)) hl4
 refine zgn ?_
 refine zgn ?_
 refine r4 (d9 [1] [0] (λ(i:Nat)=>[(4,.v (.int .i64 (i:Int)))]) (λ(i:Nat)=>[]) (λ(i:Nat)=>1<=i/\∀j,j < i→lvD x.qu.sl x.st j=true) (λ(i:Nat)=>x.st.length - i) 1 Z Z ?_ ?_ ?_ ?_)
 ·exact ⟨Nat.le_refl _,λj hj=>by obtain rfl:j=0:=J;exact c10⟩
 ·exact u3
 ·exact trivial
 intro i hinv
 have hti:0 < i→((i:Int) - 1).toNat=i - 1:=λ_=>J
 refine vm4 ?_
 refine zgn ?_
 refine m6 Z (λh4=>?_) (λh4=>?_)
 ·try rw [h4]
  try simp only [rfb] at h4
  have hi1:=hin i J
  have hi2:=hin (i - 1) J
  refine a6r ?_
  refine b67 ?_
  iterate 8 refine zst ?_
  refine j4 Z (r5 Z Z (f9 Z (ArgsOK.of Z) (S0 x.qu.sl _ hl hi1) Z) ?_)
  iterate 6 refine zst ?_
  refine j4 Z ?_
  refine c1o ?_
  refine j4 Z (r5 Z Z (f9 Z (ArgsOK.of Z) (S0 x.qu.sl _ hl (by rw [hti J];exact hi2)) Z) ?_)
  refine zgn ?_
  refine m6 Z (λh5=>?_) (λh5=>?_)
  ·try rw [h5]
   try simp only [rfb] at h5
   exact c1z
  try rw [h5]
  try simp only [rfb] at h5
  refine zgn ?_
  refine a2w ?_
  refine ⟨(i+1),?_,?_,⟨⟨_,Z,by rfl⟩,Z,trivial⟩,trivial,Z,Z,Z⟩
  ·exact ⟨by omega,n7 hinv.2 (c11 b5U)⟩
  omega
 try rw [h4]
 try simp only [rfb] at h4
 refine zgn ?_
 refine a42 ?_
 all_goals exact c2n
theorem a2z (l:List Int) (v:Int) (hn:l.length<=1048576):Ctr Tryz.prog 281 [.lst 1 (l.map Rf.n8),.v (.int .i64 v)] (.one (.v (.int .i64 (G3 (λj=>decide (v=l.getD j default)) l.length)))):=by
 refine Ctr.of (n:=19) G Tryz.func281 Z a8 Z Z Z (λw0=>?_)
 refine zgo ?_
 refine d9 [0,1,7] [] (λ(i:Nat)=>[(8,.v (.int .i64 (i:Int)))]) (λ(i:Nat)=>[]) (λ(i:Nat)=>i<=l.length/\∀j,j < i→decide (v=l.getD j default)=false) (λ(i:Nat)=>l.length - i) 0 Z Z ?_ ?_ ?_ ?_
 ·exact D9
 ·exact u3
 ·exact trivial
 intro i hinv
 refine vm4 ?_
 refine zcd (λh1=>?_) (λh1=>?_)
 ·refine zcd (λh2=>?_) (λh2=>?_)
  ·refine zf1 ?_
   all_goals exact c2I
  exact c8g
 refine zf1 ?_
 all_goals exact c2I
theorem a0K (l:List Int) (v:Int) (hn:l.length<=1048576):Ctr Tryz.prog 224 [.lst 1 (l.map Rf.n8),.v (.int .i64 v)] (.one (.v (.bool (a9z l v)))):=by
 refine Ctr.of (n:=9) G Tryz.func224 Z a8 Z Z Z (λw0=>?_)
 refine zcl (a2z _ _ a1Q) ?_
 refine zf1 ?_
 all_goals (simp only [a9z];rw [a3P])
theorem a2A (l:List Int) (v:Int) (hn:l.length<=1048576):Ctr Tryz.prog 141 [.lst 1 (l.map Rf.n8),.v (.int .i64 v)] (.one (.v (.bool (a9z l v)))):=by
 refine Ctr.of (n:=18) G Tryz.func141 Z a8 Z Z Z (λw0=>?_)
 refine zgo ?_
 refine d9 [0,1] [] (λ(i:Nat)=>[(5,.v (.int .i64 (i:Int)))]) (λ(i:Nat)=>[]) (λ(i:Nat)=>i<=l.length/\∀j,j < i→decide (v=l.getD j default)=false) (λ(i:Nat)=>l.length - i) 0 Z Z ?_ ?_ ?_ ?_
 ·exact D9
 ·exact u3
 ·exact trivial
 intro i hinv
 refine vm4 ?_
 refine zcd (λh1=>?_) (λh1=>?_)
 ·refine zcd (λh2=>?_) (λh2=>?_)
  ·refine zf1 ?_
   all_goals exact c2J
  exact c8g
 refine zf1 ?_
 all_goals exact c2J
end Go.Proofs.YtpfhomblkgmkkaaGreatDoor
