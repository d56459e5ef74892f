/- Texts merged into one: M9, M14, M22, M23, W7. -/
import Derived.Test.YtdhckhjphmjniaaGreatDoorPFnConsoleC
set_option maxHeartbeats 4000000
set_option linter.unusedSimpArgs false
set_option linter.unusedVariables false
set_option maxRecDepth 20000
namespace Go.Proofs.YtdhckhjphmjniaaGreatDoor
open Go Go.Rf
theorem a4W (a b:Int):Ctr Tryz.prog 199 [.v (.int .i64 a),.v (.int .i64 b)] (.one (.v (.int .i64 (min a b)))):=by
 refine Ctr.of (n:=10) G Tryz.func199 Z a8 Z Z Z (λw0=>?_)
 exact c4q
theorem a9g (sl:List Slot) (lim:Int) (hF:SlF sl):Ctr Tryz.prog 280 [.lst 3 (sl.map g8),.v (.int .i64 lim)] (.many [.fr 104 3 ((tkT sl lim).1.map g8),.v (.int .i64 (tkT sl lim).2.1),.v (.bool (tkT sl lim).2.2)]):=by
 have hl4:=hF.len
 have hb:=@a04 sl true
 have hf:=@a1r sl
 refine Ctr.of (n:=33) G Tryz.func280 Z a8 Z Z Z (λw0=>?_)
 refine zcl (U4 sl true J hF.difS) ?_
 refine zcd (λh1=>?_) (λh1=>?_)
 ·refine zwt ?_
  exact c39
 refine zcd (λh2=>?_) (λh2=>?_)
 ·exact c39
 refine a4Q ?_
 refine zgn ?_
 refine zgn ?_
 refine s5 (l1 9 [0] mixed a8 Z Z (λr0=>?_) (λ_ h=>h))
 refine b77 ?_
 refine zsa 5 ?_
 refine b6 (rs:=[3]) a8 Z (AllB.cons ?_ AllB.nil)
 refine f8 [0] Z Z (d3 2 Z Z Z (ArgsOK.of Z) (a0N sl _ ⟨_,_,_⟩ J J) Z Z (b4 ⟨Z,?_⟩))
 refine zsa 6 ?_
 refine zsa 7 ?_
 refine zsa 8 ?_
 refine G9 ?_
 refine d8 (s1 Z Z Z Z (b3 (c7 Z ?_) (b3 (j4 ?_) (b3 (j4 ?_) d9))))
 all_goals exact c3y
theorem b1g (sl:List Slot) (lim:Int) (hF:SlF sl) (hk:a0h sl lim=true):Ctr Tryz.prog 253 [.lst 3 (sl.map g8),.v (.int .i64 lim)] (.many [.fr 104 3 ((tkS sl).map g8),.v (.int .i64 (tkI sl))]):=by
 have hl4:=hF.len
 have hb:=@a04 sl true
 have hf:=@a1r sl
 have hkk:=I8.mp hk
 refine Ctr.of (n:=33) G Tryz.func253 Z a8 Z Z Z (λw0=>?_)
 refine zcl (a0O sl J) ?_
 refine zcd (λh1=>?_) (λh1=>?_)
 ·exfalso;omega
 refine zcd (λh2=>?_) (λh2=>?_)
 ·exfalso;omega
 refine a4Q ?_
 refine zgn ?_
 refine zgn ?_
 refine s5 (l1 8 [0] mixed a8 Z Z (λr0=>?_) (λ_ h=>h))
 refine b77 ?_
 refine zsa 5 ?_
 refine b6 (rs:=[3]) a8 Z (AllB.cons ?_ AllB.nil)
 refine f8 [0] Z Z (d3 2 Z Z Z (ArgsOK.of Z) (N0 sl _ ⟨_,_,_⟩ J J) Z Z (b4 ⟨Z,?_⟩))
 refine zsa 6 ?_
 refine zsa 7 ?_
 refine G9 ?_
 refine d8 (s1 Z Z Z Z (b3 (c7 Z ?_) (b3 (j4 ?_) d9)))
 all_goals (rfl)
theorem b1h (sl:List Slot) (irq p:Int) (hF:SlF sl) (h0:0<=o9 sl irq):Ctr Tryz.prog 296 [.lst 3 (sl.map g8),.v (.int .i64 irq),.v (.int .i64 p)] (.many [.fr 104 3 ((ptS sl irq).map g8),.v (.bool true)]):=by
 have hl4:=hF.len
 have hf:=@a1r sl irq
 refine Ctr.of (n:=38) G Tryz.func296 Z a8 Z Z Z (λw0=>?_)
 refine zcl (H5 sl irq J) ?_
 refine zcd (λh1=>?_) (λh1=>?_)
 ·refine a4Q ?_
  refine zcd (λh2=>?_) (λh2=>?_)
  ·exact c4T
  exact c4T
 exfalso;omega
theorem b3y (sl:List Slot) (irq p:Int) (hF:SlF sl) (h0:0<=o9 sl irq):Ctr Tryz.prog 256 [.lst 3 (sl.map g8),.v (.int .i64 irq),.v (.int .i64 p)] (.many [.fr 104 3 ((ptS sl irq).map g8),.v (.bool true)]):=by
 have hl4:=hF.len
 have hf:=@a1r sl irq
 refine Ctr.of (n:=39) G Tryz.func256 Z a8 Z Z Z (λw0=>?_)
 refine zcl (F6 sl irq J) ?_
 refine zcd (λh1=>?_) (λh1=>?_)
 ·refine a4Q ?_
  refine zcd (λh2=>?_) (λh2=>?_)
  ·exact c4U
  exact c4U
 exfalso;omega
theorem Y8 (q:Que) (hl:q.sl.length<=1048576) (hw:q.wa.length<=1048576):Ctr Tryz.prog 170 [.agg [.lst 3 (q.sl.map g8),.lst 2 (q.wa.map j6)]] (.shp true [some 2] [.fr 104 3 (q.sl.map g8),.fr 76 2 (q.wa.map j6)]):=by
 exact c4Y
theorem a9h (q:Que) (irq p:Int) (hF:QF q) (hi:0<=irq/\irq<=7) (hp:0<=p/\p<=15):Ctr Tryz.prog 279 [.agg [.lst 3 (q.sl.map g8),.lst 2 (q.wa.map j6)],.v (.int .i64 irq),.v (.int .i64 p)] (.shp true [some 2] [.fr 104 3 ((a1s q irq p).sl.map g8),.fr 76 2 ((a1s q irq p).wa.map j6) true]):=by
 have hl4:=hF.sl.len
 have hwn:=hF.wn
 have hQ:=(b2W (irq:=irq) (p:=p) hF hi hp).1
 refine Ctr.of (n:=40) G Tryz.func279 Z a8 Z Z Z (λw0=>?_)
 refine m7 0 Z (λ_=>Z) (λu0=>?_)
 refine vm1 ?_
 refine vm9 ?_
 refine vm3 ?_
 refine d3 4 Z Z Z (ArgsOK.of Z) (Y8 q J J) Z Z ?_
 refine p6 ?_
 refine b76 ?_
 refine zcl (H5 q.sl irq J) ?_
 refine zcd (λh1=>?_) (λh1=>?_)
 ·have ho:=b5B (p:=p) h1
  rw [ho] at hQ
  refine vm3 ?_
  refine d3 6 Z Z Z (ArgsOK.of Z) (b1h q.sl irq p hF.sl h1) Z Z ?_
  exact c4X
 refine zcl (a1G q.wa irq J) ?_
 refine zcd (λh2=>?_) (λh2=>?_)
 ·have ho:=b5C (p:=p) h1 h2
  rw [ho] at hQ
  refine vm3 ?_
  refine d3 6 Z Z Z (ArgsOK.of Z) (a18 q.wa ⟨irq,p⟩ J) Z Z ?_
  exact c4X
 have ho:=b5D (p:=p) h1 h2
 rw [ho] at hQ
 refine vm3 ?_
 refine d3 7 Z Z Z (ArgsOK.of Z) (a1B _ hQ) Z Z ?_
 refine zgo ?_
 exact c7l
theorem O6 (q:Que) (hF:QF q):Ctr Tryz.prog 255 [.agg [.lst 3 (q.sl.map g8),.lst 2 (q.wa.map j6)]] (.shp true [some 2] [.fr 104 3 ((a1L q).sl.map g8),.fr 76 2 ((a1L q).wa.map j6)]):=by
 have hq4:=hF.sl.len
 have hqw:=hF.wn
 refine Ctr.of (n:=56) G Tryz.func255 Z a8 Z Z Z (λw0=>?_)
 refine m7 0 Z (λ_=>Z) (λu0=>?_)
 refine vm1 ?_
 refine vm9 ?_
 refine vm3 ?_
 refine d3 4 Z Z Z (ArgsOK.of Z) (a7L q J J) Z Z ?_
 refine p6 ?_
 refine b76 ?_
 refine zgo ?_
 refine g9 [2,3] [1,4] (λ(x:Que)=>[]) (λ(x:Que)=>[(2,some (.row 104 3 (x.sl.map g8))),(3,some (.row 76 2 (x.wa.map j6)))]) (λ(x:Que)=>QF x/\a1L x=a1L q) (λ(x:Que)=>phi x) q Z Z ?_ ?_ ?_ ?_
 ·exact ⟨hF,Z⟩
 ·exact trivial
 ·exact b5X
 intro x hinv
 have hFx:=hinv.1
 have hl4:=hFx.sl.len
 have hwn:=hFx.wn
 have hf:=@b5p x.sl
 have hb:=@a04 x.sl false
 refine vm2 ?_
 refine zcl (a3a x J J) ?_
 refine zcd (λh1=>?_) (λh1=>?_)
 ·obtain ⟨hw0,hbb⟩:=b6t hFx h1
  have hnx:=b1O hFx h1
  obtain ⟨hF2,hphi⟩:=b0t hFx h1
  refine vm3 ?_
  first | refine b5 Z Z (c8 G Z Z Z Z Z J J) ?_ | refine b5 Z Z (c8 G Z Z Z Z Z J m8) ?_
  refine p6 ?_
  first | refine b5 Z Z (f6 G Z Z Z Z (a2D J) Z) ?_ | refine b5 Z Z (f6 G Z Z Z Z (F9 J J) Z) ?_ | refine b5 Z Z (f6 G Z Z Z Z (B6 J J) Z) ?_ | refine b5 Z Z (f6 G Z Z Z Z (B6 J m8) Z) ?_
  refine p6 ?_
  refine d6 G 6 Z Z Z Z Z ?_
  refine vm3 ?_
  refine o8 G 7 Z Z Z Z Z Z Z Z ?_
  refine vm3 ?_
  refine c67 ?_
  refine p6 ?_
  refine a9X G np Z Z Z Z Z Z Z (ArgOK.sub Z w7) Z m8 Z Z ?_
  refine zgn ?_
  refine c1g (id:=6) ((x.wa.drop 1).map j6) Z a0I ?_
  refine zcl (a2u x.sl J) ?_
  refine zcd (λh2=>?_) (λh2=>?_)
  ·refine zcl (a3X x.sl J) ?_
   refine zgn ?_
   refine l1 16 [1,2,3,4,5,6] mixed a8 Z Z (λr0=>?_) (λ_ h=>h)
   refine a06 ?_
   first | refine d7 4 Z a8 a8 Z Z Z Z (c8 G Z Z Z Z Z J J) ?_ | refine d7 4 Z a8 a8 Z Z Z Z (c8 G Z Z Z Z Z J m8) ?_
   refine d7 5 Z a8 a8 Z Z Z Z (a4d G Z Z Z Z) ?_
   first | refine d7 6 Z a8 a8 Z Z Z Z (j9 G Z Z Z Z Z (a2D J) Z) ?_ | refine d7 6 Z a8 a8 Z Z Z Z (j9 G Z Z Z Z Z (F9 J J) Z) ?_ | refine d7 6 Z a8 a8 Z Z Z Z (j9 G Z Z Z Z Z (B6 J J) Z) ?_ | refine d7 6 Z a8 a8 Z Z Z Z (j9 G Z Z Z Z Z (B6 J m8) Z) ?_
   refine zsa 7 ?_
   refine zsa 8 ?_
   refine zsa 9 ?_
   first | refine d7 10 Z a8 a8 Z Z Z Z (c8 G Z Z Z Z Z J J) ?_ | refine d7 10 Z a8 a8 Z Z Z Z (c8 G Z Z Z Z Z J m8) ?_
   refine d7 11 Z a8 a8 Z Z Z Z (a4d G Z Z Z Z) ?_
   first | refine d7 12 Z a8 a8 Z Z Z Z (j9 G Z Z Z Z Z (a2D J) Z) ?_ | refine d7 12 Z a8 a8 Z Z Z Z (j9 G Z Z Z Z Z (F9 J J) Z) ?_ | refine d7 12 Z a8 a8 Z Z Z Z (j9 G Z Z Z Z Z (B6 J J) Z) ?_ | refine d7 12 Z a8 a8 Z Z Z Z (j9 G Z Z Z Z Z (B6 J m8) Z) ?_
   refine zsa 13 ?_
   refine b6 (rs:=[14]) a8 Z (AllB.cons ?_ AllB.nil)
   refine f8 [1,2,3,4,5,6] Z Z (d3 8 Z Z Z (ArgsOK.of Z) (a2s (x.wa.drop 1) ⟨_,_⟩ (by rw [List.length_drop];omega)) Z Z (b4 ⟨Z,?_⟩))
   refine zsa 15 ?_
   refine G9 ?_
   refine vm3 ?_
   refine d3 9 Z Z Z (ArgsOK.of Z) (N0 x.sl _ ⟨1,_,_⟩ J J) Z Z ?_
   iterate 3 refine zst ?_
   refine s6 (Gh.sub 8 2 np Z Z Z) (s6 (Gh.sub 7 3 np Z Z Z) (b4 ⟨(stQ x),?_,?_,trivial,⟨⟨_,Z,by (first | rfl | (rw [s3 (q:=x) J];exact congrArg (λz=>Row.row _ _ z) (a32 (f:=g8) (x:=⟨1,_,_⟩))) | (rw [v1 (q:=x) J];exact congrArg (λz=>Row.row _ _ z) (a32 (f:=g8) (x:=⟨1,_,_⟩))) | (rw [s3 (q:=x) J];exact congrArg (λz=>Row.row _ _ z) (List.map_drop).symm) | (rw [v1 (q:=x) J];done) | (rw [v1 (q:=x) J];rfl) | (rw [s3 (q:=x) J];done) | (rw [s3 (q:=x) J];rfl) | (rw [s3 (q:=x) J];exact congrArg (λz=>Row.row _ _ z) a0I)| (rw [v1 (q:=x) J];exact congrArg (λz=>Row.row _ _ z) a0I))⟩,Z,Z,⟨⟨_,Z,by (first | rfl | (rw [s3 (q:=x) J];exact congrArg (λz=>Row.row _ _ z) (a32 (f:=g8) (x:=⟨1,_,_⟩))) | (rw [v1 (q:=x) J];exact congrArg (λz=>Row.row _ _ z) (a32 (f:=g8) (x:=⟨1,_,_⟩))) | (rw [s3 (q:=x) J];exact congrArg (λz=>Row.row _ _ z) (List.map_drop).symm) | (rw [v1 (q:=x) J];done) | (rw [v1 (q:=x) J];rfl) | (rw [s3 (q:=x) J];done) | (rw [s3 (q:=x) J];rfl) | (rw [s3 (q:=x) J];exact congrArg (λz=>Row.row _ _ z) a0I)| (rw [v1 (q:=x) J];exact congrArg (λz=>Row.row _ _ z) a0I))⟩,Z,Z,trivial⟩⟩,Z,Z,Z⟩))
   ·exact ⟨hF2,hnx▸hinv.2⟩
   exact hphi
  refine vm3 ?_
  refine d3 8 Z Z Z (ArgsOK.of Z) (N0 x.sl _ ⟨1,_,_⟩ J J) Z Z ?_
  iterate 3 refine zst ?_
  refine s6 (Gh.sub 7 2 np Z Z Z) (s6 (Gh.sub 6 3 np Z Z Z) (b4 ⟨(stQ x),?_,?_,trivial,⟨⟨_,Z,by (first | rfl | (rw [s3 (q:=x) J];exact congrArg (λz=>Row.row _ _ z) (a32 (f:=g8) (x:=⟨1,_,_⟩))) | (rw [v1 (q:=x) J];exact congrArg (λz=>Row.row _ _ z) (a32 (f:=g8) (x:=⟨1,_,_⟩))) | (rw [s3 (q:=x) J];exact congrArg (λz=>Row.row _ _ z) (List.map_drop).symm) | (rw [v1 (q:=x) J];done) | (rw [v1 (q:=x) J];rfl) | (rw [s3 (q:=x) J];done) | (rw [s3 (q:=x) J];rfl) | (rw [s3 (q:=x) J];exact congrArg (λz=>Row.row _ _ z) a0I)| (rw [v1 (q:=x) J];exact congrArg (λz=>Row.row _ _ z) a0I))⟩,Z,Z,⟨⟨_,Z,by (first | rfl | (rw [s3 (q:=x) J];exact congrArg (λz=>Row.row _ _ z) (a32 (f:=g8) (x:=⟨1,_,_⟩))) | (rw [v1 (q:=x) J];exact congrArg (λz=>Row.row _ _ z) (a32 (f:=g8) (x:=⟨1,_,_⟩))) | (rw [s3 (q:=x) J];exact congrArg (λz=>Row.row _ _ z) (List.map_drop).symm) | (rw [v1 (q:=x) J];done) | (rw [v1 (q:=x) J];rfl) | (rw [s3 (q:=x) J];done) | (rw [s3 (q:=x) J];rfl) | (rw [s3 (q:=x) J];exact congrArg (λz=>Row.row _ _ z) a0I)| (rw [v1 (q:=x) J];exact congrArg (λz=>Row.row _ _ z) a0I))⟩,Z,Z,trivial⟩⟩,Z,Z,Z⟩))
  ·exact ⟨hF2,hnx▸hinv.2⟩
  exact hphi
 have hd:=b1P h1
 refine zgo ?_
 refine d8 (p4 Z Z Z Z (b3 (c7 Z ?_) (b3 (c7 Z ?_) d9)))
 all_goals ((rw [← hinv.2,hd];done))
theorem Y9 (q:Que) (irq p:Int) (hF:QF q) (hi:0<=irq/\irq<=7) (hp:0<=p/\p<=15):Ctr Tryz.prog 202 [.agg [.lst 3 (q.sl.map g8),.lst 2 (q.wa.map j6)],.v (.int .i64 irq),.v (.int .i64 p)] (.shp true [some 2] [.fr 104 3 ((a1s q irq p).sl.map g8),.fr 76 2 ((a1s q irq p).wa.map j6)]):=by
 have hl4:=hF.sl.len
 have hwn:=hF.wn
 have hQ:=(b2W (irq:=irq) (p:=p) hF hi hp).1
 refine Ctr.of (n:=44) G Tryz.func202 Z a8 Z Z Z (λw0=>?_)
 refine m7 0 Z (λ_=>Z) (λu0=>?_)
 refine c6 (λK1 hK1=>?_)
 refine b1b ?_
 refine vm9 ?_
 refine b4 (hK1 _ ?_)
 clear hK1 K1
 refine c6 (λK2 hK2=>?_)
 refine c6 (λK3 hK3=>?_)
 refine c0w ?_
 refine b5 Z Z (i7 Z (ArgsOK.of Z) (F6 q.sl irq J) Z) ?_
 refine p6 ?_
 refine b5 Z Z (w4 Z Z Z Z) (b4 (hK3 _ ?_))
 clear hK3 K3
 refine l4 Z (λh1=>?_) (λh1=>?_)
 ·try rw [h1]
  try simp only [rfb] at h1
  have ho:=b5B (p:=p) h1
  rw [ho] at hQ
  refine c6 (λK4 hK4=>?_)
  refine c0w ?_
  refine b5 Z Z (b8 Z Z) ?_
  refine p6 ?_
  refine d3 3 Z Z Z (ArgsOK.of Z) (b3y q.sl irq p hF.sl h1) Z Z ?_
  refine p6 ?_
  refine c65 ?_
  refine hK4 _ ?_
  clear hK4 K4
  refine c6 (λK5 hK5=>?_)
  refine c64 ?_
  refine d3 5 Z Z Z (ArgsOK.of Z) (O6 _ hQ) Z Z ?_
  refine c2u ?_
  refine b4 (hK5 _ ?_)
  clear hK5 K5
  refine d8 (p4 Z Z Z Z (b3 (c7 Z ?_) (b3 (c7 Z ?_) d9)))
  all_goals clear hK2 K2
  all_goals exact c6X
 ·try rw [h1]
  try simp only [rfb] at h1
  refine r8 (hK2 _ ?_)
  clear hK2 K2
  refine c6 (λK6 hK6=>?_)
  refine c6 (λK7 hK7=>?_)
  refine c0w ?_
  refine b5 Z Z (i7 Z (ArgsOK.of Z) (b3x q.wa irq J) Z) ?_
  refine p6 ?_
  refine b5 Z Z (w4 Z Z Z Z) (b4 (hK7 _ ?_))
  clear hK7 K7
  refine l4 Z (λh2=>?_) (λh2=>?_)
  ·try rw [h2]
   try simp only [rfb] at h2
   have ho:=b5D (p:=p) h1 h2
   rw [ho] at hQ
   refine c6 (λK8 hK8=>?_)
   refine b7 ?_
   refine p6 ?_
   refine b5 Z Z (c1 G Z Z Z Z Z Z) ?_
   refine p6 ?_
   refine d3 4 Z Z Z (ArgsOK.of Z) (O6 _ hQ) Z Z ?_
   refine c2u ?_
   refine b4 (hK8 _ ?_)
   clear hK8 K8
   refine d8 (p4 Z Z Z Z (b3 (c7 Z ?_) (b3 (c7 Z ?_) d9)))
   all_goals clear hK6 K6
   all_goals exact c6X
  ·try rw [h2]
   try simp only [rfb] at h2
   have ho:=b5C (p:=p) h1 h2
   rw [ho] at hQ
   refine r8 (hK6 _ ?_)
   clear hK6 K6
   refine c6 (λK9 hK9=>?_)
   refine l1 11 [0] mixed a8 Z Z (λr0=>?_) (λ_ h=>h)
   refine d7 0 Z a8 a8 Z Z Z Z (d5 G Z Z Z Z) (d7 1 Z a8 a8 Z Z Z Z (i8 G Z Z Z Z Z Z Z) (d7 2 Z a8 a8 Z Z Z Z (d5 G Z Z Z Z) (d7 3 Z a8 a8 Z Z Z Z (a62 (i8 G Z Z Z Z Z Z Z)) (d7 4 Z a8 a8 Z Z Z Z (b8 Z Z) (d7 5 Z a8 a8 Z Z Z Z (b8 Z Z) (d7 6 Z a8 a8 Z Z Z Z (w3 G Z Z Z Z) ?_))))))
   refine b6 (rs:=[7]) a8 Z (AllB.cons ?_ AllB.nil)
   refine f7 [0] Z Z (d3 3 Z Z Z (ArgsOK.of Z) (a2s q.wa ⟨irq,p⟩ J) Z Z (b4 ⟨Z,?_⟩))
   refine b6 (rs:=[8]) a8 Z (AllB.cons ?_ AllB.nil)
   refine f7 [0] Z Z (b5 Z Z (w3 G Z Z Z Z) (b4 ⟨Z,?_⟩))
   refine b6 (rs:=[9]) a8 Z (AllB.cons ?_ AllB.nil)
   refine f7 [0] Z Z (d3 5 Z Z Z (ArgsOK.of Z) (O6 _ hQ) Z Z (b4 ⟨Z,?_⟩))
   refine b6 (rs:=[10]) a8 Z (AllB.cons ?_ AllB.nil)
   refine f7 [0] Z Z (e9 G Z Z Z Z Z Z Z Z Z Z Z (b4 ⟨Z,?_⟩))
   refine E5 a8 (hK9 _ ?_)
   clear hK9 K9
   exact c7l
theorem a8w (q:Que) (lim:Int) (hF:QF q):Ctr Tryz.prog 233 [.agg [.lst 3 (q.sl.map g8),.lst 2 (q.wa.map j6)],.v (.int .i64 lim)] (.shp false [some 2,none,none] [.fr 104 3 ((b2Z q lim).1.sl.map g8),.fr 76 2 ((b2Z q lim).1.wa.map j6),.v (.int .i64 (b2Z q lim).2.1),.v (.bool (b2Z q lim).2.2)]):=by
 have hl4:=hF.sl.len
 have hwn:=hF.wn
 refine Ctr.of (n:=28) G Tryz.func233 Z a8 Z Z Z (λw0=>?_)
 refine m7 0 Z (λ_=>Z) (λu0=>?_)
 refine vm1 ?_
 refine vm9 ?_
 refine vm3 ?_
 refine d3 3 Z Z Z (ArgsOK.of Z) (a9g q.sl lim hF.sl) Z Z ?_
 refine zcd (λh1=>?_) (λh1=>?_)
 ·rw [c22] at h1
  have ht:=b9d (q:=q) h1
  refine zgo ?_
  refine d8 (p4 Z Z Z Z (b3 (I0 ?_) (b3 (I0 ?_) (b3 (j4 ?_) (b3 (j4 ?_) d9)))))
  all_goals exact c3J
 rw [c22] at h1
 have ht:=b5E (q:=q) h1
 have ht2:=b6n (sl:=q.sl) h1
 refine vm3 ?_
 refine d3 5 Z Z Z (ArgsOK.of Z) (Y8 q J J) Z Z ?_
 refine p6 ?_
 refine d6 G 6 Z Z Z Z Z ?_
 refine zgo ?_
 refine d8 (p4 Z Z Z Z (b3 (c7 Z ?_) (b3 (c7 Z ?_) (b3 (j4 ?_) (b3 (j4 ?_) d9)))))
 all_goals exact c3J
theorem a5V (q:Que) (lim:Int) (hF:QF q) (hk:a0h q.sl lim=true):Ctr Tryz.prog 198 [.agg [.lst 3 (q.sl.map g8),.lst 2 (q.wa.map j6)],.v (.int .i64 lim)] (.shp false [some 2,none] [.fr 104 3 ((a4B q).sl.map g8),.fr 76 2 ((a4B q).wa.map j6),.v (.int .i64 (tkI q.sl))]):=by
 have hl4:=hF.sl.len
 have hwn:=hF.wn
 have htl:(tkS q.sl).length=4:=by unfold tkS;rw [List.length_set];exact hl4
 refine Ctr.of (n:=24) G Tryz.func198 Z a8 Z Z Z (λw0=>?_)
 refine m7 0 Z (λ_=>Z) (λu0=>?_)
 refine vm1 ?_
 refine vm9 ?_
 refine vm3 ?_
 refine d3 3 Z Z Z (ArgsOK.of Z) (b1g q.sl lim hF.sl hk) Z Z ?_
 refine zgn ?_
 refine s5 (l1 11 [0,2] mixed a8 Z Z (λr0=>?_) (λ_ h=>h))
 refine zsa 1 ?_
 refine zsa 4 ?_
 refine zsa 5 ?_
 refine zsa 8 ?_
 refine A4 (N:=5) Z (s7 (fuel:=5) [⟨0,15,3,false,.row 104 3 []⟩,⟨3,18,4,false,.row 76 2 []⟩] (AllVOK.cons (VOK.lit G Z Z Z Z Z) (AllVOK.cons (VOK.lit G Z Z Z Z Z) (AllVOK.nil))) (λhok=>?_))
 refine n6 [(2,[0])] a8 a8 (λe he=>hok e he) a8 (AllVS.cons ?_ AllVS.nil)
 refine VStep.mk1 [0,2] 15 (.own 3) 3 (.row 104 3 []) [⟨3,18,4,false,.row 76 2 []⟩] Z Z Z Z Z (λb1 _ hbn=>j8 G S8 Z Z Z Z Z Z Z Z Z m8 Z Z (b4 Z)) a8 a8 a8 a8 (n6 [(6,[3])] a8 a8 (λe he=>hok e (vin (is:=[0]) Z he)) a8 (AllVS.cons ?_ AllVS.nil))
 refine VStep.mk1 [0,2] 18 (.own 4) 4 (.row 76 2 []) [] Z Z Z Z Z (λb1 _ hbn=>j8 G S8 Z Z Z Z Z Z Z Z Z m8 Z Z (b4 Z)) a8 a8 a8 a8 (G7 ?_)
 clear hok
 refine b6 (rs:=[7]) a8 Z (AllB.cons ?_ AllB.nil)
 refine f8 [0,2] Z Z ?_
 refine R9 ?_
 refine b6 (rs:=[9]) a8 Z (AllB.cons ?_ AllB.nil)
 refine f8 [0,2] Z Z ?_
 refine R9 ?_
 refine zsa 10 ?_
 refine G9 ?_
 refine d8 (p4 Z Z Z Z (b3 (c7 Z ?_) (b3 (c7 Z ?_) (b3 (j4 ?_) d9))))
 all_goals (first | rfl | simp | (simp [a4B];done))
theorem Z0 (sl:List Slot) (irq:Int) (hl:sl.length<=1048576) (h0:0<=o9 sl irq):Ctr Tryz.prog 140 [.lst 3 (sl.map g8),.v (.int .i64 irq)] (.one (.v (.int .i64 (lvl sl irq)))):=by
 have hf:=@a1r sl irq
 refine Ctr.of (n:=12) G Tryz.func140 Z a8 Z Z Z (λw0=>?_)
 refine zcl (H5 sl irq hl) ?_
 exact a8Y
theorem a0P (q:Que) (irq:Int) (hl:q.sl.length<=1048576) (h0:0<=o9 q.sl irq):Ctr Tryz.prog 162 [.agg [.lst 3 (q.sl.map g8),.lst 2 (q.wa.map j6)],.v (.int .i64 irq)] (.one (.v (.int .i64 (lvl q.sl irq)))):=by
 have hf:=@a1r q.sl irq
 refine Ctr.of (n:=14) G Tryz.func162 Z a8 Z Z Z (λw0=>?_)
 refine m7 0 Z (λ_=>Z) (λu0=>?_)
 refine vm1 ?_
 refine zgd ?_
 refine zcl (F6 q.sl irq hl) ?_
 exact a8Y
theorem a3M (x:Ifc) (hF:IfF x):Ctr Tryz.prog 234 [.agg [.v (.int .i64 x.ma),.lst 1 (x.st.map Rf.r5),.lst 3 (x.qu.sl.map g8),.lst 2 (x.qu.wa.map j6)]] (.one (.v (.int .i64 (a7h x)))):=by
 have hl4:=hF.qu.sl.len
 have hwn:=hF.qu.wn
 have hsn:=hF.sn
 refine Ctr.of (n:=19) G Tryz.func234 Z a8 Z Z Z (λw0=>?_)
 refine m7 0 Z (λ_=>Z) (λu0=>?_)
 refine s5 ?_
 refine b1b ?_
 refine zgn ?_
 refine zgn ?_
 refine l4 Z (λh1=>?_) (λh1=>?_)
 ·try rw [h1]
  try simp only [rfb] at h1
  exact c2H
 try rw [h1]
 try simp only [rfb] at h1
 have htn:((x.st.length:Int) - 1).toNat=x.st.length - 1:=J
 have htp:=hF.top (show x.st.length - 1 < x.st.length by omega)
 refine zgn ?_
 refine c0x ?_
 iterate 8 refine zst ?_
 refine d4 Z ?_
 refine c2p ?_
 refine d4 Z (l2 Z Z (i7 Z (ArgsOK.of Z) (Z0 x.qu.sl _ J (by first | assumption | (rw [htn];assumption))) Z) ?_)
 exact c2H
theorem a2d (x:Ifc) (hF:IfF x):Ctr Tryz.prog 200 [.agg [.v (.int .i64 x.ma),.lst 1 (x.st.map Rf.r5),.lst 3 (x.qu.sl.map g8),.lst 2 (x.qu.wa.map j6)]] (.one (.v (.int .i64 (a7h x)))):=by
 have hl4:=hF.qu.sl.len
 have hwn:=hF.qu.wn
 have hsn:=hF.sn
 refine Ctr.of (n:=18) G Tryz.func200 Z a8 Z Z Z (λw0=>?_)
 refine m7 0 Z (λ_=>Z) (λu0=>?_)
 refine s5 ?_
 refine b1b ?_
 refine zgn ?_
 refine zgn ?_
 refine zgn ?_
 refine l4 Z (λh1=>?_) (λh1=>?_)
 ·try rw [h1]
  try simp only [rfb] at h1
  have htn:((x.st.length:Int) - 1).toNat=x.st.length - 1:=J
  have htp:=hF.top (show x.st.length - 1 < x.st.length by omega)
  refine c0x ?_
  iterate 5 refine zst ?_
  refine d4 Z ?_
  refine c2p ?_
  refine d4 Z (l2 Z Z (i7 Z (ArgsOK.of Z) (a0P x.qu _ J (by first | assumption | (rw [htn];assumption))) Z) ?_)
  exact c2H
 try rw [h1]
 try simp only [rfb] at h1
 refine zgn ?_
 exact c2H
theorem F3 (x:Ifc) (hn:x.st.length<=1048576) (hl:x.qu.sl.length<=1048576) (hw:x.qu.wa.length<=1048576):Ctr Tryz.prog 111 [.agg [.v (.int .i64 x.ma),.lst 1 (x.st.map Rf.r5),.lst 3 (x.qu.sl.map g8),.lst 2 (x.qu.wa.map j6)]] (.shp true [some 4] [.v (.int .i64 x.ma),.fr 3 1 (x.st.map Rf.r5),.fr 104 3 (x.qu.sl.map g8),.fr 76 2 (x.qu.wa.map j6)]):=by
 refine Ctr.of (n:=12) G Tryz.func111 Z a8 Z Z Z (λw0=>?_)
 refine m7 0 Z (λ_=>Z) (λu0=>?_)
 refine vm1 ?_
 refine vm9 ?_
 refine zgn ?_
 refine s5 (l1 10 [0] mixed a8 Z Z (λr0=>?_) (λ_ h=>h))
 refine a06 ?_
 refine zsa 5 ?_
 refine zsa 6 ?_
 refine b6 (rs:=[4]) a8 Z (AllB.cons ?_ AllB.nil)
 refine f8 [0] Z Z (d3 3 Z Z Z (ArgsOK.of Z) (E9 x.st hn) Z Z (b4 ⟨Z,?_⟩))
 refine b6 (rs:=[7]) a8 Z (AllB.cons ?_ AllB.nil)
 refine f8 [0] Z Z (d3 5 Z Z Z (ArgsOK.of Z) (Y8 x.qu hl hw) Z Z (b4 ⟨Z,?_⟩))
 exact c4N
theorem a9i (x:Ifc) (irq p:Int) (hF:IfF x) (hi:0<=irq/\irq<=7) (hp:0<=p/\p<=15):Ctr Tryz.prog 232 [.agg [.v (.int .i64 x.ma),.lst 1 (x.st.map Rf.r5),.lst 3 (x.qu.sl.map g8),.lst 2 (x.qu.wa.map j6)],.v (.int .i64 irq),.v (.int .i64 p)] (.shp true [some 4] [.v (.int .i64 x.ma),.fr 3 1 (x.st.map Rf.r5),.fr 104 3 ((a1s x.qu irq p).sl.map g8),.fr 76 2 ((a1s x.qu irq p).wa.map j6) true]):=by
 have hl4:=hF.qu.sl.len
 have hwn:=hF.qu.wn
 have hsn:=hF.sn
 refine Ctr.of (n:=17) G Tryz.func232 Z a8 Z Z Z (λw0=>?_)
 refine m7 0 Z (λ_=>Z) (λu0=>?_)
 refine vm1 ?_
 refine vm9 ?_
 refine vm3 ?_
 refine d3 5 Z Z Z (ArgsOK.of Z) (F3 x J J J) Z Z ?_
 refine p6 ?_
 refine d6 G 6 Z Z Z Z Z ?_
 refine vm3 ?_
 refine d3 8 Z Z Z (ArgsOK.of Z) (a9h x.qu irq p hF.qu hi hp) Z Z ?_
 refine zgo ?_
 exact c31
theorem T6 (x:Ifc) (irq p:Int) (hF:IfF x) (hi:0<=irq/\irq<=7) (hp:0<=p/\p<=15):Ctr Tryz.prog 152 [.agg [.v (.int .i64 x.ma),.lst 1 (x.st.map Rf.r5),.lst 3 (x.qu.sl.map g8),.lst 2 (x.qu.wa.map j6)],.v (.int .i64 irq),.v (.int .i64 p)] (.shp true [some 4] [.v (.int .i64 x.ma),.fr 3 1 (x.st.map Rf.r5),.fr 104 3 ((a1s x.qu irq p).sl.map g8),.fr 76 2 ((a1s x.qu irq p).wa.map j6)]):=by
 have hl4:=hF.qu.sl.len
 have hwn:=hF.qu.wn
 have hsn:=hF.sn
 refine Ctr.of (n:=18) G Tryz.func152 Z a8 Z Z Z (λw0=>?_)
 refine m7 0 Z (λ_=>Z) (λu0=>?_)
 refine vm1 ?_
 refine vm9 ?_
 refine zgn ?_
 refine s5 (l1 12 [0] mixed a8 Z Z (λr0=>?_) (λ_ h=>h))
 refine a06 ?_
 refine zsa 5 ?_
 refine zsa 6 ?_
 refine zsa 7 ?_
 refine zsa 8 ?_
 refine b6 (rs:=[4]) a8 Z (AllB.cons ?_ AllB.nil)
 refine f8 [0] Z Z (d3 3 Z Z Z (ArgsOK.of Z) (H8 x.st J) Z Z (b4 ⟨Z,?_⟩))
 refine b6 (rs:=[9]) a8 Z (AllB.cons ?_ AllB.nil)
 refine f8 [0] Z Z (d3 5 Z Z Z (ArgsOK.of Z) (Y9 x.qu irq p hF.qu hi hp) Z Z (b4 ⟨Z,?_⟩))
 refine b6 (rs:=[10]) a8 Z (AllB.cons ?_ AllB.nil)
 refine b3r ?_
 refine b6 (rs:=[11]) a8 Z (AllB.cons ?_ AllB.nil)
 exact c9E
theorem b0P (x:Ifc) (hF:IfF x):Ctr Tryz.prog 179 [.agg [.v (.int .i64 x.ma),.lst 1 (x.st.map Rf.r5),.lst 3 (x.qu.sl.map g8),.lst 2 (x.qu.wa.map j6)]] (.shp false [some 4,none,none] [.v (.int .i64 (X7 x).1.ma),.fr 3 1 ((X7 x).1.st.map Rf.r5),.fr 104 3 ((X7 x).1.qu.sl.map g8),.fr 76 2 ((X7 x).1.qu.wa.map j6),.v (.int .i64 (X7 x).2.1),.v (.bool (X7 x).2.2)]):=by
 have hl4:=hF.qu.sl.len
 have hwn:=hF.qu.wn
 have hsn:=hF.sn
 refine Ctr.of (n:=34) G Tryz.func179 Z a8 Z Z Z (λw0=>?_)
 refine m7 0 Z (λ_=>Z) (λu0=>?_)
 refine vm1 ?_
 refine vm9 ?_
 refine zgn ?_
 refine s5 (l1 16 [0,1] mixed a8 Z Z (λr0=>?_) (λ_ h=>h))
 refine a06 ?_
 refine zsa 4 ?_
 refine A4 (N:=3) Z (s7 (fuel:=10) [⟨12,5,2,true,.box (avR [.slice none 0 0,.slice none 0 0] [])⟩] (AllVOK.cons (VOK.boxS G Z Z Z Z Z) (AllVOK.nil)) (λhok=>?_))
 refine n6 [(5,[])] a8 a8 (λe he=>hok e he) a8 (AllVS.cons ?_ AllVS.nil)
 refine VStep.mk0 [0,1] Z Z (λb1 _ hbn=>b5 Z Z (i7 Z (ArgsOK.of Z) (a3M x hF) Z) (b4 Z)) a8 a8 a8 a8 (v8 6 Z a8 Z Z Z Z (b8m Z Z Z) a8 a8 a8 (n6 [(7,[])] a8 a8 (λe he=>hok e he) a8 (AllVS.cons ?_ AllVS.nil)))
 refine VStep.mk0 [0,1] Z Z (λb1 _ hbn=>d3 5 Z Z Z (ArgsOK.of Z) (a8w x.qu (b7O x) hF.qu) Z Z (b4 Z)) a8 a8 a8 a8 (v8 8 Z a8 Z Z Z Z (b8 Z Z) a8 a8 a8 (v8 9 Z a8 Z Z Z Z (f9 Z Z Z) a8 a8 a8 (v8 10 Z a8 Z Z Z Z (f9 Z Z Z) a8 a8 a8 (v8 11 Z a8 Z Z Z Z (f9 Z Z Z) a8 a8 a8 (n6 [(13,[12])] a8 a8 (λe he=>hok e he) a8 (AllVS.cons ?_ AllVS.nil))))))
 refine c8Y ?_
 clear hok
 refine zsa 14 ?_
 refine zsa 15 ?_
 refine G9 ?_
 refine zcd (λh1=>?_) (λh1=>?_)
 ·rw [b9e] at h1
  have ht:=b6z (x:=x) h1
  refine zgo ?_
  refine d8 (p4 Z Z Z Z (b3 (j4 ?_) (b3 (I0 ?_) (b3 (I0 ?_) (b3 (I0 ?_) (b3 (j4 ?_) (b3 (j4 ?_) d9)))))))
  all_goals exact c3K
 rw [b9e] at h1
 have ht:=b6y (x:=x) h1
 have ht2:=b5E h1
 refine zgo ?_
 apply C6 [2,3,4] [1,3,4,5] 7 14 [0,2,3,4] mixed a8 Z Z (λ_ h=>znk h)
 ·intro r0
  refine a06 ?_
  refine zsa 5 ?_
  refine zsa 8 ?_
  refine zsa 10 ?_
  refine b6 (rs:=[4,6]) a8 Z (AllB.cons ?_ (AllB.cons ?_ AllB.nil))
  ·refine f8 [0,2,3,4] Z Z (d3 6 Z Z Z (ArgsOK.of Z) (E9 x.st J) Z Z (b4 ⟨Z,?_⟩))
   refine b6 (rs:=[6]) a8 Z (AllB.cons ?_ AllB.nil)
   refine f8 [0,2,3,4] Z Z (o8 G 7 Z Z Z Z Z Z Z Z (b4 ⟨Z,?_⟩))
   refine b6 (rs:=[7]) a8 Z (AllB.cons ?_ AllB.nil)
   refine f8 [0,2,3,4] Z Z (j8 G X9 Z Z Z Z Z Z Z Z Z J9 Z Z (b4 ⟨Z,?_⟩))
   refine b6 (rs:=[9]) a8 Z (AllB.cons ?_ AllB.nil)
   refine b4N ?_
   refine b6 (rs:=[11]) a8 Z (AllB.cons ?_ AllB.nil)
   refine b4N ?_
   refine zsa 12 ?_
   refine zsa 13 ?_
   exact a5Q
  refine f8 [0,2,3,4] Z Z (o8 G 6 Z Z Z Z Z Z Z Z (b4 ⟨Z,?_⟩))
  refine b6 (rs:=[4]) a8 Z (AllB.cons ?_ AllB.nil)
  refine f8 [0,2,3,4] Z Z (d3 7 Z Z Z (ArgsOK.of Z) (E9 x.st J) Z Z (b4 ⟨Z,?_⟩))
  refine b6 (rs:=[7]) a8 Z (AllB.cons ?_ AllB.nil)
  refine f8 [0,2,3,4] Z Z (j8 G X9 Z Z Z Z Z Z Z Z Z J9 Z Z (b4 ⟨Z,?_⟩))
  refine b6 (rs:=[9]) a8 Z (AllB.cons ?_ AllB.nil)
  refine b4N ?_
  refine b6 (rs:=[11]) a8 Z (AllB.cons ?_ AllB.nil)
  refine b4N ?_
  refine zsa 12 ?_
  refine zsa 13 ?_
  refine a3T (Gh.sub 6 5 X9 Z Z Z) ?_
  exact a5Q
 refine d8 (p4 Z Z Z Z (b3 (j4 ?_) (b3 (c7 Z ?_) (b3 (c7 Z ?_) (b3 (c7 Z ?_) (b3 (j4 ?_) (b3 (j4 ?_) d9)))))))
 all_goals exact c3K
theorem a4X (x:Ifc) (hF:IfF x) (hk:okT x=true):Ctr Tryz.prog 150 [.agg [.v (.int .i64 x.ma),.lst 1 (x.st.map Rf.r5),.lst 3 (x.qu.sl.map g8),.lst 2 (x.qu.wa.map j6)]] (.shp false [some 4,none] [.v (.int .i64 (a2Z x).ma),.fr 3 1 ((a2Z x).st.map Rf.r5),.fr 104 3 ((a2Z x).qu.sl.map g8),.fr 76 2 ((a2Z x).qu.wa.map j6),.v (.int .i64 (tkI x.qu.sl))]):=by
 have hl4:=hF.qu.sl.len
 have hwn:=hF.qu.wn
 have hsn:=hF.sn
 have hkk:=I8.mp hk
 have htb:=b5F hF.qu.sl hkk.1
 refine Ctr.of (n:=35) G Tryz.func150 Z a8 Z Z Z (λw0=>?_)
 refine m7 0 Z (λ_=>Z) (λu0=>?_)
 refine vm1 ?_
 refine vm9 ?_
 refine zgn ?_
 refine s5 (l1 14 [0,1] mixed a8 Z Z (λr0=>?_) (λ_ h=>h))
 refine a06 ?_
 refine zsa 4 ?_
 refine A4 (N:=3) Z (s7 (fuel:=8) [⟨11,4,2,true,.box (avR [.slice none 0 0,.slice none 0 0] [])⟩] (AllVOK.cons (VOK.boxS G Z Z Z Z Z) (AllVOK.nil)) (λhok=>?_))
 refine n6 [(5,[])] a8 a8 (λe he=>hok e he) a8 (AllVS.cons ?_ AllVS.nil)
 refine VStep.mk0 [0,1] Z Z (λb1 _ hbn=>b5 Z Z (i7 Z (ArgsOK.of Z) (a2d x hF) Z) (b4 Z)) a8 a8 a8 a8 (n6 [(6,[])] a8 a8 (λe he=>hok e he) a8 (AllVS.cons ?_ AllVS.nil))
 refine VStep.mk0 [0,1] Z Z (λb1 _ hbn=>b5 Z Z (i7 Z (ArgsOK.of Z) (a4W _ _) Z) (b4 Z)) a8 a8 a8 a8 (n6 [(7,[])] a8 a8 (λe he=>hok e he) a8 (AllVS.cons ?_ AllVS.nil))
 refine VStep.mk0 [0,1] Z Z (λb1 _ hbn=>d3 5 Z Z Z (ArgsOK.of Z) (a5V x.qu (b7O x) hF.qu hk) Z Z (b4 Z)) a8 a8 a8 a8 (v8 8 Z a8 Z Z Z Z (b8 Z Z) a8 a8 a8 (v8 9 Z a8 Z Z Z Z (f9 Z Z Z) a8 a8 a8 (v8 10 Z a8 Z Z Z Z (f9 Z Z Z) a8 a8 a8 (n6 [(12,[11])] a8 a8 (λe he=>hok e he) a8 (AllVS.cons ?_ AllVS.nil)))))
 refine c8Z ?_
 clear hok
 refine zsa 13 ?_
 refine G9 ?_
 refine s5 (l1 9 [0,1,2,3,4] mixed a8 Z Z (λr0=>?_) (λ_ h=>h))
 refine a06 ?_
 refine zsa 5 ?_
 refine A4 (N:=6) Z (s7 (fuel:=3) [⟨7,6,5,true,.box (avR [.int .i64 0,.slice none 0 0,.slice none 0 0,.slice none 0 0] [])⟩] (AllVOK.cons (VOK.boxS G Z Z Z Z Z) (AllVOK.nil)) (λhok=>?_))
 refine n6 [(4,[])] a8 a8 (λe he=>hok e he) a8 (AllVS.cons ?_ AllVS.nil)
 refine VStep.mk0 [0,1,2,3,4] Z Z (λb1 _ hbn=>d3 7 Z Z Z (ArgsOK.of Z) (H8 x.st J) Z Z (b4 Z)) a8 a8 a8 a8 (n6 [(6,[])] a8 a8 (λe he=>hok e he) a8 (AllVS.cons ?_ AllVS.nil))
 refine VStep.mk0 [0,1,2,3,4] Z Z (λb1 _ hbn=>b5 Z Z (w3 G Z Z Z Z) (b4 Z)) a8 a8 a8 a8 (n6 [(8,[7])] a8 a8 (λe he=>hok e he) a8 (AllVS.cons ?_ AllVS.nil))
 refine c8W ?_
 clear hok
 refine G9 ?_
 refine zcd (λh1=>?_) (λh1=>?_)
 ·refine vm3 ?_
  refine o8 G 8 Z Z Z Z Z Z Z Z ?_
  refine p6 ?_
  refine I3 (Gh.forget (id:=5) (k:=1) Z Z)<|I3 (Gh.keep [0,1,2,3,4,5,6,7] Z)<|j8 G np rfl rfl rfl rfl rfl rfl rfl rfl rfl J9 rfl rfl ?_
  refine zgo ?_
  refine d8 (p4 Z Z Z Z (b3 (j4 ?_) (b3 (c7 Z ?_) (b3 (c7 Z ?_) (b3 (c7 Z ?_) (b3 (j4 ?_) d9))))))
  all_goals (first | rfl | (simp [a2Z,Rf.r5];done))
 exfalso;omega
theorem a3N (l r:List Int) (hl:l.length<=1048576) (hr:r.length<=1048576):Ctr Tryz.prog 138 [.lst 1 (l.map Rf.r5),.lst 1 (r.map Rf.r5)] (.one (.v (.bool (decide (l=r))))):=by
 refine Ctr.of (n:=26) G Tryz.func138 Z a8 Z Z Z (λw0=>?_)
 refine zcd (λh1=>?_) (λh1=>?_)
 ·exact c4g
 refine zgo ?_
 refine g9 [0,1,12] [] (λ(i:Nat)=>[(13,.v (.int .i64 (i:Int)))]) (λ(i:Nat)=>[]) (λ(i:Nat)=>i<=l.length/\∀j,j < i→l.getD j default=r.getD j default) (λ(i:Nat)=>l.length - i) 0 Z Z ?_ ?_ ?_ ?_
 ·exact S9
 ·exact B0
 ·exact trivial
 intro i hinv
 refine vm2 ?_
 refine zcd (λh2=>?_) (λh2=>?_)
 ·refine zgd ?_
  refine zcd (λh3=>?_) (λh3=>?_)
  ·exact c4g
  exact c0y
 refine zf1 ?_
 all_goals exact c3z
theorem a3Y (x:Slot):Ctr Tryz.prog 194 [.v (a8T x)] (.one (.v (.bool (R2 x)))):=by
 refine Ctr.of (n:=11) G Tryz.func194 Z a8 Z Z Z (λw0=>?_)
 refine vm1 ?_
 refine zcd (λh1=>?_) (λh1=>?_)
 ·exact c4A
 exact c4A
theorem a7M (sl:List Slot) (hF:SlF sl):Ctr Tryz.prog 139 [.lst 3 (sl.map g8)] (.one (.fr 3 1 ((srtI (actN sl 4)).map Rf.r5))):=by
 have hl4:=hF.len
 refine Ctr.of (n:=24) G Tryz.func139 Z a8 Z Z Z (λw0=>?_)
 refine b1c ?_
 refine zgo ?_
 refine g9 [7,8] [] (λ(i:Nat)=>[(3,.own 0),(9,.v (.int .i64 (i:Int)))]) (λ(i:Nat)=>[(0,some (.row 3 1 ((actN sl i).map Rf.r5)))]) (λ(i:Nat)=>i<=4) (λ(i:Nat)=>4 - i) 0 Z Z ?_ ?_ ?_ ?_
 ·exact R3
 ·exact Y2
 ·exact a1M
 intro i hi
 have hpl:=@a0C sl i
 refine vm2 ?_
 refine zcd (λh1=>?_) (λh1=>?_)
 ·refine b4L ?_
  refine zcl (a3Y _) ?_
  refine zcd (λh2=>?_) (λh2=>?_)
  ·refine vm3 ?_
   refine b4K ?_
   refine p6 ?_
   refine vm6 ?_
   exact c36
  exact c36
 obtain rfl:i=4:=J
 refine vm3 ?_
 refine J7 1 [0] Z Z Z (Z5 (actN sl 4) (by have:=@a0C sl 4;omega)) Z (RowsIn.cons Z RowsIn.nil) Z Z Z ?_
 refine zfo ?_
 all_goals (rfl)
theorem b3u (l:List Int) (n:Int) (hl:l.length<=1048576) (hne:∀x∈l,x≠n):Ctr Tryz.prog 213 [.lst 1 (l.map Rf.r5),.v (.int .i64 n)] (.one (.fr 3 1 ((b23 l n).map Rf.r5))):=by
 refine Ctr.of (n:=45) G Tryz.func213 Z a8 Z Z Z (λw0=>?_)
 refine zgo ?_
 refine g9 [0,1] [] (λ(k:Nat)=>[(5,.v (.int .i64 (k:Int)))]) (λ(k:Nat)=>[]) (λ(k:Nat)=>k<=l.length/\∀j,j < k→l.getD j default < n) (λ(k:Nat)=>l.length - k) 0 Z Z ?_ ?_ ?_ ?_
 ·exact S9
 ·exact B0
 ·exact trivial
 intro k hk
 refine vm2 ?_
 refine zcd (λh1=>?_) (λh1=>?_)
 ·refine zcd (λh2=>?_) (λh2=>?_)
  ·refine zgo ?_
   refine ⟨(k+1),?_,?_,⟨⟨_,Z,by rfl⟩,Z,trivial⟩,trivial,Z,Z,Z⟩
   ·exact ⟨by omega,s2 hk.2 j5⟩
   omega
  refine zcd (λh3=>?_) (λh3=>?_)
  ·refine zcd (λh4=>?_) (λh4=>?_)
   ·exact c4x
   exact c0Q
  refine zwf ?_
  exact c0Q
 refine zwf ?_
 refine zcd (λh5=>?_) (λh5=>?_)
 ·refine zcd (λh6=>?_) (λh6=>?_)
  ·exact c4x
  exact c0Q
 refine zwf ?_
 refine zgo ?_
 apply C6 [4] [0] 2 13 [] mixed a8 Z Z (λ_ h=>znk h)
 ·exact ws4
 refine zfo ?_
 all_goals exact c3B
theorem a9j (sl:List Slot) (hF:SlF sl):Ctr Tryz.prog 160 [.lst 3 (sl.map g8)] (.one (.fr 3 1 ((a8j sl 4).map Rf.r5))):=by
 have hl4:=hF.len
 refine Ctr.of (n:=34) G Tryz.func160 Z a8 Z Z Z (λw0=>?_)
 refine b1c ?_
 refine zgo ?_
 refine g9 [0] [] (λ(i:Nat)=>[(3,.own 0),(4,.v (.int .i64 (i:Int)))]) (λ(i:Nat)=>[(0,some (.row 3 1 ((a8j sl i).map Rf.r5)))]) (λ(i:Nat)=>i<=4) (λ(i:Nat)=>4 - i) 0 Z Z ?_ ?_ ?_ ?_
 ·exact R3
 ·exact Y2
 ·exact a1M
 intro i hi
 refine vm2 ?_
 refine zcd (λh1=>?_) (λh1=>?_)
 ·refine zcd (λh2=>?_) (λh2=>?_)
  ·refine zwt ?_
   exact c9w
  refine zcd (λh3=>?_) (λh3=>?_)
  ·exact c9w
  refine zgo ?_
  refine ⟨(i+1),?_,?_,⟨⟨_,Z,by rfl⟩,Z,⟨⟨_,Z,by rfl⟩,Z,trivial⟩⟩,⟨⟨_,Z,by (first | (rw [b9o J];done) | (rw [b9p J];done))⟩,Z,Z,trivial⟩,Z,Z,Z⟩
  ·omega
  omega
 obtain rfl:i=4:=J
 refine zfo ?_
 all_goals (rfl)
theorem a6t (x:Ifc) (hn:x.st.length<=1048576) (hl:x.qu.sl.length<=1048576) (hw:x.qu.wa.length<=1048576):Ctr Tryz.prog 90 [.agg [.v (.int .i64 x.ma),.lst 1 (x.st.map Rf.r5),.lst 3 (x.qu.sl.map g8),.lst 2 (x.qu.wa.map j6)]] (.one (.v (.bool (a2n x)))):=by
 refine Ctr.of (n:=54) G Tryz.func90 Z a8 Z Z Z (λw0=>?_)
 refine m7 0 Z (λ_=>Z) (λu0=>?_)
 refine s5 ?_
 refine b1b ?_
 refine zgn ?_
 refine s5 ?_
 refine a33 ?_
 refine a3L ?_
 refine p6 ?_
 refine b5 Z Z (i7 Z (ArgsOK.of Z) (a5T x.ma) Z) ?_
 refine a3L ?_
 refine B2 Z Z Z (λh1=>?_) (λh1=>?_)
 ·try rw [h1]
  try simp only [rfb] at h1
  refine zgn ?_
  refine N1 Z ?_
  exact c2C
 try rw [h1]
 try simp only [rfb] at h1
 refine a3L ?_
 refine W8 ?_
 refine b5 Z Z (i7 Z (ArgsOK.of Z) (b0O x.qu hl hw) Z) ?_
 refine zgn ?_
 refine l4 Z (λh2=>?_) (λh2=>?_)
 ·try rw [h2]
  try simp only [rfb] at h2
  exact c2C
 try rw [h2]
 try simp only [rfb] at h2
 have hq:=a7e.mp h2
 have hSl:=hq.1.sl
 have hl4:=hSl.len
 refine zgn ?_
 refine a33 ?_
 refine a3L ?_
 refine p6 ?_
 refine d3 2 Z Z Z (ArgsOK.of Z) (E9 x.st hn) Z Z ?_
 refine zgn ?_
 refine a33 ?_
 refine zst ?_
 refine p6 ?_
 refine J7 2 [1] Z Z Z (Z5 x.st hn) Z (RowsIn.cons Z RowsIn.nil) Z Z Z ?_
 refine zgn ?_
 refine s5 ?_
 refine a33 ?_
 iterate 4 refine zst ?_
 refine p6 ?_
 refine d3 3 Z Z Z (ArgsOK.of Z) (a7M x.qu.sl hSl) Z Z ?_
 refine p6 ?_
 refine b5 Z Z (i7 Z (ArgsOK.of Z) (a3N (srtI x.st) (srtI (actN x.qu.sl 4)) (by rw [X6];exact hn) (by rw [X6];have:=@a0C x.qu.sl 4;omega)) Z) ?_
 refine zgn ?_
 refine l4 Z (λh3=>?_) (λh3=>?_)
 ·try rw [h3]
  try simp only [rfb] at h3
  exact c2C
 try rw [h3]
 try simp only [rfb] at h3
 have hin:=λj (hj:j < x.st.length)=>b5H (b5I h3 (i6.mpr ⟨j,hj,Z⟩)) hl4
 refine zgn ?_
 refine zgn ?_
 refine r9 (g9 [1] [0] (λ(i:Nat)=>[(4,.v (.int .i64 (i:Int)))]) (λ(i:Nat)=>[]) (λ(i:Nat)=>1<=i/\∀j,j < i→lvD x.qu.sl x.st j=true) (λ(i:Nat)=>x.st.length - i) 1 Z Z ?_ ?_ ?_ ?_)
 ·exact ⟨Nat.le_refl _,λj hj=>by obtain rfl:j=0:=J;exact b9u⟩
 ·exact B0
 ·exact trivial
 intro i hinv
 have hti:0 < i→((i:Int) - 1).toNat=i - 1:=λ_=>J
 refine vm2 ?_
 refine zgn ?_
 refine l4 Z (λh4=>?_) (λh4=>?_)
 ·try rw [h4]
  try simp only [rfb] at h4
  have hi1:=hin i J
  have hi2:=hin (i - 1) J
  refine b72 ?_
  refine l2 Z Z (i7 Z (ArgsOK.of Z) (Z0 x.qu.sl _ hl hi1) Z) ?_
  iterate 6 refine zst ?_
  refine d4 Z ?_
  refine c2p ?_
  refine d4 Z (l2 Z Z (i7 Z (ArgsOK.of Z) (Z0 x.qu.sl _ hl (by rw [hti J];exact hi2)) Z) ?_)
  refine zgn ?_
  refine l4 Z (λh5=>?_) (λh5=>?_)
  ·try rw [h5]
   try simp only [rfb] at h5
   exact c2C
  try rw [h5]
  try simp only [rfb] at h5
  refine zgn ?_
  refine b7 ?_
  refine zst ?_
  refine vm7 ?_
  refine zgn ?_
  refine ⟨(i+1),?_,?_,⟨⟨_,Z,by rfl⟩,Z,trivial⟩,trivial,Z,Z,Z⟩
  ·exact ⟨by omega,s2 hinv.2 (b9v b67)⟩
  omega
 try rw [h4]
 try simp only [rfb] at h4
 refine zgn ?_
 refine a6o ?_
 all_goals exact c3u
theorem b0Q (sl:List Slot) (irq:Int) (hF:SlF sl) (h0:0<=o9 sl irq) (ha:R2 (sl.getD (o9 sl irq).toNat default)=true):Ctr Tryz.prog 281 [.lst 3 (sl.map g8),.v (.int .i64 irq)] (.many [.fr 104 3 ((edS sl irq).map g8),.v (.bool true)]):=by
 have hl4:=hF.len
 have hf:=@a1r sl irq
 have haa:=s8.mp ha
 refine Ctr.of (n:=39) G Tryz.func281 Z a8 Z Z Z (λw0=>?_)
 refine zcl (H5 sl irq J) ?_
 refine zcd (λh1=>?_) (λh1=>?_)
 ·exact b7f
 refine zcl (a3Y _) ?_
 refine zcd (λh2=>?_) (λh2=>?_)
 ·exact b7f
 refine a4Q ?_
 refine zcd (λh3=>?_) (λh3=>?_)
 ·exact c4V
 exact c4V
theorem b3z (sl:List Slot) (irq:Int) (hF:SlF sl) (h0:0<=o9 sl irq) (ha:R2 (sl.getD (o9 sl irq).toNat default)=true):Ctr Tryz.prog 254 [.lst 3 (sl.map g8),.v (.int .i64 irq)] (.many [.fr 104 3 ((edS sl irq).map g8),.v (.bool true)]):=by
 have hl4:=hF.len
 have hf:=@a1r sl irq
 have haa:=s8.mp ha
 refine Ctr.of (n:=41) G Tryz.func254 Z a8 Z Z Z (λw0=>?_)
 refine zcl (F6 sl irq J) ?_
 refine zcd (λh1=>?_) (λh1=>?_)
 ·exact b7f
 refine zcd (λh2=>?_) (λh2=>?_)
 ·exact b7f
 refine zcd (λh3=>?_) (λh3=>?_)
 ·refine c69 ?_
  exact c7f
 refine a4Q ?_
 refine c2r ?_
 exact c7f
theorem a9k (q:Que) (irq:Int) (hF:QF q) (h0:0<=o9 q.sl irq) (ha:R2 (q.sl.getD (o9 q.sl irq).toNat default)=true):Ctr Tryz.prog 235 [.agg [.lst 3 (q.sl.map g8),.lst 2 (q.wa.map j6)],.v (.int .i64 irq)] (.shp false [some 2,none] [.fr 104 3 ((a4C q irq).sl.map g8),.fr 76 2 ((a4C q irq).wa.map j6) true,.v (.bool true)]):=by
 have hl4:=hF.sl.len
 have hwn:=hF.wn
 have hQ:=a7f hF h0
 refine Ctr.of (n:=23) G Tryz.func235 Z a8 Z Z Z (λw0=>?_)
 refine m7 0 Z (λ_=>Z) (λu0=>?_)
 refine c6 (λK1 hK1=>?_)
 refine b1b ?_
 refine vm9 ?_
 refine c2v ?_
 refine hK1 _ ?_
 clear hK1 K1
 refine c6 (λK2 hK2=>?_)
 refine c0w ?_
 refine d3 3 Z Z Z (ArgsOK.of Z) (b0Q q.sl irq hF.sl h0 ha) Z Z ?_
 refine p6 ?_
 refine c65 ?_
 refine hK2 _ ?_
 clear hK2 K2
 refine c6 (λK3 hK3=>?_)
 refine c6 (λK4 hK4=>?_)
 refine b7 ?_
 refine p6 ?_
 refine b5 Z Z (b8 Z Z) ?_
 refine p6 ?_
 refine b5 Z Z (a4c Z Z) (b4 (hK4 _ ?_))
 clear hK4 K4
 refine l4 Z (λh1=>?_) (λh1=>?_)
 ·exact c9F
 ·try rw [h1]
  try simp only [rfb] at h1
  refine r8 (hK3 _ ?_)
  clear hK3 K3
  refine c6 (λK6 hK6=>?_)
  refine c64 ?_
  refine d3 5 Z Z Z (ArgsOK.of Z) (a1B _ hQ) Z Z ?_
  exact c34
theorem a3O (q:Que) (irq:Int) (hF:QF q) (h0:0<=o9 q.sl irq) (ha:R2 (q.sl.getD (o9 q.sl irq).toNat default)=true):Ctr Tryz.prog 201 [.agg [.lst 3 (q.sl.map g8),.lst 2 (q.wa.map j6)],.v (.int .i64 irq)] (.shp false [some 2,none] [.fr 104 3 ((a4C q irq).sl.map g8),.fr 76 2 ((a4C q irq).wa.map j6),.v (.bool true)]):=by
 have hl4:=hF.sl.len
 have hwn:=hF.wn
 have hQ:=a7f hF h0
 refine Ctr.of (n:=23) G Tryz.func201 Z a8 Z Z Z (λw0=>?_)
 refine m7 0 Z (λ_=>Z) (λu0=>?_)
 refine c6 (λK1 hK1=>?_)
 refine b1b ?_
 refine vm9 ?_
 refine c2v ?_
 refine hK1 _ ?_
 clear hK1 K1
 refine c6 (λK2 hK2=>?_)
 refine c0w ?_
 refine d3 3 Z Z Z (ArgsOK.of Z) (b3z q.sl irq hF.sl h0 ha) Z Z ?_
 refine p6 ?_
 refine c65 ?_
 refine hK2 _ ?_
 clear hK2 K2
 refine c6 (λK3 hK3=>?_)
 refine c6 (λK4 hK4=>?_)
 refine b7 ?_
 refine p6 ?_
 refine b5 Z Z (b8 Z Z) ?_
 refine p6 ?_
 refine b5 Z Z (a4c Z Z) (b4 (hK4 _ ?_))
 clear hK4 K4
 refine l4 Z (λh1=>?_) (λh1=>?_)
 ·exact c9F
 ·try rw [h1]
  try simp only [rfb] at h1
  refine r8 (hK3 _ ?_)
  clear hK3 K3
  refine c6 (λK6 hK6=>?_)
  refine c64 ?_
  refine d3 5 Z Z Z (ArgsOK.of Z) (O6 _ hQ) Z Z ?_
  exact c34
theorem a9l (x:Ifc) (hG:IfG x) (hn:x.st.length≠0):Ctr Tryz.prog 180 [.agg [.v (.int .i64 x.ma),.lst 1 (x.st.map Rf.r5),.lst 3 (x.qu.sl.map g8),.lst 2 (x.qu.wa.map j6)]] (.shp false [some 4,none,none] [.v (.int .i64 x.ma),.fr 3 1 ((x.st.take (x.st.length - 1)).map Rf.r5),.fr 104 3 ((a4C x.qu (J4 x)).sl.map g8),.fr 76 2 ((a4C x.qu (J4 x)).wa.map j6) true,.v (.int .i64 (J4 x)),.v (.bool true)]):=by
 have hl4:=hG.f.qu.sl.len
 have hwn:=hG.f.qu.wn
 have hsn:=hG.f.sn
 obtain ⟨hla,hlb⟩:=b6S hG hn
 have hls:=a8q hn
 have htn:((x.st.length:Int) - 1).toNat=x.st.length - 1:=J
 refine Ctr.of (n:=40) G Tryz.func180 Z a8 Z Z Z (λw0=>?_)
 refine m7 0 Z (λ_=>Z) (λu0=>?_)
 refine vm1 ?_
 refine vm9 ?_
 refine zcd (λh1=>?_) (λh1=>?_)
 ·exfalso;omega
 refine zgn ?_
 refine s5 (l1 14 [0,1] mixed a8 Z Z (λr0=>?_) (λ_ h=>h))
 refine a06 ?_
 refine a8t ?_
 refine A4 (N:=3) Z (s7 (fuel:=6) [⟨11,6,2,true,.box (avR [.slice none 0 0,.slice none 0 0] [])⟩] (AllVOK.cons (VOK.boxS G Z Z Z Z Z) (AllVOK.nil)) (λhok=>?_))
 refine n6 [(7,[])] a8 a8 (λe he=>hok e he) a8 (AllVS.cons ?_ AllVS.nil)
 refine VStep.mk0 [0,1] Z Z (λb1 _ hbn=>d3 5 Z Z Z (ArgsOK.of Z) (a9k x.qu _ hG.f.qu (by rw [hls];exact hla) (by rw [hls];exact hlb)) Z Z (b4 Z)) a8 a8 a8 a8 (v8 8 Z a8 Z Z Z Z (b8 Z Z) a8 a8 a8 (v8 9 Z a8 Z Z Z Z (f9 Z Z Z) a8 a8 a8 (v8 10 Z a8 Z Z Z Z (f9 Z Z Z) a8 a8 a8 (n6 [(12,[11])] a8 a8 (λe he=>hok e he) a8 (AllVS.cons ?_ AllVS.nil)))))
 refine VStep.mk1 [0,1] 6 (.ptr 2 0) 2 (.box (avR [.slice none 0 0,.slice none 0 0] [])) [] Z Z Z Z Z (λb1 _ hbn=>e9 G Z Z Z Z Z Z Z Z Z Z Z (b4 Z)) a8 a8 a8 a8 (G7 ?_)
 clear hok
 refine zsa 13 ?_
 refine G9 ?_
 refine s5 (l1 17 [0,2,3,4] mixed a8 Z Z (λr0=>?_) (λ_ h=>h))
 refine a06 ?_
 refine zsa 4 ?_
 first | refine d7 5 Z a8 a8 Z Z Z Z (M7 G Z Z Z Z Z J J J) ?_ | refine d7 5 Z a8 a8 Z Z Z Z (M7 G Z Z Z Z Z J a5P a5P) ?_
 refine zsa 7 ?_
 refine zsa 9 ?_
 refine zsa 10 ?_
 refine zsa 11 ?_
 refine zsa 12 ?_
 refine zsa 13 ?_
 refine b6 (rs:=[6]) a8 Z (AllB.cons ?_ AllB.nil)
 refine f8 [0,2,3,4] Z Z (d3 6 Z Z Z (ArgsOK.of (congrArg some (congrArg (λz=>[AV.lst 1 z]) b0E))) (E9 (x.st.take (x.st.length - 1)) b7a) Z Z (b4 ⟨Z,?_⟩))
 refine b6 (rs:=[8]) a8 Z (AllB.cons ?_ AllB.nil)
 refine b4N ?_
 refine b6 (rs:=[14]) a8 Z (AllB.cons ?_ AllB.nil)
 refine b4N ?_
 refine zsa 15 ?_
 refine zsa 16 ?_
 refine G9 ?_
 refine d8 (p4 Z Z Z Z (b3 (j4 ?_) (b3 (c7 Z ?_) (b3 (c7 Z ?_) (b3 (c7 Z ?_) (b3 (j4 ?_) (b3 (j4 ?_) d9)))))))
 all_goals (first | rfl | (rw [hls];done))
theorem a9m (x:Ifc) (hG:IfG x) (hn:x.st.length≠0):Ctr Tryz.prog 151 [.agg [.v (.int .i64 x.ma),.lst 1 (x.st.map Rf.r5),.lst 3 (x.qu.sl.map g8),.lst 2 (x.qu.wa.map j6)]] (.shp false [some 4,none] [.v (.int .i64 x.ma),.fr 3 1 ((x.st.take (x.st.length - 1)).map Rf.r5),.fr 104 3 ((a4C x.qu (J4 x)).sl.map g8),.fr 76 2 ((a4C x.qu (J4 x)).wa.map j6),.v (.int .i64 (J4 x))]):=by
 have hl4:=hG.f.qu.sl.len
 have hwn:=hG.f.qu.wn
 have hsn:=hG.f.sn
 obtain ⟨hla,hlb⟩:=b6S hG hn
 have hls:=a8q hn
 have htn:((x.st.length:Int) - 1).toNat=x.st.length - 1:=J
 refine Ctr.of (n:=41) G Tryz.func151 Z a8 Z Z Z (λw0=>?_)
 refine m7 0 Z (λ_=>Z) (λu0=>?_)
 refine vm1 ?_
 refine vm9 ?_
 refine zcd (λh1=>?_) (λh1=>?_)
 ·exfalso;omega
 refine zgn ?_
 refine s5 (l1 15 [0,1] mixed a8 Z Z (λr0=>?_) (λ_ h=>h))
 refine c2o ?_
 refine zsa 6 ?_
 refine zsa 7 ?_
 refine A4 (N:=3) Z (s7 (fuel:=6) [⟨12,5,2,true,.box (avR [.slice none 0 0,.slice none 0 0] [])⟩] (AllVOK.cons (VOK.boxS G Z Z Z Z Z) (AllVOK.nil)) (λhok=>?_))
 refine n6 [(8,[])] a8 a8 (λe he=>hok e he) a8 (AllVS.cons ?_ AllVS.nil)
 refine VStep.mk0 [0,1] Z Z (λb1 _ hbn=>d3 5 Z Z Z (ArgsOK.of Z) (a3O x.qu _ hG.f.qu (by rw [hls];exact hla) (by rw [hls];exact hlb)) Z Z (b4 Z)) a8 a8 a8 a8 (v8 9 Z a8 Z Z Z Z (b8 Z Z) a8 a8 a8 (v8 10 Z a8 Z Z Z Z (f9 Z Z Z) a8 a8 a8 (v8 11 Z a8 Z Z Z Z (f9 Z Z Z) a8 a8 a8 (n6 [(13,[12])] a8 a8 (λe he=>hok e he) a8 (AllVS.cons ?_ AllVS.nil)))))
 refine c8Y ?_
 clear hok
 refine zsa 14 ?_
 refine G9 ?_
 refine s5 (l1 18 [0,2,3,4] mixed a8 Z Z (λr0=>?_) (λ_ h=>h))
 refine c2o ?_
 first | refine d7 6 Z a8 a8 Z Z Z Z (M7 G Z Z Z Z Z J J J) ?_ | refine d7 6 Z a8 a8 Z Z Z Z (M7 G Z Z Z Z Z J a5P a5P) ?_
 refine c83 ?_
 refine zsa 14 ?_
 refine zsa 15 ?_
 refine b6 (rs:=[7]) a8 Z (AllB.cons ?_ AllB.nil)
 refine f8 [0,2,3,4] Z Z (d3 6 Z Z Z (ArgsOK.of (congrArg some (congrArg (λz=>[AV.lst 1 z]) b0E))) (H8 (x.st.take (x.st.length - 1)) b7a) Z Z (b4 ⟨Z,?_⟩))
 refine b6 (rs:=[9]) a8 Z (AllB.cons ?_ AllB.nil)
 refine b4N ?_
 refine b6 (rs:=[16]) a8 Z (AllB.cons ?_ AllB.nil)
 refine b4N ?_
 refine zsa 17 ?_
 refine G9 ?_
 refine d8 (p4 Z Z Z Z (b3 (j4 ?_) (b3 (c7 Z ?_) (b3 (c7 Z ?_) (b3 (c7 Z ?_) (b3 (j4 ?_) d9))))))
 all_goals (first | rfl | (rw [hls];done))
theorem a5R (x:Ifc) (hn:x.st.length<=1048576) (hl:x.qu.sl.length<=1048576) (hw:x.qu.wa.length<=1048576):Ctr Tryz.prog 123 [.agg [.v (.int .i64 x.ma),.lst 1 (x.st.map Rf.r5),.lst 3 (x.qu.sl.map g8),.lst 2 (x.qu.wa.map j6)]] (.shp true [some 4] [.v (.int .i64 x.ma),.fr 3 1 (x.st.map Rf.r5),.fr 104 3 (x.qu.sl.map g8),.fr 76 2 (x.qu.wa.map j6)]):=by
 refine Ctr.of (n:=12) G Tryz.func123 Z a8 Z Z Z (λw0=>?_)
 refine m7 0 Z (λ_=>Z) (λu0=>?_)
 refine vm1 ?_
 refine vm9 ?_
 refine zgn ?_
 refine s5 (l1 10 [0] mixed a8 Z Z (λr0=>?_) (λ_ h=>h))
 refine a06 ?_
 refine zsa 5 ?_
 refine zsa 6 ?_
 refine b6 (rs:=[4]) a8 Z (AllB.cons ?_ AllB.nil)
 refine f8 [0] Z Z (d3 3 Z Z Z (ArgsOK.of Z) (H8 x.st hn) Z Z (b4 ⟨Z,?_⟩))
 refine b6 (rs:=[7]) a8 Z (AllB.cons ?_ AllB.nil)
 refine f8 [0] Z Z (d3 5 Z Z Z (ArgsOK.of Z) (a7L x.qu hl hw) Z Z (b4 ⟨Z,?_⟩))
 exact c4N
theorem a2v (m:Mach) (hM:MaG m):Ctr Tryz.prog 79 [.agg [.lst 2 (m.rs.map p8),.lst 1 (m.en.map n7),.lst 1 (m.ra.map n7),.nst none 4 (m.cp.map (r4 104 76))]] (.shp true [some 4] [.fr 132 2 (m.rs.map p8),.fr 4 1 (m.en.map n7),.fr 4 1 (m.ra.map n7),.ne 74 4 (m.cp.map (r4 104 76))]):=by
 have f1:=hM.n
 have f2:=hM.en
 have f3:=hM.ra
 have f4:=hM.rn
 refine Ctr.of (n:=38) G Tryz.func79 Z a8 Z Z Z (λw0=>?_)
 refine m7 0 Z (λ_=>Z) (λu0=>?_)
 refine vm1 ?_
 refine vm9 ?_
 refine zgn ?_
 refine s5 (l1 16 [0,1] mixed a8 Z Z (λr0=>?_) (λ_ h=>h))
 refine zsa 1 ?_
 refine zsa 2 ?_
 refine zsa 5 ?_
 refine zsa 6 ?_
 refine zsa 9 ?_
 refine zsa 10 ?_
 refine A4 (N:=7) Z (s7 (fuel:=5) [⟨0,5,2,false,.row 132 2 []⟩,⟨4,9,3,false,.row 4 1 []⟩,⟨8,13,4,false,.row 4 1 []⟩,⟨12,17,5,false,.row 74 4 []⟩,⟨14,3,6,true,.box (avR [.slice none 0 0,.slice none 0 0,.slice none 0 0,.slice none 0 0] [])⟩] (AllVOK.cons (VOK.lit G Z Z Z Z Z) (AllVOK.cons (VOK.lit G Z Z Z Z Z) (AllVOK.cons (VOK.lit G Z Z Z Z Z) (AllVOK.cons (VOK.lit G Z Z Z Z Z) (AllVOK.cons (VOK.boxS G Z Z Z Z Z) (AllVOK.nil)))))) (λhok=>?_))
 refine n6 [(3,[0])] a8 a8 (λe he=>hok e he) a8 (AllVS.cons ?_ AllVS.nil)
 refine VStep.mk1 [0,1] 5 (.own 2) 2 (.row 132 2 []) [⟨4,9,3,false,.row 4 1 []⟩,⟨8,13,4,false,.row 4 1 []⟩,⟨12,17,5,false,.row 74 4 []⟩,⟨14,3,6,true,.box (avR [.slice none 0 0,.slice none 0 0,.slice none 0 0,.slice none 0 0] [])⟩] Z Z Z Z Z (λb1 _ hbn=>j8 G S8 Z Z Z Z Z Z Z Z Z J9 Z Z (b4 Z)) a8 a8 a8 a8 (n6 [(7,[4])] a8 a8 (λe he=>hok e (vin (is:=[0]) Z he)) a8 (AllVS.cons ?_ AllVS.nil))
 refine VStep.mk1 [0,1] 9 (.own 3) 3 (.row 4 1 []) [⟨8,13,4,false,.row 4 1 []⟩,⟨12,17,5,false,.row 74 4 []⟩,⟨14,3,6,true,.box (avR [.slice none 0 0,.slice none 0 0,.slice none 0 0,.slice none 0 0] [])⟩] Z Z Z Z Z (λb1 _ hbn=>j8 G S8 Z Z Z Z Z Z Z Z Z J9 Z Z (b4 Z)) a8 a8 a8 a8 (n6 [(11,[8])] a8 a8 (λe he=>hok e (vin (is:=[0,4]) Z he)) a8 (AllVS.cons ?_ AllVS.nil))
 refine VStep.mk1 [0,1] 13 (.own 4) 4 (.row 4 1 []) [⟨12,17,5,false,.row 74 4 []⟩,⟨14,3,6,true,.box (avR [.slice none 0 0,.slice none 0 0,.slice none 0 0,.slice none 0 0] [])⟩] Z Z Z Z Z (λb1 _ hbn=>j8 G S8 Z Z Z Z Z Z Z Z Z J9 Z Z (b4 Z)) a8 a8 a8 a8 (n6 [(13,[12])] a8 a8 (λe he=>hok e (vin (is:=[0,4,8]) Z he)) a8 (AllVS.cons ?_ AllVS.nil))
 refine VStep.mk1 [0,1] 17 (.own 5) 5 (.row 74 4 []) [⟨14,3,6,true,.box (avR [.slice none 0 0,.slice none 0 0,.slice none 0 0,.slice none 0 0] [])⟩] Z Z Z Z Z (λb1 _ hbn=>b5 Z Z (w3 G Z Z Z Z) (b4 Z)) a8 a8 a8 a8 (n6 [(15,[14])] a8 a8 (λe he=>hok e (vin (is:=[0,4,8,12]) Z he)) a8 (AllVS.cons ?_ AllVS.nil))
 refine c61 ?_
 clear hok
 refine c7b ?_
 refine g9 [1,2,3] [0,1,2,3,4,6] (λ(k:Nat)=>[(4,.v (.int .i64 (k:Int)))]) (λ(k:Nat)=>[(5,some (.nest 74 4 ((m.cp.take k).map (r4 104 76)) []))]) (λ(k:Nat)=>k<=m.cp.length) (λ(k:Nat)=>m.cp.length - k) 0 Z Z ?_ ?_ ?_ ?_
 ·exact R3
 ·exact a88
 ·exact a1M
 intro k hk
 have hkl:((m.cp.take k).map (r4 104 76)).length=k:=c0u
 refine vm2 ?_
 refine zcd (λh1=>?_) (λh1=>?_)
 ·obtain ⟨g1,g2,g3⟩:=hM.lens (k:=k) J
  exact c9c
 obtain rfl:k=m.cp.length:=J
 refine zgo ?_
 refine d8 (p4 Z Z Z Z (b3 (c7 Z ?_) (b3 (c7 Z ?_) (b3 (c7 Z ?_) (b3 (A1 Z ?_) d9)))))
 all_goals exact c6Y
theorem a7N (m:Mach) (hM:MaG m):Ctr Tryz.prog 70 [.agg [.lst 2 (m.rs.map p8),.lst 1 (m.en.map n7),.lst 1 (m.ra.map n7),.nst none 4 (m.cp.map (r4 104 76))]] (.shp true [some 4] [.fr 132 2 (m.rs.map p8),.fr 4 1 (m.en.map n7),.fr 4 1 (m.ra.map n7),.ne 74 4 (m.cp.map (r4 104 76))]):=by
 have f1:=hM.n
 have f2:=hM.en
 have f3:=hM.ra
 have f4:=hM.rn
 refine Ctr.of (n:=36) G Tryz.func70 Z Y Z Z Z (λw0=>?_)
 refine m7 0 Z (λ_=>Z) (λu0=>?_)
 refine c6 (λK1 hK1=>?_)
 refine b7 (a7 Z (B1 1 Z Z Z Z Z Z Z (a7 Z (d6 G 2 Z Z Z Z Z (b4 (hK1 _ ?_))))))
 clear hK1 K1
 refine c6 (λK2 hK2=>?_)
 refine l1 16 [0,1] mixed Y Z Z (λr0=>?_) (λ_ h=>h)
 refine d7 1 Z Y Y Z Z Z Z (d5 G Z Z Z Z) (d7 2 Z Y Y Z Z Z Z (a62 (i8 G Z Z Z Z Z Z Z)) (d7 5 Z Y Y Z Z Z Z (d5 G Z Z Z Z) (d7 6 Z Y Y Z Z Z Z (a62 (i8 G Z Z Z Z Z Z Z)) (d7 9 Z Y Y Z Z Z Z (d5 G Z Z Z Z) (d7 10 Z Y Y Z Z Z Z (a62 (i8 G Z Z Z Z Z Z Z)) ?_)))))
 refine A4 (N:=7) Z (s7 (fuel:=5) [⟨0,6,2,false,.row 132 2 []⟩,⟨4,10,3,false,.row 4 1 []⟩,⟨8,14,4,false,.row 4 1 []⟩,⟨12,18,5,false,.row 74 4 []⟩,⟨14,3,6,true,.box (avR [.slice none 0 0,.slice none 0 0,.slice none 0 0,.slice none 0 0] [])⟩] (AllVOK.cons (VOK.lit G Z Z Z Z Z) (AllVOK.cons (VOK.lit G Z Z Z Z Z) (AllVOK.cons (VOK.lit G Z Z Z Z Z) (AllVOK.cons (VOK.lit G Z Z Z Z Z) (AllVOK.cons (VOK.boxS G Z Z Z Z Z) (AllVOK.nil)))))) (λhok=>?_))
 refine n6 [(3,[0])] Y Y (λe he=>hok e he) Y (AllVS.cons ?_ AllVS.nil)
 refine VStep.mk1 [0,1] 6 (.own 2) 2 (.row 132 2 []) [⟨4,10,3,false,.row 4 1 []⟩,⟨8,14,4,false,.row 4 1 []⟩,⟨12,18,5,false,.row 74 4 []⟩,⟨14,3,6,true,.box (avR [.slice none 0 0,.slice none 0 0,.slice none 0 0,.slice none 0 0] [])⟩] Z Z Z Z Z (λb1 _ hbn=>j8 G (by rw [hbn];exact Nat.le_of_ble_eq_true Z) Z Z Z Z Z Z Z Z Z (by first | (simp only [List.length_map,List.length_cons,List.length_nil];omega) | (simp;omega)) Z Z (b4 Z)) Y Y Y Y ?_
 refine n6 [(7,[4])] Y Y (λe he=>hok e (vin (is:=[0]) Z he)) Y (AllVS.cons ?_ AllVS.nil)
 refine VStep.mk1 [0,1] 10 (.own 3) 3 (.row 4 1 []) [⟨8,14,4,false,.row 4 1 []⟩,⟨12,18,5,false,.row 74 4 []⟩,⟨14,3,6,true,.box (avR [.slice none 0 0,.slice none 0 0,.slice none 0 0,.slice none 0 0] [])⟩] Z Z Z Z Z (λb1 _ hbn=>j8 G (by rw [hbn];exact Nat.le_of_ble_eq_true Z) Z Z Z Z Z Z Z Z Z (by first | (simp only [List.length_map,List.length_cons,List.length_nil];omega) | (simp;omega)) Z Z (b4 Z)) Y Y Y Y ?_
 refine n6 [(11,[8])] Y Y (λe he=>hok e (vin (is:=[0,4]) Z he)) Y (AllVS.cons ?_ AllVS.nil)
 refine VStep.mk1 [0,1] 14 (.own 4) 4 (.row 4 1 []) [⟨12,18,5,false,.row 74 4 []⟩,⟨14,3,6,true,.box (avR [.slice none 0 0,.slice none 0 0,.slice none 0 0,.slice none 0 0] [])⟩] Z Z Z Z Z (λb1 _ hbn=>j8 G (by rw [hbn];exact Nat.le_of_ble_eq_true Z) Z Z Z Z Z Z Z Z Z (by first | (simp only [List.length_map,List.length_cons,List.length_nil];omega) | (simp;omega)) Z Z (b4 Z)) Y Y Y Y ?_
 refine n6 [(13,[12])] Y Y (λe he=>hok e (vin (is:=[0,4,8]) Z he)) Y (AllVS.cons ?_ AllVS.nil)
 refine VStep.mk1 [0,1] 18 (.own 5) 5 (.row 74 4 []) [⟨14,3,6,true,.box (avR [.slice none 0 0,.slice none 0 0,.slice none 0 0,.slice none 0 0] [])⟩] Z Z Z Z Z (λb1 _ hbn=>b5 Z Z (w3 G Z Z Z Z) (b4 Z)) Y Y Y Y ?_
 refine n6 [(15,[14])] Y Y (λe he=>hok e (vin (is:=[0,4,8,12]) Z he)) Y (AllVS.cons ?_ AllVS.nil)
 refine VStep.mk1 [0,1] 3 (.ptr 6 0) 6 (.box (avR [.slice none 0 0,.slice none 0 0,.slice none 0 0,.slice none 0 0] [])) [] Z Z Z Z Z (λb1 _ hbn=>e9 G Z Z Z Z Z Z Z Z Z Z Z (b4 Z)) Y Y Y Y (G7 ?_)
 clear hok
 refine a3T (Gh.nest (id:=5) (yss:=[]) Z Z (by intro _ _ _ h;simp at h)) (E5 Y (hK2 _ ?_))
 clear hK2 K2
 refine c6 (λK3 hK3=>?_)
 refine c6 (λK4 hK4=>?_)
 refine b7 (a7 Z (b5 Z Z (d5 G Z Z Z Z) (a7 Z (b5 Z Z (b8E (i8 G Z Z Z Z Z Z Z)) (a7 Z ?_)))))
 first | refine b5 Z Z (R6 G Z Z Z Z (List.length_map _)) ?_ | refine b5 Z Z (a0T G Z Z Z Z) ?_
 refine a7 Z (b5 Z Z (b8 Z Z) (b4 (hK4 _ ?_)))
 clear hK4 K4
 refine r9 ?_
 refine g9 [2,3,21,22] [1,2,3,4,6] (λ(k:Nat)=>[(23,.v (.int .i64 (k:Int)))]) (λ(k:Nat)=>[(5,some (.nest 74 4 ((m.cp.take k).map (r4 104 76)) []))]) (λ(k:Nat)=>k<=m.cp.length) (λ(k:Nat)=>m.cp.length - k) 0 Z Z ?_ ?_ ?_ ?_
 ·exact R3
 ·exact a88
 ·exact a1M
 ·intro k hk
  have hkl:((m.cp.take k).map (r4 104 76)).length=k:=(by rw [List.length_map,List.length_take];omega)
  simp only [List.cons_append,List.nil_append]
  refine c6 (λK5 hK5=>?_)
  refine b7 (a7 Z (b5 Z Z (w4 Z Z Z Z) (b4 (hK5 _ ?_))))
  clear hK5 K5
  refine c6 (λK6 hK6=>?_)
  refine l4 Z (λh1=>?_) (λh1=>?_)
  ·try rw [h1]
   try simp only [rfb] at h1
   obtain ⟨g1,g2,g3⟩:=hM.lens (k:=k) J
   refine r8 (hK6 _ ?_)
   clear hK6 K6
   refine c6 (λK7 hK7=>?_)
   refine r9 ?_
   refine c6 (λK8 hK8=>?_)
   refine b7 (a7 Z ?_)
   first | refine b5 Z Z (H6 G Z Z Z Z J (a2D J) Z) ?_ | refine b5 Z Z (H6 G Z Z Z Z J (F9 J J) Z) ?_ | refine b5 Z Z (H6 G Z Z Z Z J (B6 J J) Z) ?_
   refine a7 Z (b5 Z Z (T7 G Z Z Z Z) (a7 Z (d6 G 8 Z Z Z Z Z (a7 Z (a7B 26 Z (λ_=>Z) λv26=>e9 G Z Z Z Z Z Z Z Z Z Z Z (b4 (hK8 _ ?_)))))))
   clear hK8 K8
   apply C6 [2,3,21,22,23] [1,2,3,4,6,12] 13 8 [1,2,3,4,7] mixed Y Z Z hK7
   ·intro r0
    refine d7 0 Z Y Y Z Z Z Z (d5 G Z Z Z Z) (d7 2 Z Y Y Z Z Z Z (c1 G Z Z Z Z Z Z) ?_)
    refine b6 (rs:=[1,3]) Y Z (AllB.cons ?_ (AllB.cons ?_ AllB.nil))
    ·refine f7 [1,2,3,4,7] Z Z (b5 Z Z (i8 G Z Z Z Z Z Z Z) (b4 ⟨Z,?_⟩))
     refine b6 (rs:=[3]) Y Z (AllB.cons ?_ AllB.nil)
     refine f7 [1,2,3,4,7] Z Z (d3 11 Z Z Z (ArgsOK.of Z) (F3 (m.cp.getD k default) J J J) Z Z (b4 ⟨Z,?_⟩))
     exact c48
    ·refine f7 [1,2,3,4,7] Z Z (d3 11 Z Z Z (ArgsOK.of Z) (F3 (m.cp.getD k default) J J J) Z Z (b4 ⟨Z,?_⟩))
     refine b6 (rs:=[1,4]) Y Z (AllB.cons ?_ (AllB.cons ?_ AllB.nil))
     ·refine f7 [1,2,3,4,7] Z Z (b5 Z Z (i8 G Z Z Z Z Z Z Z) (b4 ⟨Z,?_⟩))
      exact c48
     ·refine f7 [1,2,3,4,7] Z Z (A9 G 12 Z Z Z Z Z Z Z Z (.v Z (.own Z (.own Z (.own Z .nil)))) Z Z Z Z (b4 ⟨Z,?_⟩))
      refine b6 (rs:=[1]) Y Z (AllB.cons ?_ AllB.nil)
      refine f7 [1,2,3,4,7] Z Z (b5 Z Z (i8 G Z Z Z Z Z Z Z) (b4 ⟨Z,?_⟩))
      exact c4D
   ·clear hK7 K7
    refine b7 (a7 Z ?_)
    first | refine b5 Z Z (r3 Z Z Z Z J J) ?_ | refine b5 Z Z (t7 Z Z Z Z) ?_
    refine a7 Z (b5 Z Z (b8 Z Z) (s6 (Gh.sub 12 5 np Z Z Z) ?_))
    refine b4 ⟨(k+1),?_,?_,⟨⟨_,Z,by rfl⟩,Z,trivial⟩,⟨⟨_,Z,by (exact congrArg (λz=>Row.nest _ _ z []) (b1X J Z))⟩,Z,Z,trivial⟩,Z,Z,Z⟩
    ·omega
    ·omega
  ·try rw [h1]
   try simp only [rfb] at h1
   obtain rfl:k=m.cp.length:=J
   refine R5 (hK3 _ ?_)
   clear hK6 K6 hK3 K3
   refine c6 (λK9 hK9=>?_)
   refine b7 (a7 Z (b5 Z Z (c1 G Z Z Z Z Z Z) (a7 Z (e9 G Z Z Z Z Z Z Z Z Z Z Z (b4 (hK9 _ ?_))))))
   clear hK9 K9
   refine d8 (p4 Z Z Z Z (b3 (c7 Z ?_) (b3 (c7 Z ?_) (b3 (c7 Z ?_) (b3 (A1 Z ?_) d9)))))
   all_goals (first | rfl | (rw [List.take_length];done) | (rw [List.take_length];rfl) | simp)
theorem a3P (l:List Int) (v:Int) (hn:l.length<=1048576):Ctr Tryz.prog 278 [.lst 1 (l.map Rf.r5),.v (.int .i64 v)] (.one (.v (.int .i64 (P3 (λj=>decide (v=l.getD j default)) l.length)))):=by
 refine Ctr.of (n:=19) G Tryz.func278 Z a8 Z Z Z (λw0=>?_)
 refine zgo ?_
 refine g9 [0,1,7] [] (λ(i:Nat)=>[(8,.v (.int .i64 (i:Int)))]) (λ(i:Nat)=>[]) (λ(i:Nat)=>i<=l.length/\∀j,j < i→decide (v=l.getD j default)=false) (λ(i:Nat)=>l.length - i) 0 Z Z ?_ ?_ ?_ ?_
 ·exact S9
 ·exact B0
 ·exact trivial
 intro i hinv
 refine vm2 ?_
 refine zcd (λh1=>?_) (λh1=>?_)
 ·refine zcd (λh2=>?_) (λh2=>?_)
  ·refine zf1 ?_
   all_goals exact c3L
  exact c9N
 refine zf1 ?_
 all_goals exact c3L
theorem a1N (l:List Int) (v:Int) (hn:l.length<=1048576):Ctr Tryz.prog 231 [.lst 1 (l.map Rf.r5),.v (.int .i64 v)] (.one (.v (.bool (a83 l v)))):=by
 refine Ctr.of (n:=9) G Tryz.func231 Z a8 Z Z Z (λw0=>?_)
 refine zcl (a3P _ _ a1A) ?_
 refine zf1 ?_
 all_goals (simp only [a83];rw [a5d])
theorem a3Q (l:List Int) (v:Int) (hn:l.length<=1048576):Ctr Tryz.prog 161 [.lst 1 (l.map Rf.r5),.v (.int .i64 v)] (.one (.v (.bool (a83 l v)))):=by
 refine Ctr.of (n:=18) G Tryz.func161 Z a8 Z Z Z (λw0=>?_)
 refine zgo ?_
 refine g9 [0,1] [] (λ(i:Nat)=>[(5,.v (.int .i64 (i:Int)))]) (λ(i:Nat)=>[]) (λ(i:Nat)=>i<=l.length/\∀j,j < i→decide (v=l.getD j default)=false) (λ(i:Nat)=>l.length - i) 0 Z Z ?_ ?_ ?_ ?_
 ·exact S9
 ·exact B0
 ·exact trivial
 intro i hinv
 refine vm2 ?_
 refine zcd (λh1=>?_) (λh1=>?_)
 ·refine zcd (λh2=>?_) (λh2=>?_)
  ·refine zf1 ?_
   all_goals exact c3M
  exact c9N
 refine zf1 ?_
 all_goals exact c3M
end Go.Proofs.YtdhckhjphmjniaaGreatDoor
