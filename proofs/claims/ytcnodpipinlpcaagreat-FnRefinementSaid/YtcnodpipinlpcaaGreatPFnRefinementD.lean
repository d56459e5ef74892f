/- Texts merged into one: M9, M14, M22, M23. -/
import Derived.Test.YtcnodpipinlpcaaGreatPFnRefinementC
set_option maxHeartbeats 4000000
set_option linter.unusedSimpArgs false
set_option linter.unusedVariables false
set_option maxRecDepth 20000
namespace Go.Proofs.YtcnodpipinlpcaaGreat
open Go Go.Rf
theorem a3f (a b:Int):Ctr Tryz.prog 136 [.v (.int .i64 a),.v (.int .i64 b)] (.one (.v (.int .i64 (min a b)))):=by
 refine Ctr.of (n:=10) G Tryz.func136 Z a6 Z Z Z (λw0=>?_)
 exact b9S
theorem a6T (sl:List Slot) (lim:Int) (hF:SlF sl):Ctr Tryz.prog 188 [.lst 3 (sl.map f9),.v (.int .i64 lim)] (.many [.fr 154 3 ((tkT sl lim).1.map f9),.v (.int .i64 (tkT sl lim).2.1),.v (.bool (tkT sl lim).2.2)]):=by
 have hl4:=hF.len
 have hb:=@Z1 sl true
 have hf:=@a0l sl
 refine Ctr.of (n:=33) G Tryz.func188 Z a6 Z Z Z (λw0=>?_)
 refine zcl (P5 sl true J hF.difS) ?_
 refine zcd (λh1=>?_) (λh1=>?_)
 ·refine zwt ?_
  exact b9C
 refine zcd (λh2=>?_) (λh2=>?_)
 ·exact b9C
 refine a0G ?_
 refine zgn ?_
 refine zgn ?_
 refine p7 (d7 9 [0] mixed a6 Z Z (λr0=>?_) (λ_ h=>h))
 refine a32 ?_
 refine Q4 ?_
 refine b6 (rs:=[3]) a6 Z (AllB.cons ?_ AllB.nil)
 refine c8 [0] Z Z (c4 2 Z Z Z (ArgsOK.of Z) (X9 sl _ ⟨_,_,_⟩ J J) Z Z (a8 ⟨Z,?_⟩))
 refine zsa 6 ?_
 refine zsa 7 ?_
 refine zsa 8 ?_
 refine vm6 ?_
 refine g8 (G1 Z Z Z Z (a7 (b8 Z ?_) (a7 (p5 ?_) (a7 (p5 ?_) d5))))
 all_goals exact b8S
theorem a8p (sl:List Slot) (lim:Int) (hF:SlF sl) (hk:U4 sl lim=true):Ctr Tryz.prog 181 [.lst 3 (sl.map f9),.v (.int .i64 lim)] (.many [.fr 154 3 ((tkS sl).map f9),.v (.int .i64 (tkI sl))]):=by
 have hl4:=hF.len
 have hb:=@Z1 sl true
 have hf:=@a0l sl
 have hkk:=G2.mp hk
 refine Ctr.of (n:=33) G Tryz.func181 Z a6 Z Z Z (λw0=>?_)
 refine zcl (Y0 sl J) ?_
 refine zcd (λh1=>?_) (λh1=>?_)
 ·exfalso;omega
 refine zcd (λh2=>?_) (λh2=>?_)
 ·exfalso;omega
 refine a0G ?_
 refine zgn ?_
 refine zgn ?_
 refine p7 (d7 8 [0] mixed a6 Z Z (λr0=>?_) (λ_ h=>h))
 refine a32 ?_
 refine Q4 ?_
 refine b6 (rs:=[3]) a6 Z (AllB.cons ?_ AllB.nil)
 refine c8 [0] Z Z (c4 2 Z Z Z (ArgsOK.of Z) (I9 sl _ ⟨_,_,_⟩ J J) Z Z (a8 ⟨Z,?_⟩))
 refine zsa 6 ?_
 refine zsa 7 ?_
 refine vm6 ?_
 refine g8 (G1 Z Z Z Z (a7 (b8 Z ?_) (a7 (p5 ?_) d5)))
 all_goals (rfl)
theorem a8q (sl:List Slot) (irq p:Int) (hF:SlF sl) (h0:0<=n8 sl irq):Ctr Tryz.prog 191 [.lst 3 (sl.map f9),.v (.int .i64 irq),.v (.int .i64 p)] (.many [.fr 154 3 ((ptS sl irq).map f9),.v (.bool true)]):=by
 have hl4:=hF.len
 have hf:=@a0l sl irq
 refine Ctr.of (n:=38) G Tryz.func191 Z a6 Z Z Z (λw0=>?_)
 refine zcl (E4 sl irq J) ?_
 refine zcd (λh1=>?_) (λh1=>?_)
 ·refine a0G ?_
  refine zcd (λh2=>?_) (λh2=>?_)
  ·exact c0p
  exact c0p
 exfalso;omega
theorem b0g (sl:List Slot) (irq p:Int) (hF:SlF sl) (h0:0<=n8 sl irq):Ctr Tryz.prog 184 [.lst 3 (sl.map f9),.v (.int .i64 irq),.v (.int .i64 p)] (.many [.fr 154 3 ((ptS sl irq).map f9),.v (.bool true)]):=by
 have hl4:=hF.len
 have hf:=@a0l sl irq
 refine Ctr.of (n:=39) G Tryz.func184 Z a6 Z Z Z (λw0=>?_)
 refine zcl (B5 sl irq J) ?_
 refine zcd (λh1=>?_) (λh1=>?_)
 ·refine a0G ?_
  refine zcd (λh2=>?_) (λh2=>?_)
  ·exact c0q
  exact c0q
 exfalso;omega
theorem S2 (q:Que) (hl:q.sl.length<=1048576) (hw:q.wa.length<=1048576):Ctr Tryz.prog 189 [.agg [.lst 3 (q.sl.map f9),.lst 2 (q.wa.map i5)]] (.shp true [some 2] [.fr 154 3 (q.sl.map f9),.fr 183 2 (q.wa.map i5)]):=by
 exact c0u
theorem a6U (q:Que) (irq p:Int) (hF:QF q) (hi:0<=irq/\irq<=7) (hp:0<=p/\p<=15):Ctr Tryz.prog 142 [.agg [.lst 3 (q.sl.map f9),.lst 2 (q.wa.map i5)],.v (.int .i64 irq),.v (.int .i64 p)] (.shp true [some 2] [.fr 154 3 ((a0m q irq p).sl.map f9),.fr 183 2 ((a0m q irq p).wa.map i5) true]):=by
 have hl4:=hF.sl.len
 have hwn:=hF.wn
 have hQ:=(a9M (irq:=irq) (p:=p) hF hi hp).1
 refine Ctr.of (n:=40) G Tryz.func142 Z a6 Z Z Z (λw0=>?_)
 refine j8 0 Z (λ_=>Z) (λu0=>?_)
 refine L6 ?_
 refine m3 ?_
 refine c4 4 Z Z Z (ArgsOK.of Z) (S2 q J J) Z Z ?_
 refine vm4 ?_
 refine a9c ?_
 refine zcl (E4 q.sl irq J) ?_
 refine zcd (λh1=>?_) (λh1=>?_)
 ·have ho:=b1Z (p:=p) h1
  rw [ho] at hQ
  refine m3 ?_
  refine c4 6 Z Z Z (ArgsOK.of Z) (a8q q.sl irq p hF.sl h1) Z Z ?_
  exact c0t
 refine zcl (a0x q.wa irq J) ?_
 refine zcd (λh2=>?_) (λh2=>?_)
 ·have ho:=b10 (p:=p) h1 h2
  rw [ho] at hQ
  refine m3 ?_
  refine c4 6 Z Z Z (ArgsOK.of Z) (a0Z q.wa ⟨irq,p⟩ J) Z Z ?_
  exact c0t
 have ho:=b11 (p:=p) h1 h2
 rw [ho] at hQ
 refine m3 ?_
 refine c4 7 Z Z Z (ArgsOK.of Z) (a0w _ hQ) Z Z ?_
 refine zgo ?_
 exact c2k
theorem J7 (q:Que) (hF:QF q):Ctr Tryz.prog 185 [.agg [.lst 3 (q.sl.map f9),.lst 2 (q.wa.map i5)]] (.shp true [some 2] [.fr 154 3 ((a0F q).sl.map f9),.fr 183 2 ((a0F q).wa.map i5)]):=by
 have hq4:=hF.sl.len
 have hqw:=hF.wn
 refine Ctr.of (n:=56) G Tryz.func185 Z a6 Z Z Z (λw0=>?_)
 refine j8 0 Z (λ_=>Z) (λu0=>?_)
 refine L6 ?_
 refine m3 ?_
 refine c4 4 Z Z Z (ArgsOK.of Z) (a5B q J J) Z Z ?_
 refine vm4 ?_
 refine a9c ?_
 refine zgo ?_
 refine f6 [2,3] [1,4] (λ(x:Que)=>[]) (λ(x:Que)=>[(2,some (.row 154 3 (x.sl.map f9))),(3,some (.row 183 2 (x.wa.map i5)))]) (λ(x:Que)=>QF x/\a0F x=a0F q) (λ(x:Que)=>phi x) q Z Z ?_ ?_ ?_ ?_
 ·exact ⟨hF,Z⟩
 ·exact trivial
 ·exact b0c
 intro x hinv
 have hFx:=hinv.1
 have hl4:=hFx.sl.len
 have hwn:=hFx.wn
 have hf:=@b1P x.sl
 have hb:=@Z1 x.sl false
 refine vm2 ?_
 refine zcl (a1Q x J J) ?_
 refine zcd (λh1=>?_) (λh1=>?_)
 ·obtain ⟨hw0,hbb⟩:=b2L hFx h1
  have hnx:=a8U hFx h1
  obtain ⟨hF2,hphi⟩:=a7N hFx h1
  refine m3 ?_
  first | refine b7 Z Z (c6 G Z Z Z Z Z J J) ?_ | refine b7 Z Z (c6 G Z Z Z Z Z J g0) ?_
  refine vm4 ?_
  first | refine b7 Z Z (d9 G Z Z Z Z (a2S J) Z) ?_ | refine b7 Z Z (d9 G Z Z Z Z (C7 J J) Z) ?_ | refine b7 Z Z (d9 G Z Z Z Z (w9 J J) Z) ?_ | refine b7 Z Z (d9 G Z Z Z Z (w9 J g0) Z) ?_
  refine vm4 ?_
  refine b1k ?_
  refine m3 ?_
  refine p4 G 7 Z Z Z Z Z Z Z Z ?_
  refine m3 ?_
  refine c17 ?_
  refine vm4 ?_
  refine a7u G np Z Z Z Z Z Z Z (ArgOK.sub Z t6) Z g0 Z Z ?_
  refine zgn ?_
  refine b6Y (id:=6) ((x.wa.drop 1).map i5) Z X2 ?_
  refine zcl (a1l x.sl J) ?_
  refine zcd (λh2=>?_) (λh2=>?_)
  ·refine zcl (a2u x.sl J) ?_
   refine zgn ?_
   refine d7 16 [1,2,3,4,5,6] mixed a6 Z Z (λr0=>?_) (λ_ h=>h)
   refine C5 ?_
   first | refine i9 4 Z a6 a6 Z Z Z Z (c6 G Z Z Z Z Z J J) ?_ | refine i9 4 Z a6 a6 Z Z Z Z (c6 G Z Z Z Z Z J g0) ?_
   refine i9 5 Z a6 a6 Z Z Z Z (a2K G Z Z Z Z) ?_
   first | refine i9 6 Z a6 a6 Z Z Z Z (s0 G Z Z Z Z Z (a2S J) Z) ?_ | refine i9 6 Z a6 a6 Z Z Z Z (s0 G Z Z Z Z Z (C7 J J) Z) ?_ | refine i9 6 Z a6 a6 Z Z Z Z (s0 G Z Z Z Z Z (w9 J J) Z) ?_ | refine i9 6 Z a6 a6 Z Z Z Z (s0 G Z Z Z Z Z (w9 J g0) Z) ?_
   refine zsa 7 ?_
   refine zsa 8 ?_
   refine zsa 9 ?_
   first | refine i9 10 Z a6 a6 Z Z Z Z (c6 G Z Z Z Z Z J J) ?_ | refine i9 10 Z a6 a6 Z Z Z Z (c6 G Z Z Z Z Z J g0) ?_
   refine i9 11 Z a6 a6 Z Z Z Z (a2K G Z Z Z Z) ?_
   first | refine i9 12 Z a6 a6 Z Z Z Z (s0 G Z Z Z Z Z (a2S J) Z) ?_ | refine i9 12 Z a6 a6 Z Z Z Z (s0 G Z Z Z Z Z (C7 J J) Z) ?_ | refine i9 12 Z a6 a6 Z Z Z Z (s0 G Z Z Z Z Z (w9 J J) Z) ?_ | refine i9 12 Z a6 a6 Z Z Z Z (s0 G Z Z Z Z Z (w9 J g0) Z) ?_
   refine zsa 13 ?_
   refine b6 (rs:=[14]) a6 Z (AllB.cons ?_ AllB.nil)
   refine c8 [1,2,3,4,5,6] Z Z (c4 8 Z Z Z (ArgsOK.of Z) (a1j (x.wa.drop 1) ⟨_,_⟩ (by rw [List.length_drop];omega)) Z Z (a8 ⟨Z,?_⟩))
   refine zsa 15 ?_
   refine vm6 ?_
   refine m3 ?_
   refine c4 9 Z Z Z (ArgsOK.of Z) (I9 x.sl _ ⟨1,_,_⟩ J J) Z Z ?_
   refine a6E ?_
   refine m6 (Gh.sub 8 2 np Z Z Z) (m6 (Gh.sub 7 3 np Z Z Z) (a8 ⟨(stQ x),?_,?_,trivial,⟨⟨_,Z,by (first | rfl | (rw [q9 (q:=x) J];exact congrArg (λz=>Row.row _ _ z) (a2B (f:=f9) (x:=⟨1,_,_⟩))) | (rw [s5 (q:=x) J];exact congrArg (λz=>Row.row _ _ z) (a2B (f:=f9) (x:=⟨1,_,_⟩))) | (rw [q9 (q:=x) J];exact congrArg (λz=>Row.row _ _ z) (List.map_drop).symm) | (rw [s5 (q:=x) J];done) | (rw [s5 (q:=x) J];rfl) | (rw [q9 (q:=x) J];done) | (rw [q9 (q:=x) J];rfl) | (rw [q9 (q:=x) J];exact congrArg (λz=>Row.row _ _ z) X2)| (rw [s5 (q:=x) J];exact congrArg (λz=>Row.row _ _ z) X2))⟩,Z,Z,⟨⟨_,Z,by (first | rfl | (rw [q9 (q:=x) J];exact congrArg (λz=>Row.row _ _ z) (a2B (f:=f9) (x:=⟨1,_,_⟩))) | (rw [s5 (q:=x) J];exact congrArg (λz=>Row.row _ _ z) (a2B (f:=f9) (x:=⟨1,_,_⟩))) | (rw [q9 (q:=x) J];exact congrArg (λz=>Row.row _ _ z) (List.map_drop).symm) | (rw [s5 (q:=x) J];done) | (rw [s5 (q:=x) J];rfl) | (rw [q9 (q:=x) J];done) | (rw [q9 (q:=x) J];rfl) | (rw [q9 (q:=x) J];exact congrArg (λz=>Row.row _ _ z) X2)| (rw [s5 (q:=x) J];exact congrArg (λz=>Row.row _ _ z) X2))⟩,Z,Z,trivial⟩⟩,Z,Z,Z⟩))
   ·exact ⟨hF2,hnx▸hinv.2⟩
   exact hphi
  refine m3 ?_
  refine c4 8 Z Z Z (ArgsOK.of Z) (I9 x.sl _ ⟨1,_,_⟩ J J) Z Z ?_
  refine a6E ?_
  refine m6 (Gh.sub 7 2 np Z Z Z) (m6 (Gh.sub 6 3 np Z Z Z) (a8 ⟨(stQ x),?_,?_,trivial,⟨⟨_,Z,by (first | rfl | (rw [q9 (q:=x) J];exact congrArg (λz=>Row.row _ _ z) (a2B (f:=f9) (x:=⟨1,_,_⟩))) | (rw [s5 (q:=x) J];exact congrArg (λz=>Row.row _ _ z) (a2B (f:=f9) (x:=⟨1,_,_⟩))) | (rw [q9 (q:=x) J];exact congrArg (λz=>Row.row _ _ z) (List.map_drop).symm) | (rw [s5 (q:=x) J];done) | (rw [s5 (q:=x) J];rfl) | (rw [q9 (q:=x) J];done) | (rw [q9 (q:=x) J];rfl) | (rw [q9 (q:=x) J];exact congrArg (λz=>Row.row _ _ z) X2)| (rw [s5 (q:=x) J];exact congrArg (λz=>Row.row _ _ z) X2))⟩,Z,Z,⟨⟨_,Z,by (first | rfl | (rw [q9 (q:=x) J];exact congrArg (λz=>Row.row _ _ z) (a2B (f:=f9) (x:=⟨1,_,_⟩))) | (rw [s5 (q:=x) J];exact congrArg (λz=>Row.row _ _ z) (a2B (f:=f9) (x:=⟨1,_,_⟩))) | (rw [q9 (q:=x) J];exact congrArg (λz=>Row.row _ _ z) (List.map_drop).symm) | (rw [s5 (q:=x) J];done) | (rw [s5 (q:=x) J];rfl) | (rw [q9 (q:=x) J];done) | (rw [q9 (q:=x) J];rfl) | (rw [q9 (q:=x) J];exact congrArg (λz=>Row.row _ _ z) X2)| (rw [s5 (q:=x) J];exact congrArg (λz=>Row.row _ _ z) X2))⟩,Z,Z,trivial⟩⟩,Z,Z,Z⟩))
  ·exact ⟨hF2,hnx▸hinv.2⟩
  exact hphi
 have hd:=a8V h1
 refine zgo ?_
 refine g8 (m5 Z Z Z Z (a7 (b8 Z ?_) (a7 (b8 Z ?_) d5)))
 all_goals ((rw [← hinv.2,hd];done))
theorem S3 (q:Que) (irq p:Int) (hF:QF q) (hi:0<=irq/\irq<=7) (hp:0<=p/\p<=15):Ctr Tryz.prog 138 [.agg [.lst 3 (q.sl.map f9),.lst 2 (q.wa.map i5)],.v (.int .i64 irq),.v (.int .i64 p)] (.shp true [some 2] [.fr 154 3 ((a0m q irq p).sl.map f9),.fr 183 2 ((a0m q irq p).wa.map i5)]):=by
 have hl4:=hF.sl.len
 have hwn:=hF.wn
 have hQ:=(a9M (irq:=irq) (p:=p) hF hi hp).1
 refine Ctr.of (n:=44) G Tryz.func138 Z a6 Z Z Z (λw0=>?_)
 refine j8 0 Z (λ_=>Z) (λu0=>?_)
 refine n9 (λK1 hK1=>?_)
 refine e9 ?_
 refine vm1 ?_
 refine vm7 ?_
 refine a8 (hK1 _ ?_)
 clear hK1 K1
 refine n9 (λK2 hK2=>?_)
 refine n9 (λK3 hK3=>?_)
 refine b6o ?_
 refine b7 Z Z (l9 Z (ArgsOK.of Z) (B5 q.sl irq J) Z) ?_
 refine vm4 ?_
 refine b7 Z Z (a2p Z Z Z Z) (a8 (hK3 _ ?_))
 clear hK3 K3
 refine o7 Z (λh1=>?_) (λh1=>?_)
 ·try rw [h1]
  try simp only [rfb] at h1
  have ho:=b1Z (p:=p) h1
  rw [ho] at hQ
  refine n9 (λK4 hK4=>?_)
  refine b6o ?_
  refine b7 Z Z (d3 Z Z) ?_
  refine vm4 ?_
  refine c4 3 Z Z Z (ArgsOK.of Z) (b0g q.sl irq p hF.sl h1) Z Z ?_
  refine vm4 ?_
  refine c15 ?_
  refine hK4 _ ?_
  clear hK4 K4
  refine n9 (λK5 hK5=>?_)
  refine c14 ?_
  refine c4 5 Z Z Z (ArgsOK.of Z) (J7 _ hQ) Z Z ?_
  refine b7U ?_
  refine a8 (hK5 _ ?_)
  clear hK5 K5
  refine g8 (m5 Z Z Z Z (a7 (b8 Z ?_) (a7 (b8 Z ?_) d5)))
  all_goals clear hK2 K2
  all_goals exact b6e
 ·try rw [h1]
  try simp only [rfb] at h1
  refine F9 (hK2 _ ?_)
  clear hK2 K2
  refine n9 (λK6 hK6=>?_)
  refine n9 (λK7 hK7=>?_)
  refine b6o ?_
  refine b7 Z Z (l9 Z (ArgsOK.of Z) (b0f q.wa irq J) Z) ?_
  refine vm4 ?_
  refine b7 Z Z (a2p Z Z Z Z) (a8 (hK7 _ ?_))
  clear hK7 K7
  refine o7 Z (λh2=>?_) (λh2=>?_)
  ·try rw [h2]
   try simp only [rfb] at h2
   have ho:=b11 (p:=p) h1 h2
   rw [ho] at hQ
   refine n9 (λK8 hK8=>?_)
   refine e9 ?_
   refine vm4 ?_
   refine b7 Z Z (c5 G Z Z Z Z Z Z) ?_
   refine vm4 ?_
   refine c4 4 Z Z Z (ArgsOK.of Z) (J7 _ hQ) Z Z ?_
   refine b7U ?_
   refine a8 (hK8 _ ?_)
   clear hK8 K8
   refine g8 (m5 Z Z Z Z (a7 (b8 Z ?_) (a7 (b8 Z ?_) d5)))
   all_goals clear hK6 K6
   all_goals exact b6e
  ·try rw [h2]
   try simp only [rfb] at h2
   have ho:=b10 (p:=p) h1 h2
   rw [ho] at hQ
   refine F9 (hK6 _ ?_)
   clear hK6 K6
   refine n9 (λK9 hK9=>?_)
   refine d7 11 [0] mixed a6 Z Z (λr0=>?_) (λ_ h=>h)
   refine i9 0 Z a6 a6 Z Z Z Z (m4 G Z Z Z Z) (i9 1 Z a6 a6 Z Z Z Z (o9 G Z Z Z Z Z Z Z) (i9 2 Z a6 a6 Z Z Z Z (m4 G Z Z Z Z) (i9 3 Z a6 a6 Z Z Z Z (b4E (o9 G Z Z Z Z Z Z Z)) (i9 4 Z a6 a6 Z Z Z Z (d3 Z Z) (i9 5 Z a6 a6 Z Z Z Z (d3 Z Z) (i9 6 Z a6 a6 Z Z Z Z (y9 G Z Z Z Z) ?_))))))
   refine b6 (rs:=[7]) a6 Z (AllB.cons ?_ AllB.nil)
   refine c7 [0] Z Z (c4 3 Z Z Z (ArgsOK.of Z) (a1j q.wa ⟨irq,p⟩ J) Z Z (a8 ⟨Z,?_⟩))
   refine b6 (rs:=[8]) a6 Z (AllB.cons ?_ AllB.nil)
   refine c7 [0] Z Z (b7 Z Z (y9 G Z Z Z Z) (a8 ⟨Z,?_⟩))
   refine b6 (rs:=[9]) a6 Z (AllB.cons ?_ AllB.nil)
   refine c7 [0] Z Z (c4 5 Z Z Z (ArgsOK.of Z) (J7 _ hQ) Z Z (a8 ⟨Z,?_⟩))
   refine b6 (rs:=[10]) a6 Z (AllB.cons ?_ AllB.nil)
   refine c7 [0] Z Z (l5 G Z Z Z Z Z Z Z Z Z Z Z (a8 ⟨Z,?_⟩))
   refine a4g a6 (hK9 _ ?_)
   clear hK9 K9
   exact c2k
theorem a6b (q:Que) (lim:Int) (hF:QF q):Ctr Tryz.prog 139 [.agg [.lst 3 (q.sl.map f9),.lst 2 (q.wa.map i5)],.v (.int .i64 lim)] (.shp false [some 2,none,none] [.fr 154 3 ((a9S q lim).1.sl.map f9),.fr 183 2 ((a9S q lim).1.wa.map i5),.v (.int .i64 (a9S q lim).2.1),.v (.bool (a9S q lim).2.2)]):=by
 have hl4:=hF.sl.len
 have hwn:=hF.wn
 refine Ctr.of (n:=28) G Tryz.func139 Z a6 Z Z Z (λw0=>?_)
 refine j8 0 Z (λ_=>Z) (λu0=>?_)
 refine L6 ?_
 refine m3 ?_
 refine c4 3 Z Z Z (ArgsOK.of Z) (a6T q.sl lim hF.sl) Z Z ?_
 refine zcd (λh1=>?_) (λh1=>?_)
 ·rw [b8k] at h1
  have ht:=b5h (q:=q) h1
  refine zgo ?_
  refine g8 (m5 Z Z Z Z (a7 (t7 ?_) (a7 (t7 ?_) (a7 (p5 ?_) (a7 (p5 ?_) d5)))))
  all_goals exact b82
 rw [b8k] at h1
 have ht:=b12 (q:=q) h1
 have ht2:=b2F (sl:=q.sl) h1
 refine m3 ?_
 refine c4 5 Z Z Z (ArgsOK.of Z) (S2 q J J) Z Z ?_
 refine vm4 ?_
 refine b1k ?_
 refine zgo ?_
 refine g8 (m5 Z Z Z Z (a7 (b8 Z ?_) (a7 (b8 Z ?_) (a7 (p5 ?_) (a7 (p5 ?_) d5)))))
 all_goals exact b82
theorem a36 (q:Que) (lim:Int) (hF:QF q) (hk:U4 q.sl lim=true):Ctr Tryz.prog 135 [.agg [.lst 3 (q.sl.map f9),.lst 2 (q.wa.map i5)],.v (.int .i64 lim)] (.shp false [some 2,none] [.fr 154 3 ((a23 q).sl.map f9),.fr 183 2 ((a23 q).wa.map i5),.v (.int .i64 (tkI q.sl))]):=by
 have hl4:=hF.sl.len
 have hwn:=hF.wn
 have htl:(tkS q.sl).length=4:=by unfold tkS;rw [List.length_set];exact hl4
 refine Ctr.of (n:=24) G Tryz.func135 Z a6 Z Z Z (λw0=>?_)
 refine j8 0 Z (λ_=>Z) (λu0=>?_)
 refine L6 ?_
 refine m3 ?_
 refine c4 3 Z Z Z (ArgsOK.of Z) (a8p q.sl lim hF.sl hk) Z Z ?_
 refine zgn ?_
 refine p7 (d7 11 [0,2] mixed a6 Z Z (λr0=>?_) (λ_ h=>h))
 refine zsa 1 ?_
 refine Q4 ?_
 refine zsa 8 ?_
 refine r8 (N:=5) Z (m8 (fuel:=5) [⟨0,15,3,false,.row 154 3 []⟩,⟨3,18,4,false,.row 183 2 []⟩] (AllVOK.cons (VOK.lit G Z Z Z Z Z) (AllVOK.cons (VOK.lit G Z Z Z Z Z) (AllVOK.nil))) (λhok=>?_))
 refine i7 [(2,[0])] a6 a6 (λe he=>hok e he) a6 (AllVS.cons ?_ AllVS.nil)
 refine VStep.mk1 [0,2] 15 (.own 3) 3 (.row 154 3 []) [⟨3,18,4,false,.row 183 2 []⟩] Z Z Z Z Z (λb1 _ hbn=>i6 G C1 Z Z Z Z Z Z Z Z Z g0 Z Z (a8 Z)) a6 a6 a6 a6 (i7 [(6,[3])] a6 a6 (λe he=>hok e (vin (is:=[0]) Z he)) a6 (AllVS.cons ?_ AllVS.nil))
 refine VStep.mk1 [0,2] 18 (.own 4) 4 (.row 183 2 []) [] Z Z Z Z Z (λb1 _ hbn=>i6 G C1 Z Z Z Z Z Z Z Z Z g0 Z Z (a8 Z)) a6 a6 a6 a6 (w6 ?_)
 clear hok
 refine b6 (rs:=[7]) a6 Z (AllB.cons ?_ AllB.nil)
 refine c8 [0,2] Z Z ?_
 refine F6 ?_
 refine b6 (rs:=[9]) a6 Z (AllB.cons ?_ AllB.nil)
 refine c8 [0,2] Z Z ?_
 refine F6 ?_
 refine zsa 10 ?_
 refine vm6 ?_
 refine g8 (m5 Z Z Z Z (a7 (b8 Z ?_) (a7 (b8 Z ?_) (a7 (p5 ?_) d5))))
 all_goals (first | rfl | simp | (simp [a23];done))
theorem S4 (sl:List Slot) (irq:Int) (hl:sl.length<=1048576) (h0:0<=n8 sl irq):Ctr Tryz.prog 171 [.lst 3 (sl.map f9),.v (.int .i64 irq)] (.one (.v (.int .i64 (lvl sl irq)))):=by
 have hf:=@a0l sl irq
 refine Ctr.of (n:=12) G Tryz.func171 Z a6 Z Z Z (λw0=>?_)
 refine zcl (E4 sl irq hl) ?_
 exact a6F
theorem Y1 (q:Que) (irq:Int) (hl:q.sl.length<=1048576) (h0:0<=n8 q.sl irq):Ctr Tryz.prog 182 [.agg [.lst 3 (q.sl.map f9),.lst 2 (q.wa.map i5)],.v (.int .i64 irq)] (.one (.v (.int .i64 (lvl q.sl irq)))):=by
 have hf:=@a0l q.sl irq
 refine Ctr.of (n:=14) G Tryz.func182 Z a6 Z Z Z (λw0=>?_)
 refine j8 0 Z (λ_=>Z) (λu0=>?_)
 refine w8 ?_
 refine zgd ?_
 refine zcl (B5 q.sl irq hl) ?_
 exact a6F
theorem a2k (x:Ifc) (hF:IfF x):Ctr Tryz.prog 140 [.agg [.v (.int .i64 x.ma),.lst 1 (x.st.map Rf.l8),.lst 3 (x.qu.sl.map f9),.lst 2 (x.qu.wa.map i5)]] (.one (.v (.int .i64 (a5g x)))):=by
 have hl4:=hF.qu.sl.len
 have hwn:=hF.qu.wn
 have hsn:=hF.sn
 refine Ctr.of (n:=19) G Tryz.func140 Z a6 Z Z Z (λw0=>?_)
 refine j8 0 Z (λ_=>Z) (λu0=>?_)
 refine I2 ?_
 refine vm1 ?_
 refine zgn ?_
 refine zgn ?_
 refine o7 Z (λh1=>?_) (λh1=>?_)
 ·try rw [h1]
  try simp only [rfb] at h1
  exact b72
 try rw [h1]
 try simp only [rfb] at h1
 have htn:((x.st.length:Int) - 1).toNat=x.st.length - 1:=J
 have htp:=hF.top (show x.st.length - 1 < x.st.length by omega)
 refine E9 ?_
 refine a9d ?_
 iterate 8 refine zst ?_
 refine j7 Z ?_
 refine b6p ?_
 refine G9 ?_
 refine j7 Z (r9 Z Z (l9 Z (ArgsOK.of Z) (S4 x.qu.sl _ J (by first | assumption | (rw [htn];assumption))) Z) ?_)
 exact b72
theorem a03 (x:Ifc) (hF:IfF x):Ctr Tryz.prog 137 [.agg [.v (.int .i64 x.ma),.lst 1 (x.st.map Rf.l8),.lst 3 (x.qu.sl.map f9),.lst 2 (x.qu.wa.map i5)]] (.one (.v (.int .i64 (a5g x)))):=by
 have hl4:=hF.qu.sl.len
 have hwn:=hF.qu.wn
 have hsn:=hF.sn
 refine Ctr.of (n:=18) G Tryz.func137 Z a6 Z Z Z (λw0=>?_)
 refine j8 0 Z (λ_=>Z) (λu0=>?_)
 refine I2 ?_
 refine vm1 ?_
 refine zgn ?_
 refine zgn ?_
 refine zgn ?_
 refine o7 Z (λh1=>?_) (λh1=>?_)
 ·try rw [h1]
  try simp only [rfb] at h1
  have htn:((x.st.length:Int) - 1).toNat=x.st.length - 1:=J
  have htp:=hF.top (show x.st.length - 1 < x.st.length by omega)
  refine p7 ?_
  refine a9d ?_
  refine a6O ?_
  refine j7 Z ?_
  refine b6p ?_
  refine G9 ?_
  refine j7 Z (r9 Z Z (l9 Z (ArgsOK.of Z) (Y1 x.qu _ J (by first | assumption | (rw [htn];assumption))) Z) ?_)
  exact b72
 try rw [h1]
 try simp only [rfb] at h1
 refine zgn ?_
 exact b72
theorem F8 (x:Ifc) (hn:x.st.length<=1048576) (hl:x.qu.sl.length<=1048576) (hw:x.qu.wa.length<=1048576):Ctr Tryz.prog 141 [.agg [.v (.int .i64 x.ma),.lst 1 (x.st.map Rf.l8),.lst 3 (x.qu.sl.map f9),.lst 2 (x.qu.wa.map i5)]] (.shp true [some 4] [.v (.int .i64 x.ma),.fr 3 1 (x.st.map Rf.l8),.fr 154 3 (x.qu.sl.map f9),.fr 183 2 (x.qu.wa.map i5)]):=by
 refine Ctr.of (n:=12) G Tryz.func141 Z a6 Z Z Z (λw0=>?_)
 refine j8 0 Z (λ_=>Z) (λu0=>?_)
 refine L6 ?_
 refine zgn ?_
 refine p7 (d7 10 [0] mixed a6 Z Z (λr0=>?_) (λ_ h=>h))
 refine C5 ?_
 refine zsa 5 ?_
 refine zsa 6 ?_
 refine b6 (rs:=[4]) a6 Z (AllB.cons ?_ AllB.nil)
 refine c8 [0] Z Z (c4 3 Z Z Z (ArgsOK.of Z) (u7 x.st hn) Z Z (a8 ⟨Z,?_⟩))
 refine b6 (rs:=[7]) a6 Z (AllB.cons ?_ AllB.nil)
 refine c8 [0] Z Z (c4 5 Z Z Z (ArgsOK.of Z) (S2 x.qu hl hw) Z Z (a8 ⟨Z,?_⟩))
 exact c0i
theorem Y2 (x:Ifc) (irq p:Int) (hF:IfF x) (hi:0<=irq/\irq<=7) (hp:0<=p/\p<=15):Ctr Tryz.prog 81 [.agg [.v (.int .i64 x.ma),.lst 1 (x.st.map Rf.l8),.lst 3 (x.qu.sl.map f9),.lst 2 (x.qu.wa.map i5)],.v (.int .i64 irq),.v (.int .i64 p)] (.shp true [some 4] [.v (.int .i64 x.ma),.fr 3 1 (x.st.map Rf.l8),.fr 154 3 ((a0m x.qu irq p).sl.map f9),.fr 183 2 ((a0m x.qu irq p).wa.map i5) true]):=by
 have hl4:=hF.qu.sl.len
 have hwn:=hF.qu.wn
 have hsn:=hF.sn
 refine Ctr.of (n:=17) G Tryz.func81 Z a6 Z Z Z (λw0=>?_)
 refine j8 0 Z (λ_=>Z) (λu0=>?_)
 refine L6 ?_
 refine m3 ?_
 refine c4 5 Z Z Z (ArgsOK.of Z) (F8 x J J J) Z Z ?_
 refine vm4 ?_
 refine b1k ?_
 refine m3 ?_
 refine c4 8 Z Z Z (ArgsOK.of Z) (a6U x.qu irq p hF.qu hi hp) Z Z ?_
 refine zgo ?_
 exact c2j
theorem E5 (x:Ifc) (irq p:Int) (hF:IfF x) (hi:0<=irq/\irq<=7) (hp:0<=p/\p<=15):Ctr Tryz.prog 74 [.agg [.v (.int .i64 x.ma),.lst 1 (x.st.map Rf.l8),.lst 3 (x.qu.sl.map f9),.lst 2 (x.qu.wa.map i5)],.v (.int .i64 irq),.v (.int .i64 p)] (.shp true [some 4] [.v (.int .i64 x.ma),.fr 3 1 (x.st.map Rf.l8),.fr 154 3 ((a0m x.qu irq p).sl.map f9),.fr 183 2 ((a0m x.qu irq p).wa.map i5)]):=by
 have hl4:=hF.qu.sl.len
 have hwn:=hF.qu.wn
 have hsn:=hF.sn
 refine Ctr.of (n:=18) G Tryz.func74 Z a6 Z Z Z (λw0=>?_)
 refine j8 0 Z (λ_=>Z) (λu0=>?_)
 refine L6 ?_
 refine zgn ?_
 refine p7 (d7 12 [0] mixed a6 Z Z (λr0=>?_) (λ_ h=>h))
 refine C5 ?_
 refine zsa 5 ?_
 refine zsa 6 ?_
 refine zsa 7 ?_
 refine zsa 8 ?_
 refine b6 (rs:=[4]) a6 Z (AllB.cons ?_ AllB.nil)
 refine c8 [0] Z Z (c4 3 Z Z Z (ArgsOK.of Z) (w7 x.st J) Z Z (a8 ⟨Z,?_⟩))
 refine b6 (rs:=[9]) a6 Z (AllB.cons ?_ AllB.nil)
 refine c8 [0] Z Z (c4 5 Z Z Z (ArgsOK.of Z) (S3 x.qu irq p hF.qu hi hp) Z Z (a8 ⟨Z,?_⟩))
 refine b6 (rs:=[10]) a6 Z (AllB.cons ?_ AllB.nil)
 refine a6C ?_
 refine b6 (rs:=[11]) a6 Z (AllB.cons ?_ AllB.nil)
 exact c0h
theorem a3g (x:Ifc) (hF:IfF x):Ctr Tryz.prog 80 [.agg [.v (.int .i64 x.ma),.lst 1 (x.st.map Rf.l8),.lst 3 (x.qu.sl.map f9),.lst 2 (x.qu.wa.map i5)]] (.shp false [some 4,none,none] [.v (.int .i64 (R6 x).1.ma),.fr 3 1 ((R6 x).1.st.map Rf.l8),.fr 154 3 ((R6 x).1.qu.sl.map f9),.fr 183 2 ((R6 x).1.qu.wa.map i5),.v (.int .i64 (R6 x).2.1),.v (.bool (R6 x).2.2)]):=by
 have hl4:=hF.qu.sl.len
 have hwn:=hF.qu.wn
 have hsn:=hF.sn
 refine Ctr.of (n:=34) G Tryz.func80 Z a6 Z Z Z (λw0=>?_)
 refine j8 0 Z (λ_=>Z) (λu0=>?_)
 refine L6 ?_
 refine zgn ?_
 refine p7 (d7 16 [0,1] mixed a6 Z Z (λr0=>?_) (λ_ h=>h))
 refine C5 ?_
 refine zsa 4 ?_
 refine r8 (N:=3) Z (m8 (fuel:=10) [⟨12,5,2,true,.box (avR [.slice none 0 0,.slice none 0 0] [])⟩] (AllVOK.cons (VOK.boxS G Z Z Z Z Z) (AllVOK.nil)) (λhok=>?_))
 refine i7 [(5,[])] a6 a6 (λe he=>hok e he) a6 (AllVS.cons ?_ AllVS.nil)
 refine VStep.mk0 [0,1] Z Z (λb1 _ hbn=>b7 Z Z (l9 Z (ArgsOK.of Z) (a2k x hF) Z) (a8 Z)) a6 a6 a6 a6 (l6 6 Z a6 Z Z Z Z (b4v Z Z Z) a6 a6 a6 (i7 [(7,[])] a6 a6 (λe he=>hok e he) a6 (AllVS.cons ?_ AllVS.nil)))
 refine VStep.mk0 [0,1] Z Z (λb1 _ hbn=>c4 5 Z Z Z (ArgsOK.of Z) (a6b x.qu (b33 x) hF.qu) Z Z (a8 Z)) a6 a6 a6 a6 (l6 8 Z a6 Z Z Z Z (d3 Z Z) a6 a6 a6 (l6 9 Z a6 Z Z Z Z (d4 Z Z Z) a6 a6 a6 (l6 10 Z a6 Z Z Z Z (d4 Z Z Z) a6 a6 a6 (l6 11 Z a6 Z Z Z Z (d4 Z Z Z) a6 a6 a6 (i7 [(13,[12])] a6 a6 (λe he=>hok e he) a6 (AllVS.cons ?_ AllVS.nil))))))
 refine c3x ?_
 clear hok
 refine zsa 14 ?_
 refine zsa 15 ?_
 refine vm6 ?_
 refine zcd (λh1=>?_) (λh1=>?_)
 ·rw [b5i] at h1
  have ht:=b2T (x:=x) h1
  refine zgo ?_
  refine g8 (m5 Z Z Z Z (a7 (p5 ?_) (a7 (t7 ?_) (a7 (t7 ?_) (a7 (t7 ?_) (a7 (p5 ?_) (a7 (p5 ?_) d5)))))))
  all_goals exact b83
 rw [b5i] at h1
 have ht:=a7e (x:=x) h1
 have ht2:=b12 h1
 refine zgo ?_
 apply v8 [2,3,4] [1,3,4,5] 7 14 [0,2,3,4] mixed a6 Z Z (λ_ h=>znk h)
 ·intro r0
  refine C5 ?_
  refine zsa 5 ?_
  refine zsa 8 ?_
  refine zsa 10 ?_
  refine b6 (rs:=[4,6]) a6 Z (AllB.cons ?_ (AllB.cons ?_ AllB.nil))
  ·refine c8 [0,2,3,4] Z Z (c4 6 Z Z Z (ArgsOK.of Z) (u7 x.st J) Z Z (a8 ⟨Z,?_⟩))
   refine b6 (rs:=[6]) a6 Z (AllB.cons ?_ AllB.nil)
   refine c8 [0,2,3,4] Z Z (p4 G 7 Z Z Z Z Z Z Z Z (a8 ⟨Z,?_⟩))
   refine b6 (rs:=[7]) a6 Z (AllB.cons ?_ AllB.nil)
   refine c8 [0,2,3,4] Z Z (i6 G G5 Z Z Z Z Z Z Z Z Z C0 Z Z (a8 ⟨Z,?_⟩))
   refine b6 (rs:=[9]) a6 Z (AllB.cons ?_ AllB.nil)
   refine b1i ?_
   refine b6 (rs:=[11]) a6 Z (AllB.cons ?_ AllB.nil)
   refine b1i ?_
   refine zsa 12 ?_
   refine zsa 13 ?_
   exact a33
  refine c8 [0,2,3,4] Z Z (p4 G 6 Z Z Z Z Z Z Z Z (a8 ⟨Z,?_⟩))
  refine b6 (rs:=[4]) a6 Z (AllB.cons ?_ AllB.nil)
  refine c8 [0,2,3,4] Z Z (c4 7 Z Z Z (ArgsOK.of Z) (u7 x.st J) Z Z (a8 ⟨Z,?_⟩))
  refine b6 (rs:=[7]) a6 Z (AllB.cons ?_ AllB.nil)
  refine c8 [0,2,3,4] Z Z (i6 G G5 Z Z Z Z Z Z Z Z Z C0 Z Z (a8 ⟨Z,?_⟩))
  refine b6 (rs:=[9]) a6 Z (AllB.cons ?_ AllB.nil)
  refine b1i ?_
  refine b6 (rs:=[11]) a6 Z (AllB.cons ?_ AllB.nil)
  refine b1i ?_
  refine zsa 12 ?_
  refine zsa 13 ?_
  refine a2q (Gh.sub 6 5 G5 Z Z Z) ?_
  exact a33
 refine g8 (m5 Z Z Z Z (a7 (p5 ?_) (a7 (b8 Z ?_) (a7 (b8 Z ?_) (a7 (b8 Z ?_) (a7 (p5 ?_) (a7 (p5 ?_) d5)))))))
 all_goals exact b83
theorem a0y (x:Ifc) (hF:IfF x) (hk:okT x=true):Ctr Tryz.prog 73 [.agg [.v (.int .i64 x.ma),.lst 1 (x.st.map Rf.l8),.lst 3 (x.qu.sl.map f9),.lst 2 (x.qu.wa.map i5)]] (.shp false [some 4,none] [.v (.int .i64 (a1H x).ma),.fr 3 1 ((a1H x).st.map Rf.l8),.fr 154 3 ((a1H x).qu.sl.map f9),.fr 183 2 ((a1H x).qu.wa.map i5),.v (.int .i64 (tkI x.qu.sl))]):=by
 have hl4:=hF.qu.sl.len
 have hwn:=hF.qu.wn
 have hsn:=hF.sn
 have hkk:=G2.mp hk
 have htb:=b13 hF.qu.sl hkk.1
 refine Ctr.of (n:=35) G Tryz.func73 Z a6 Z Z Z (λw0=>?_)
 refine j8 0 Z (λ_=>Z) (λu0=>?_)
 refine L6 ?_
 refine zgn ?_
 refine p7 (d7 14 [0,1] mixed a6 Z Z (λr0=>?_) (λ_ h=>h))
 refine C5 ?_
 refine zsa 4 ?_
 refine r8 (N:=3) Z (m8 (fuel:=8) [⟨11,4,2,true,.box (avR [.slice none 0 0,.slice none 0 0] [])⟩] (AllVOK.cons (VOK.boxS G Z Z Z Z Z) (AllVOK.nil)) (λhok=>?_))
 refine i7 [(5,[])] a6 a6 (λe he=>hok e he) a6 (AllVS.cons ?_ AllVS.nil)
 refine VStep.mk0 [0,1] Z Z (λb1 _ hbn=>b7 Z Z (l9 Z (ArgsOK.of Z) (a03 x hF) Z) (a8 Z)) a6 a6 a6 a6 (i7 [(6,[])] a6 a6 (λe he=>hok e he) a6 (AllVS.cons ?_ AllVS.nil))
 refine VStep.mk0 [0,1] Z Z (λb1 _ hbn=>b7 Z Z (l9 Z (ArgsOK.of Z) (a3f _ _) Z) (a8 Z)) a6 a6 a6 a6 (i7 [(7,[])] a6 a6 (λe he=>hok e he) a6 (AllVS.cons ?_ AllVS.nil))
 refine VStep.mk0 [0,1] Z Z (λb1 _ hbn=>c4 5 Z Z Z (ArgsOK.of Z) (a36 x.qu (b33 x) hF.qu hk) Z Z (a8 Z)) a6 a6 a6 a6 (l6 8 Z a6 Z Z Z Z (d3 Z Z) a6 a6 a6 (l6 9 Z a6 Z Z Z Z (d4 Z Z Z) a6 a6 a6 (l6 10 Z a6 Z Z Z Z (d4 Z Z Z) a6 a6 a6 (i7 [(12,[11])] a6 a6 (λe he=>hok e he) a6 (AllVS.cons ?_ AllVS.nil)))))
 refine c3y ?_
 clear hok
 refine zsa 13 ?_
 refine vm6 ?_
 refine p7 (d7 9 [0,1,2,3,4] mixed a6 Z Z (λr0=>?_) (λ_ h=>h))
 refine C5 ?_
 refine zsa 5 ?_
 refine r8 (N:=6) Z (m8 (fuel:=3) [⟨7,6,5,true,.box (avR [.int .i64 0,.slice none 0 0,.slice none 0 0,.slice none 0 0] [])⟩] (AllVOK.cons (VOK.boxS G Z Z Z Z Z) (AllVOK.nil)) (λhok=>?_))
 refine i7 [(4,[])] a6 a6 (λe he=>hok e he) a6 (AllVS.cons ?_ AllVS.nil)
 refine VStep.mk0 [0,1,2,3,4] Z Z (λb1 _ hbn=>c4 7 Z Z Z (ArgsOK.of Z) (w7 x.st J) Z Z (a8 Z)) a6 a6 a6 a6 (i7 [(6,[])] a6 a6 (λe he=>hok e he) a6 (AllVS.cons ?_ AllVS.nil))
 refine VStep.mk0 [0,1,2,3,4] Z Z (λb1 _ hbn=>b7 Z Z (y9 G Z Z Z Z) (a8 Z)) a6 a6 a6 a6 (i7 [(8,[7])] a6 a6 (λe he=>hok e he) a6 (AllVS.cons ?_ AllVS.nil))
 refine c3s ?_
 clear hok
 refine vm6 ?_
 refine zcd (λh1=>?_) (λh1=>?_)
 ·refine m3 ?_
  refine b6s ?_
  refine vm4 ?_
  refine v6 (Gh.forget (id:=5) (k:=1) Z Z)<|v6 (Gh.keep [0,1,2,3,4,5,6,7] Z)<|i6 G np rfl rfl rfl rfl rfl rfl rfl rfl rfl C0 rfl rfl ?_
  refine zgo ?_
  refine g8 (m5 Z Z Z Z (a7 (p5 ?_) (a7 (b8 Z ?_) (a7 (b8 Z ?_) (a7 (b8 Z ?_) (a7 (p5 ?_) d5))))))
  all_goals (first | rfl | (simp [a1H,Rf.l8];done))
 exfalso;omega
theorem a77 (x:Ifc) (k:Int) (hn:x.st.length<=1048576) (hl:x.qu.sl.length<=1048576) (hw:x.qu.wa.length<=1048576):Ctr Tryz.prog 82 [.agg [.v (.int .i64 x.ma),.lst 1 (x.st.map Rf.l8),.lst 3 (x.qu.sl.map f9),.lst 2 (x.qu.wa.map i5)],.v (.int .i64 k)] (.shp true [some 4] [.v (.int .i64 k),.fr 3 1 (x.st.map Rf.l8),.fr 154 3 (x.qu.sl.map f9),.fr 183 2 (x.qu.wa.map i5)]):=by
 refine Ctr.of (n:=11) G Tryz.func82 Z a6 Z Z Z (λw0=>?_)
 refine j8 0 Z (λ_=>Z) (λu0=>?_)
 refine L6 ?_
 refine m3 ?_
 refine c4 5 Z Z Z (ArgsOK.of Z) (F8 x hn hl hw) Z Z ?_
 refine vm4 ?_
 refine b1k ?_
 refine zgo ?_
 exact c2j
theorem H7 (l r:List Int) (hl:l.length<=1048576) (hr:r.length<=1048576):Ctr Tryz.prog 162 [.lst 1 (l.map Rf.l8),.lst 1 (r.map Rf.l8)] (.one (.v (.bool (decide (l=r))))):=by
 refine Ctr.of (n:=26) G Tryz.func162 Z a6 Z Z Z (λw0=>?_)
 refine zcd (λh1=>?_) (λh1=>?_)
 ·exact b4n
 refine zgo ?_
 refine f6 [0,1,12] [] (λ(i:Nat)=>[(13,.v (.int .i64 (i:Int)))]) (λ(i:Nat)=>[]) (λ(i:Nat)=>i<=l.length/\∀j,j < i→l.getD j default=r.getD j default) (λ(i:Nat)=>l.length - i) 0 Z Z ?_ ?_ ?_ ?_
 ·exact P3
 ·exact u3
 ·exact trivial
 intro i hinv
 refine vm2 ?_
 refine zcd (λh2=>?_) (λh2=>?_)
 ·refine zgd ?_
  refine zcd (λh3=>?_) (λh3=>?_)
  ·exact b4n
  exact b3u
 refine zf1 ?_
 all_goals exact b3h
theorem a2v (x:Slot):Ctr Tryz.prog 212 [.v (a6x x)] (.one (.v (.bool (N2 x)))):=by
 refine Ctr.of (n:=11) G Tryz.func212 Z a6 Z Z Z (λw0=>?_)
 refine w8 ?_
 refine zcd (λh1=>?_) (λh1=>?_)
 ·exact b9X
 exact b9X
theorem a5C (sl:List Slot) (hF:SlF sl):Ctr Tryz.prog 170 [.lst 3 (sl.map f9)] (.one (.fr 3 1 ((srtI (actN sl 4)).map Rf.l8))):=by
 have hl4:=hF.len
 refine Ctr.of (n:=24) G Tryz.func170 Z a6 Z Z Z (λw0=>?_)
 refine b4a ?_
 refine zgo ?_
 refine f6 [7,8] [] (λ(i:Nat)=>[(3,.own 0),(9,.v (.int .i64 (i:Int)))]) (λ(i:Nat)=>[(0,some (.row 3 1 ((actN sl i).map Rf.l8)))]) (λ(i:Nat)=>i<=4) (λ(i:Nat)=>4 - i) 0 Z Z ?_ ?_ ?_ ?_
 ·exact H0
 ·exact a71
 ·exact Y5
 intro i hi
 have hpl:=@W0 sl i
 refine vm2 ?_
 refine zcd (λh1=>?_) (λh1=>?_)
 ·refine zgo ?_
  refine vm7 ?_
  refine zcl (a2v _) ?_
  refine zcd (λh2=>?_) (λh2=>?_)
  ·refine m3 ?_
   refine b2k ?_
   refine vm9 ?_
   exact b9z
  exact b9z
 obtain rfl:i=4:=J
 refine m3 ?_
 refine H9 1 [0] Z Z Z (T7 (actN sl 4) (by have:=@W0 sl 4;omega)) Z (RowsIn.cons Z RowsIn.nil) Z Z Z ?_
 refine zfo ?_
 all_goals (rfl)
theorem b0d (l:List Int) (n:Int) (hl:l.length<=1048576) (hne:∀x∈l,x≠n):Ctr Tryz.prog 233 [.lst 1 (l.map Rf.l8),.v (.int .i64 n)] (.one (.fr 3 1 ((a9X l n).map Rf.l8))):=by
 refine Ctr.of (n:=45) G Tryz.func233 Z a6 Z Z Z (λw0=>?_)
 refine zgo ?_
 refine f6 [0,1] [] (λ(k:Nat)=>[(5,.v (.int .i64 (k:Int)))]) (λ(k:Nat)=>[]) (λ(k:Nat)=>k<=l.length/\∀j,j < k→l.getD j default < n) (λ(k:Nat)=>l.length - k) 0 Z Z ?_ ?_ ?_ ?_
 ·exact P3
 ·exact u3
 ·exact trivial
 intro k hk
 refine vm2 ?_
 refine zcd (λh1=>?_) (λh1=>?_)
 ·refine zcd (λh2=>?_) (λh2=>?_)
  ·refine zgo ?_
   refine ⟨(k+1),?_,?_,⟨⟨_,Z,by rfl⟩,Z,trivial⟩,trivial,Z,Z,Z⟩
   ·exact ⟨by omega,r5 hk.2 b9⟩
   omega
  refine zcd (λh3=>?_) (λh3=>?_)
  ·refine zcd (λh4=>?_) (λh4=>?_)
   ·exact b9U
   exact b6L
  refine zwf ?_
  exact b6L
 refine zwf ?_
 refine zcd (λh5=>?_) (λh5=>?_)
 ·refine zcd (λh6=>?_) (λh6=>?_)
  ·exact b9U
  exact b6L
 refine zwf ?_
 refine zgo ?_
 apply v8 [4] [0] 2 13 [] mixed a6 Z Z (λ_ h=>znk h)
 ·exact ws2
 refine zfo ?_
 all_goals exact b8V
theorem a6V (sl:List Slot) (hF:SlF sl):Ctr Tryz.prog 198 [.lst 3 (sl.map f9)] (.one (.fr 3 1 ((a5Z sl 4).map Rf.l8))):=by
 have hl4:=hF.len
 refine Ctr.of (n:=34) G Tryz.func198 Z a6 Z Z Z (λw0=>?_)
 refine b4a ?_
 refine zgo ?_
 refine f6 [0] [] (λ(i:Nat)=>[(3,.own 0),(4,.v (.int .i64 (i:Int)))]) (λ(i:Nat)=>[(0,some (.row 3 1 ((a5Z sl i).map Rf.l8)))]) (λ(i:Nat)=>i<=4) (λ(i:Nat)=>4 - i) 0 Z Z ?_ ?_ ?_ ?_
 ·exact H0
 ·exact a71
 ·exact Y5
 intro i hi
 refine vm2 ?_
 refine zcd (λh1=>?_) (λh1=>?_)
 ·refine zcd (λh2=>?_) (λh2=>?_)
  ·refine zwt ?_
   exact c33
  refine zcd (λh3=>?_) (λh3=>?_)
  ·exact c33
  refine zgo ?_
  refine ⟨(i+1),?_,?_,⟨⟨_,Z,by rfl⟩,Z,⟨⟨_,Z,by rfl⟩,Z,trivial⟩⟩,⟨⟨_,Z,by (first | (rw [b5r J];done) | (rw [b5s J];done))⟩,Z,Z,trivial⟩,Z,Z,Z⟩
  ·omega
  omega
 obtain rfl:i=4:=J
 refine zfo ?_
 all_goals (rfl)
theorem a4z (x:Ifc) (hn:x.st.length<=1048576) (hl:x.qu.sl.length<=1048576) (hw:x.qu.wa.length<=1048576):Ctr Tryz.prog 120 [.agg [.v (.int .i64 x.ma),.lst 1 (x.st.map Rf.l8),.lst 3 (x.qu.sl.map f9),.lst 2 (x.qu.wa.map i5)]] (.one (.v (.bool (a1g x)))):=by
 refine Ctr.of (n:=54) G Tryz.func120 Z a6 Z Z Z (λw0=>?_)
 refine j8 0 Z (λ_=>Z) (λu0=>?_)
 refine I2 ?_
 refine vm1 ?_
 refine E9 ?_
 refine I2 ?_
 refine G9 ?_
 refine vm4 ?_
 refine b7 Z Z (l9 Z (ArgsOK.of Z) (a1k x.ma) Z) ?_
 refine G9 ?_
 refine B3 Z Z Z (λh1=>?_) (λh1=>?_)
 ·try rw [h1]
  try simp only [rfb] at h1
  refine zgn ?_
  refine a09 Z ?_
  exact b70
 try rw [h1]
 try simp only [rfb] at h1
 refine G9 ?_
 refine S9 ?_
 refine b7 Z Z (l9 Z (ArgsOK.of Z) (a76 x.qu hl hw) Z) ?_
 refine zgn ?_
 refine o7 Z (λh2=>?_) (λh2=>?_)
 ·try rw [h2]
  try simp only [rfb] at h2
  exact b70
 try rw [h2]
 try simp only [rfb] at h2
 have hq:=a5d.mp h2
 have hSl:=hq.1.sl
 have hl4:=hSl.len
 refine zgn ?_
 refine I2 ?_
 refine G9 ?_
 refine vm4 ?_
 refine c4 2 Z Z Z (ArgsOK.of Z) (u7 x.st hn) Z Z ?_
 refine zgn ?_
 refine I2 ?_
 refine zst ?_
 refine vm4 ?_
 refine H9 2 [1] Z Z Z (T7 x.st hn) Z (RowsIn.cons Z RowsIn.nil) Z Z Z ?_
 refine E9 ?_
 refine b4f ?_
 refine c4 3 Z Z Z (ArgsOK.of Z) (a5C x.qu.sl hSl) Z Z ?_
 refine vm4 ?_
 refine b7 Z Z (l9 Z (ArgsOK.of Z) (H7 (srtI x.st) (srtI (actN x.qu.sl 4)) (by rw [R3];exact hn) (by rw [R3];have:=@W0 x.qu.sl 4;omega)) Z) ?_
 refine zgn ?_
 refine o7 Z (λh3=>?_) (λh3=>?_)
 ·try rw [h3]
  try simp only [rfb] at h3
  exact b70
 try rw [h3]
 try simp only [rfb] at h3
 have hin:=λj (hj:j < x.st.length)=>b15 (b16 h3 (f8.mpr ⟨j,hj,Z⟩)) hl4
 refine zgn ?_
 refine zgn ?_
 refine r7 (f6 [1] [0] (λ(i:Nat)=>[(4,.v (.int .i64 (i:Int)))]) (λ(i:Nat)=>[]) (λ(i:Nat)=>1<=i/\∀j,j < i→lvD x.qu.sl x.st j=true) (λ(i:Nat)=>x.st.length - i) 1 Z Z ?_ ?_ ?_ ?_)
 ·exact ⟨Nat.le_refl _,λj hj=>by obtain rfl:j=0:=J;exact b5x⟩
 ·exact u3
 ·exact trivial
 intro i hinv
 have hti:0 < i→((i:Int) - 1).toNat=i - 1:=λ_=>J
 refine vm2 ?_
 refine zgn ?_
 refine o7 Z (λh4=>?_) (λh4=>?_)
 ·try rw [h4]
  try simp only [rfb] at h4
  have hi1:=hin i J
  have hi2:=hin (i - 1) J
  refine b4b ?_
  refine r9 Z Z (l9 Z (ArgsOK.of Z) (S4 x.qu.sl _ hl hi1) Z) ?_
  refine a57 ?_
  refine j7 Z ?_
  refine b6p ?_
  refine G9 ?_
  refine j7 Z (r9 Z Z (l9 Z (ArgsOK.of Z) (S4 x.qu.sl _ hl (by rw [hti J];exact hi2)) Z) ?_)
  refine zgn ?_
  refine o7 Z (λh5=>?_) (λh5=>?_)
  ·try rw [h5]
   try simp only [rfb] at h5
   exact b70
  try rw [h5]
  try simp only [rfb] at h5
  refine b4d ?_
  refine ⟨(i+1),?_,?_,⟨⟨_,Z,by rfl⟩,Z,trivial⟩,trivial,Z,Z,Z⟩
  ·exact ⟨by omega,r5 hinv.2 (b5y b3i)⟩
  omega
 try rw [h4]
 try simp only [rfb] at h4
 refine zgn ?_
 refine a1M ?_
 all_goals exact b8N
theorem a78 (sl:List Slot) (irq:Int) (hF:SlF sl) (h0:0<=n8 sl irq) (ha:N2 (sl.getD (n8 sl irq).toNat default)=true):Ctr Tryz.prog 240 [.lst 3 (sl.map f9),.v (.int .i64 irq)] (.many [.fr 154 3 ((edS sl irq).map f9),.v (.bool true)]):=by
 have hl4:=hF.len
 have hf:=@a0l sl irq
 have haa:=r4.mp ha
 refine Ctr.of (n:=39) G Tryz.func240 Z a6 Z Z Z (λw0=>?_)
 refine zcl (E4 sl irq J) ?_
 refine zcd (λh1=>?_) (λh1=>?_)
 ·exact b3x
 refine zcl (a2v _) ?_
 refine zcd (λh2=>?_) (λh2=>?_)
 ·exact b3x
 refine a0G ?_
 refine zcd (λh3=>?_) (λh3=>?_)
 ·exact c0r
 exact c0r
theorem b0h (sl:List Slot) (irq:Int) (hF:SlF sl) (h0:0<=n8 sl irq) (ha:N2 (sl.getD (n8 sl irq).toNat default)=true):Ctr Tryz.prog 239 [.lst 3 (sl.map f9),.v (.int .i64 irq)] (.many [.fr 154 3 ((edS sl irq).map f9),.v (.bool true)]):=by
 have hl4:=hF.len
 have hf:=@a0l sl irq
 have haa:=r4.mp ha
 refine Ctr.of (n:=41) G Tryz.func239 Z a6 Z Z Z (λw0=>?_)
 refine zcl (B5 sl irq J) ?_
 refine zcd (λh1=>?_) (λh1=>?_)
 ·exact b3x
 refine zcd (λh2=>?_) (λh2=>?_)
 ·exact b3x
 refine zcd (λh3=>?_) (λh3=>?_)
 ·refine c19 ?_
  exact c2d
 refine a0G ?_
 refine b7R ?_
 exact c2d
theorem a6W (q:Que) (irq:Int) (hF:QF q) (h0:0<=n8 q.sl irq) (ha:N2 (q.sl.getD (n8 q.sl irq).toNat default)=true):Ctr Tryz.prog 204 [.agg [.lst 3 (q.sl.map f9),.lst 2 (q.wa.map i5)],.v (.int .i64 irq)] (.shp false [some 2,none] [.fr 154 3 ((a24 q irq).sl.map f9),.fr 183 2 ((a24 q irq).wa.map i5) true,.v (.bool true)]):=by
 have hl4:=hF.sl.len
 have hwn:=hF.wn
 have hQ:=a5e hF h0
 refine Ctr.of (n:=23) G Tryz.func204 Z a6 Z Z Z (λw0=>?_)
 refine j8 0 Z (λ_=>Z) (λu0=>?_)
 refine n9 (λK1 hK1=>?_)
 refine e9 ?_
 refine vm1 ?_
 refine vm7 ?_
 refine b3r ?_
 refine hK1 _ ?_
 clear hK1 K1
 refine n9 (λK2 hK2=>?_)
 refine b6o ?_
 refine c4 3 Z Z Z (ArgsOK.of Z) (a78 q.sl irq hF.sl h0 ha) Z Z ?_
 refine vm4 ?_
 refine c15 ?_
 refine hK2 _ ?_
 clear hK2 K2
 refine n9 (λK3 hK3=>?_)
 refine n9 (λK4 hK4=>?_)
 refine e9 ?_
 refine vm4 ?_
 refine b7 Z Z (d3 Z Z) ?_
 refine vm4 ?_
 refine b7 Z Z (b0j Z Z) (a8 (hK4 _ ?_))
 clear hK4 K4
 refine o7 Z (λh1=>?_) (λh1=>?_)
 ·exact c36
 ·try rw [h1]
  try simp only [rfb] at h1
  refine F9 (hK3 _ ?_)
  clear hK3 K3
  refine n9 (λK6 hK6=>?_)
  refine c14 ?_
  refine c4 5 Z Z Z (ArgsOK.of Z) (a0w _ hQ) Z Z ?_
  exact b9v
theorem a2l (q:Que) (irq:Int) (hF:QF q) (h0:0<=n8 q.sl irq) (ha:N2 (q.sl.getD (n8 q.sl irq).toNat default)=true):Ctr Tryz.prog 203 [.agg [.lst 3 (q.sl.map f9),.lst 2 (q.wa.map i5)],.v (.int .i64 irq)] (.shp false [some 2,none] [.fr 154 3 ((a24 q irq).sl.map f9),.fr 183 2 ((a24 q irq).wa.map i5),.v (.bool true)]):=by
 have hl4:=hF.sl.len
 have hwn:=hF.wn
 have hQ:=a5e hF h0
 refine Ctr.of (n:=23) G Tryz.func203 Z a6 Z Z Z (λw0=>?_)
 refine j8 0 Z (λ_=>Z) (λu0=>?_)
 refine n9 (λK1 hK1=>?_)
 refine e9 ?_
 refine vm1 ?_
 refine vm7 ?_
 refine b3r ?_
 refine hK1 _ ?_
 clear hK1 K1
 refine n9 (λK2 hK2=>?_)
 refine b6o ?_
 refine c4 3 Z Z Z (ArgsOK.of Z) (b0h q.sl irq hF.sl h0 ha) Z Z ?_
 refine vm4 ?_
 refine c15 ?_
 refine hK2 _ ?_
 clear hK2 K2
 refine n9 (λK3 hK3=>?_)
 refine n9 (λK4 hK4=>?_)
 refine e9 ?_
 refine vm4 ?_
 refine b7 Z Z (d3 Z Z) ?_
 refine vm4 ?_
 refine b7 Z Z (b0j Z Z) (a8 (hK4 _ ?_))
 clear hK4 K4
 refine o7 Z (λh1=>?_) (λh1=>?_)
 ·exact c36
 ·try rw [h1]
  try simp only [rfb] at h1
  refine F9 (hK3 _ ?_)
  clear hK3 K3
  refine n9 (λK6 hK6=>?_)
  refine c14 ?_
  refine c4 5 Z Z Z (ArgsOK.of Z) (J7 _ hQ) Z Z ?_
  exact b9v
theorem a6X (x:Ifc) (hG:IfG x) (hn:x.st.length≠0):Ctr Tryz.prog 160 [.agg [.v (.int .i64 x.ma),.lst 1 (x.st.map Rf.l8),.lst 3 (x.qu.sl.map f9),.lst 2 (x.qu.wa.map i5)]] (.shp false [some 4,none,none] [.v (.int .i64 x.ma),.fr 3 1 ((x.st.take (x.st.length - 1)).map Rf.l8),.fr 154 3 ((a24 x.qu (H3 x)).sl.map f9),.fr 183 2 ((a24 x.qu (H3 x)).wa.map i5) true,.v (.int .i64 (H3 x)),.v (.bool true)]):=by
 have hl4:=hG.f.qu.sl.len
 have hwn:=hG.f.qu.wn
 have hsn:=hG.f.sn
 obtain ⟨hla,hlb⟩:=b22 hG hn
 have hls:=a55 hn
 have htn:((x.st.length:Int) - 1).toNat=x.st.length - 1:=J
 refine Ctr.of (n:=40) G Tryz.func160 Z a6 Z Z Z (λw0=>?_)
 refine j8 0 Z (λ_=>Z) (λu0=>?_)
 refine L6 ?_
 refine zcd (λh1=>?_) (λh1=>?_)
 ·exfalso;omega
 refine zgn ?_
 refine p7 (d7 14 [0,1] mixed a6 Z Z (λr0=>?_) (λ_ h=>h))
 refine C5 ?_
 refine a0v ?_
 refine r8 (N:=3) Z (m8 (fuel:=6) [⟨11,6,2,true,.box (avR [.slice none 0 0,.slice none 0 0] [])⟩] (AllVOK.cons (VOK.boxS G Z Z Z Z Z) (AllVOK.nil)) (λhok=>?_))
 refine i7 [(7,[])] a6 a6 (λe he=>hok e he) a6 (AllVS.cons ?_ AllVS.nil)
 refine VStep.mk0 [0,1] Z Z (λb1 _ hbn=>c4 5 Z Z Z (ArgsOK.of Z) (a6W x.qu _ hG.f.qu (by rw [hls];exact hla) (by rw [hls];exact hlb)) Z Z (a8 Z)) a6 a6 a6 a6 (l6 8 Z a6 Z Z Z Z (d3 Z Z) a6 a6 a6 (l6 9 Z a6 Z Z Z Z (d4 Z Z Z) a6 a6 a6 (l6 10 Z a6 Z Z Z Z (d4 Z Z Z) a6 a6 a6 (i7 [(12,[11])] a6 a6 (λe he=>hok e he) a6 (AllVS.cons ?_ AllVS.nil)))))
 refine VStep.mk1 [0,1] 6 (.ptr 2 0) 2 (.box (avR [.slice none 0 0,.slice none 0 0] [])) [] Z Z Z Z Z (λb1 _ hbn=>l5 G Z Z Z Z Z Z Z Z Z Z Z (a8 Z)) a6 a6 a6 a6 (w6 ?_)
 clear hok
 refine zsa 13 ?_
 refine vm6 ?_
 refine p7 (d7 17 [0,2,3,4] mixed a6 Z Z (λr0=>?_) (λ_ h=>h))
 refine C5 ?_
 refine zsa 4 ?_
 first | refine i9 5 Z a6 a6 Z Z Z Z (I5 G Z Z Z Z Z J J J) ?_ | refine i9 5 Z a6 a6 Z Z Z Z (I5 G Z Z Z Z Z J a31 a31) ?_
 refine zsa 7 ?_
 refine zsa 9 ?_
 refine zsa 10 ?_
 refine zsa 11 ?_
 refine zsa 12 ?_
 refine zsa 13 ?_
 refine b6 (rs:=[6]) a6 Z (AllB.cons ?_ AllB.nil)
 refine c8 [0,2,3,4] Z Z (c4 6 Z Z Z (ArgsOK.of (congrArg some (congrArg (λz=>[AV.lst 1 z]) a7W))) (u7 (x.st.take (x.st.length - 1)) b3n) Z Z (a8 ⟨Z,?_⟩))
 refine b6 (rs:=[8]) a6 Z (AllB.cons ?_ AllB.nil)
 refine b1i ?_
 refine b6 (rs:=[14]) a6 Z (AllB.cons ?_ AllB.nil)
 refine b1i ?_
 refine zsa 15 ?_
 refine zsa 16 ?_
 refine vm6 ?_
 refine g8 (m5 Z Z Z Z (a7 (p5 ?_) (a7 (b8 Z ?_) (a7 (b8 Z ?_) (a7 (b8 Z ?_) (a7 (p5 ?_) (a7 (p5 ?_) d5)))))))
 all_goals (first | rfl | (rw [hls];done))
theorem a6Y (x:Ifc) (hG:IfG x) (hn:x.st.length≠0):Ctr Tryz.prog 156 [.agg [.v (.int .i64 x.ma),.lst 1 (x.st.map Rf.l8),.lst 3 (x.qu.sl.map f9),.lst 2 (x.qu.wa.map i5)]] (.shp false [some 4,none] [.v (.int .i64 x.ma),.fr 3 1 ((x.st.take (x.st.length - 1)).map Rf.l8),.fr 154 3 ((a24 x.qu (H3 x)).sl.map f9),.fr 183 2 ((a24 x.qu (H3 x)).wa.map i5),.v (.int .i64 (H3 x))]):=by
 have hl4:=hG.f.qu.sl.len
 have hwn:=hG.f.qu.wn
 have hsn:=hG.f.sn
 obtain ⟨hla,hlb⟩:=b22 hG hn
 have hls:=a55 hn
 have htn:((x.st.length:Int) - 1).toNat=x.st.length - 1:=J
 refine Ctr.of (n:=41) G Tryz.func156 Z a6 Z Z Z (λw0=>?_)
 refine j8 0 Z (λ_=>Z) (λu0=>?_)
 refine L6 ?_
 refine zcd (λh1=>?_) (λh1=>?_)
 ·exfalso;omega
 refine zgn ?_
 refine p7 (d7 15 [0,1] mixed a6 Z Z (λr0=>?_) (λ_ h=>h))
 refine b7O ?_
 refine zsa 6 ?_
 refine zsa 7 ?_
 refine r8 (N:=3) Z (m8 (fuel:=6) [⟨12,5,2,true,.box (avR [.slice none 0 0,.slice none 0 0] [])⟩] (AllVOK.cons (VOK.boxS G Z Z Z Z Z) (AllVOK.nil)) (λhok=>?_))
 refine i7 [(8,[])] a6 a6 (λe he=>hok e he) a6 (AllVS.cons ?_ AllVS.nil)
 refine VStep.mk0 [0,1] Z Z (λb1 _ hbn=>c4 5 Z Z Z (ArgsOK.of Z) (a2l x.qu _ hG.f.qu (by rw [hls];exact hla) (by rw [hls];exact hlb)) Z Z (a8 Z)) a6 a6 a6 a6 (l6 9 Z a6 Z Z Z Z (d3 Z Z) a6 a6 a6 (l6 10 Z a6 Z Z Z Z (d4 Z Z Z) a6 a6 a6 (l6 11 Z a6 Z Z Z Z (d4 Z Z Z) a6 a6 a6 (i7 [(13,[12])] a6 a6 (λe he=>hok e he) a6 (AllVS.cons ?_ AllVS.nil)))))
 refine c3x ?_
 clear hok
 refine zsa 14 ?_
 refine vm6 ?_
 refine p7 (d7 18 [0,2,3,4] mixed a6 Z Z (λr0=>?_) (λ_ h=>h))
 refine b7O ?_
 first | refine i9 6 Z a6 a6 Z Z Z Z (I5 G Z Z Z Z Z J J J) ?_ | refine i9 6 Z a6 a6 Z Z Z Z (I5 G Z Z Z Z Z J a31 a31) ?_
 refine c3B ?_
 refine zsa 14 ?_
 refine zsa 15 ?_
 refine b6 (rs:=[7]) a6 Z (AllB.cons ?_ AllB.nil)
 refine c8 [0,2,3,4] Z Z (c4 6 Z Z Z (ArgsOK.of (congrArg some (congrArg (λz=>[AV.lst 1 z]) a7W))) (w7 (x.st.take (x.st.length - 1)) b3n) Z Z (a8 ⟨Z,?_⟩))
 refine b6 (rs:=[9]) a6 Z (AllB.cons ?_ AllB.nil)
 refine b1i ?_
 refine b6 (rs:=[16]) a6 Z (AllB.cons ?_ AllB.nil)
 refine b1i ?_
 refine zsa 17 ?_
 refine vm6 ?_
 refine g8 (m5 Z Z Z Z (a7 (p5 ?_) (a7 (b8 Z ?_) (a7 (b8 Z ?_) (a7 (b8 Z ?_) (a7 (p5 ?_) d5))))))
 all_goals (first | rfl | (rw [hls];done))
theorem a37 (x:Ifc) (hn:x.st.length<=1048576) (hl:x.qu.sl.length<=1048576) (hw:x.qu.wa.length<=1048576):Ctr Tryz.prog 202 [.agg [.v (.int .i64 x.ma),.lst 1 (x.st.map Rf.l8),.lst 3 (x.qu.sl.map f9),.lst 2 (x.qu.wa.map i5)]] (.shp true [some 4] [.v (.int .i64 x.ma),.fr 3 1 (x.st.map Rf.l8),.fr 154 3 (x.qu.sl.map f9),.fr 183 2 (x.qu.wa.map i5)]):=by
 refine Ctr.of (n:=12) G Tryz.func202 Z a6 Z Z Z (λw0=>?_)
 refine j8 0 Z (λ_=>Z) (λu0=>?_)
 refine L6 ?_
 refine zgn ?_
 refine p7 (d7 10 [0] mixed a6 Z Z (λr0=>?_) (λ_ h=>h))
 refine C5 ?_
 refine zsa 5 ?_
 refine zsa 6 ?_
 refine b6 (rs:=[4]) a6 Z (AllB.cons ?_ AllB.nil)
 refine c8 [0] Z Z (c4 3 Z Z Z (ArgsOK.of Z) (w7 x.st hn) Z Z (a8 ⟨Z,?_⟩))
 refine b6 (rs:=[7]) a6 Z (AllB.cons ?_ AllB.nil)
 refine c8 [0] Z Z (c4 5 Z Z Z (ArgsOK.of Z) (a5B x.qu hl hw) Z Z (a8 ⟨Z,?_⟩))
 exact c0i
theorem a1m (m:Mach) (hM:MaG m):Ctr Tryz.prog 154 [.agg [.lst 2 (m.rs.map n6),.lst 1 (m.en.map e7),.lst 1 (m.ra.map e7),.nst none 4 (m.cp.map (r3 154 183))]] (.shp true [some 4] [.fr 118 2 (m.rs.map n6),.fr 4 1 (m.en.map e7),.fr 4 1 (m.ra.map e7),.ne 113 4 (m.cp.map (r3 154 183))]):=by
 have f1:=hM.n
 have f2:=hM.en
 have f3:=hM.ra
 have f4:=hM.rn
 refine Ctr.of (n:=38) G Tryz.func154 Z a6 Z Z Z (λw0=>?_)
 refine j8 0 Z (λ_=>Z) (λu0=>?_)
 refine L6 ?_
 refine zgn ?_
 refine p7 (d7 16 [0,1] mixed a6 Z Z (λr0=>?_) (λ_ h=>h))
 refine b0b ?_
 refine zsa 9 ?_
 refine zsa 10 ?_
 refine r8 (N:=7) Z (m8 (fuel:=5) [⟨0,5,2,false,.row 118 2 []⟩,⟨4,9,3,false,.row 4 1 []⟩,⟨8,13,4,false,.row 4 1 []⟩,⟨12,17,5,false,.row 113 4 []⟩,⟨14,3,6,true,.box (avR [.slice none 0 0,.slice none 0 0,.slice none 0 0,.slice none 0 0] [])⟩] (AllVOK.cons (VOK.lit G Z Z Z Z Z) (AllVOK.cons (VOK.lit G Z Z Z Z Z) (AllVOK.cons (VOK.lit G Z Z Z Z Z) (AllVOK.cons (VOK.lit G Z Z Z Z Z) (AllVOK.cons (VOK.boxS G Z Z Z Z Z) (AllVOK.nil)))))) (λhok=>?_))
 refine i7 [(3,[0])] a6 a6 (λe he=>hok e he) a6 (AllVS.cons ?_ AllVS.nil)
 refine VStep.mk1 [0,1] 5 (.own 2) 2 (.row 118 2 []) [⟨4,9,3,false,.row 4 1 []⟩,⟨8,13,4,false,.row 4 1 []⟩,⟨12,17,5,false,.row 113 4 []⟩,⟨14,3,6,true,.box (avR [.slice none 0 0,.slice none 0 0,.slice none 0 0,.slice none 0 0] [])⟩] Z Z Z Z Z (λb1 _ hbn=>i6 G C1 Z Z Z Z Z Z Z Z Z C0 Z Z (a8 Z)) a6 a6 a6 a6 (i7 [(7,[4])] a6 a6 (λe he=>hok e (vin (is:=[0]) Z he)) a6 (AllVS.cons ?_ AllVS.nil))
 refine VStep.mk1 [0,1] 9 (.own 3) 3 (.row 4 1 []) [⟨8,13,4,false,.row 4 1 []⟩,⟨12,17,5,false,.row 113 4 []⟩,⟨14,3,6,true,.box (avR [.slice none 0 0,.slice none 0 0,.slice none 0 0,.slice none 0 0] [])⟩] Z Z Z Z Z (λb1 _ hbn=>i6 G C1 Z Z Z Z Z Z Z Z Z C0 Z Z (a8 Z)) a6 a6 a6 a6 (i7 [(11,[8])] a6 a6 (λe he=>hok e (vin (is:=[0,4]) Z he)) a6 (AllVS.cons ?_ AllVS.nil))
 refine VStep.mk1 [0,1] 13 (.own 4) 4 (.row 4 1 []) [⟨12,17,5,false,.row 113 4 []⟩,⟨14,3,6,true,.box (avR [.slice none 0 0,.slice none 0 0,.slice none 0 0,.slice none 0 0] [])⟩] Z Z Z Z Z (λb1 _ hbn=>i6 G C1 Z Z Z Z Z Z Z Z Z C0 Z Z (a8 Z)) a6 a6 a6 a6 (i7 [(13,[12])] a6 a6 (λe he=>hok e (vin (is:=[0,4,8]) Z he)) a6 (AllVS.cons ?_ AllVS.nil))
 refine VStep.mk1 [0,1] 17 (.own 5) 5 (.row 113 4 []) [⟨14,3,6,true,.box (avR [.slice none 0 0,.slice none 0 0,.slice none 0 0,.slice none 0 0] [])⟩] Z Z Z Z Z (λb1 _ hbn=>b7 Z Z (y9 G Z Z Z Z) (a8 Z)) a6 a6 a6 a6 (i7 [(15,[14])] a6 a6 (λe he=>hok e (vin (is:=[0,4,8,12]) Z he)) a6 (AllVS.cons ?_ AllVS.nil))
 refine c3u ?_
 clear hok
 refine b7S ?_
 refine f6 [1,2,3] [0,1,2,3,4,6] (λ(k:Nat)=>[(4,.v (.int .i64 (k:Int)))]) (λ(k:Nat)=>[(5,some (.nest 113 4 ((m.cp.take k).map (r3 154 183)) []))]) (λ(k:Nat)=>k<=m.cp.length) (λ(k:Nat)=>m.cp.length - k) 0 Z Z ?_ ?_ ?_ ?_
 ·exact H0
 ·exact R7
 ·exact Y5
 intro k hk
 have hkl:((m.cp.take k).map (r3 154 183)).length=k:=(by rw [List.length_map,List.length_take];omega)
 refine vm2 ?_
 refine zcd (λh1=>?_) (λh1=>?_)
 ·obtain ⟨g1,g2,g3⟩:=hM.lens (k:=k) J
  refine zgo ?_
  apply v8 [1,2,3,4] [0,1,2,3,4,6,11] 12 12 [0,1,2,3,4] mixed a6 Z Z (λ_ h=>znk h)
  ·intro r0
   refine zsa 0 ?_
   refine zsa 2 ?_
   refine zsa 3 ?_
   refine a0v ?_
   refine b6 (rs:=[1,7]) a6 Z (AllB.cons ?_ (AllB.cons ?_ AllB.nil))
   ·refine c8 [0,1,2,3,4] Z Z ?_
    refine F6 ?_
    refine b6 (rs:=[7]) a6 Z (AllB.cons ?_ AllB.nil)
    refine c8 [0,1,2,3,4] Z Z (c4 10 Z Z Z (ArgsOK.of Z) (a37 (m.cp.getD k default) J J J) Z Z (a8 ⟨Z,?_⟩))
    exact c0G
   refine c8 [0,1,2,3,4] Z Z (c4 10 Z Z Z (ArgsOK.of Z) (a37 (m.cp.getD k default) J J J) Z Z (a8 ⟨Z,?_⟩))
   refine b6 (rs:=[1,8]) a6 Z (AllB.cons ?_ (AllB.cons ?_ AllB.nil))
   ·refine c8 [0,1,2,3,4] Z Z ?_
    refine F6 ?_
    exact c0G
   refine c8 [0,1,2,3,4] Z Z (s9 G 11 Z Z Z Z Z Z Z Z (.v Z (.own Z (.own Z (.own Z .nil)))) Z Z Z Z (a8 ⟨Z,?_⟩))
   refine b6 (rs:=[1]) a6 Z (AllB.cons ?_ AllB.nil)
   refine c8 [0,1,2,3,4] Z Z ?_
   refine F6 ?_
   exact b94
  refine X3 ?_
  refine m6 (Gh.sub 11 5 np Z Z Z) (a8 ⟨(k+1),?_,?_,⟨⟨_,Z,by rfl⟩,Z,trivial⟩,⟨⟨_,Z,by (exact congrArg (λz=>Row.nest _ _ z []) (b03 J Z))⟩,Z,Z,trivial⟩,Z,Z,Z⟩)
  ·omega
  omega
 obtain rfl:k=m.cp.length:=J
 refine zgo ?_
 refine g8 (m5 Z Z Z Z (a7 (b8 Z ?_) (a7 (b8 Z ?_) (a7 (b8 Z ?_) (a7 (t8 Z ?_) d5)))))
 all_goals (first | rfl | (rw [List.take_length];done) | (rw [List.take_length];rfl) | simp)
theorem a04 (m:Mach) (hM:MaG m):Ctr Tryz.prog 112 [.agg [.lst 2 (m.rs.map n6),.lst 1 (m.en.map e7),.lst 1 (m.ra.map e7),.nst none 4 (m.cp.map (r3 154 183))]] (.shp true [some 4] [.fr 118 2 (m.rs.map n6),.fr 4 1 (m.en.map e7),.fr 4 1 (m.ra.map e7),.ne 113 4 (m.cp.map (r3 154 183))]):=by
 have f1:=hM.n
 have f2:=hM.en
 have f3:=hM.ra
 have f4:=hM.rn
 refine Ctr.of (n:=36) G Tryz.func112 Z a6 Z Z Z (λw0=>?_)
 refine j8 0 Z (λ_=>Z) (λu0=>?_)
 refine L6 ?_
 refine zgn ?_
 refine p7 (d7 16 [0,1] mixed a6 Z Z (λr0=>?_) (λ_ h=>h))
 refine b0b ?_
 refine zsa 9 ?_
 refine zsa 10 ?_
 refine r8 (N:=7) Z (m8 (fuel:=5) [⟨0,6,2,false,.row 118 2 []⟩,⟨4,10,3,false,.row 4 1 []⟩,⟨8,14,4,false,.row 4 1 []⟩,⟨12,18,5,false,.row 113 4 []⟩,⟨14,3,6,true,.box (avR [.slice none 0 0,.slice none 0 0,.slice none 0 0,.slice none 0 0] [])⟩] (AllVOK.cons (VOK.lit G Z Z Z Z Z) (AllVOK.cons (VOK.lit G Z Z Z Z Z) (AllVOK.cons (VOK.lit G Z Z Z Z Z) (AllVOK.cons (VOK.lit G Z Z Z Z Z) (AllVOK.cons (VOK.boxS G Z Z Z Z Z) (AllVOK.nil)))))) (λhok=>?_))
 refine i7 [(3,[0])] a6 a6 (λe he=>hok e he) a6 (AllVS.cons ?_ AllVS.nil)
 refine VStep.mk1 [0,1] 6 (.own 2) 2 (.row 118 2 []) [⟨4,10,3,false,.row 4 1 []⟩,⟨8,14,4,false,.row 4 1 []⟩,⟨12,18,5,false,.row 113 4 []⟩,⟨14,3,6,true,.box (avR [.slice none 0 0,.slice none 0 0,.slice none 0 0,.slice none 0 0] [])⟩] Z Z Z Z Z (λb1 _ hbn=>i6 G C1 Z Z Z Z Z Z Z Z Z C0 Z Z (a8 Z)) a6 a6 a6 a6 (i7 [(7,[4])] a6 a6 (λe he=>hok e (vin (is:=[0]) Z he)) a6 (AllVS.cons ?_ AllVS.nil))
 refine VStep.mk1 [0,1] 10 (.own 3) 3 (.row 4 1 []) [⟨8,14,4,false,.row 4 1 []⟩,⟨12,18,5,false,.row 113 4 []⟩,⟨14,3,6,true,.box (avR [.slice none 0 0,.slice none 0 0,.slice none 0 0,.slice none 0 0] [])⟩] Z Z Z Z Z (λb1 _ hbn=>i6 G C1 Z Z Z Z Z Z Z Z Z C0 Z Z (a8 Z)) a6 a6 a6 a6 (i7 [(11,[8])] a6 a6 (λe he=>hok e (vin (is:=[0,4]) Z he)) a6 (AllVS.cons ?_ AllVS.nil))
 refine VStep.mk1 [0,1] 14 (.own 4) 4 (.row 4 1 []) [⟨12,18,5,false,.row 113 4 []⟩,⟨14,3,6,true,.box (avR [.slice none 0 0,.slice none 0 0,.slice none 0 0,.slice none 0 0] [])⟩] Z Z Z Z Z (λb1 _ hbn=>i6 G C1 Z Z Z Z Z Z Z Z Z C0 Z Z (a8 Z)) a6 a6 a6 a6 (i7 [(13,[12])] a6 a6 (λe he=>hok e (vin (is:=[0,4,8]) Z he)) a6 (AllVS.cons ?_ AllVS.nil))
 refine VStep.mk1 [0,1] 18 (.own 5) 5 (.row 113 4 []) [⟨14,3,6,true,.box (avR [.slice none 0 0,.slice none 0 0,.slice none 0 0,.slice none 0 0] [])⟩] Z Z Z Z Z (λb1 _ hbn=>b7 Z Z (y9 G Z Z Z Z) (a8 Z)) a6 a6 a6 a6 (i7 [(15,[14])] a6 a6 (λe he=>hok e (vin (is:=[0,4,8,12]) Z he)) a6 (AllVS.cons ?_ AllVS.nil))
 refine c3u ?_
 clear hok
 refine b7S ?_
 refine f6 [2,3,21,22] [1,2,3,4,6] (λ(k:Nat)=>[(23,.v (.int .i64 (k:Int)))]) (λ(k:Nat)=>[(5,some (.nest 113 4 ((m.cp.take k).map (r3 154 183)) []))]) (λ(k:Nat)=>k<=m.cp.length) (λ(k:Nat)=>m.cp.length - k) 0 Z Z ?_ ?_ ?_ ?_
 ·exact H0
 ·exact R7
 ·exact Y5
 intro k hk
 have hkl:((m.cp.take k).map (r3 154 183)).length=k:=(by rw [List.length_map,List.length_take];omega)
 refine vm2 ?_
 refine zcd (λh1=>?_) (λh1=>?_)
 ·obtain ⟨g1,g2,g3⟩:=hM.lens (k:=k) J
  refine m3 ?_
  refine b1g ?_
  refine vm4 ?_
  refine a94 26 Z (λ_=>Z) λv26=>l5 G Z Z Z Z Z Z Z Z Z Z Z ?_
  refine zgo ?_
  apply v8 [2,3,21,22,23] [1,2,3,4,6,12] 13 8 [1,2,3,4,7] mixed a6 Z Z (λ_ h=>znk h)
  ·intro r0
   refine zsa 0 ?_
   refine zsa 2 ?_
   refine b6 (rs:=[1,3]) a6 Z (AllB.cons ?_ (AllB.cons ?_ AllB.nil))
   ·refine b4e ?_
    refine b6 (rs:=[3]) a6 Z (AllB.cons ?_ AllB.nil)
    refine c8 [1,2,3,4,7] Z Z (c4 11 Z Z Z (ArgsOK.of Z) (F8 (m.cp.getD k default) J J J) Z Z (a8 ⟨Z,?_⟩))
    exact c0H
   refine c8 [1,2,3,4,7] Z Z (c4 11 Z Z Z (ArgsOK.of Z) (F8 (m.cp.getD k default) J J J) Z Z (a8 ⟨Z,?_⟩))
   refine b6 (rs:=[1,4]) a6 Z (AllB.cons ?_ (AllB.cons ?_ AllB.nil))
   ·refine b4e ?_
    exact c0H
   refine c8 [1,2,3,4,7] Z Z (s9 G 12 Z Z Z Z Z Z Z Z (.v Z (.own Z (.own Z (.own Z .nil)))) Z Z Z Z (a8 ⟨Z,?_⟩))
   refine b6 (rs:=[1]) a6 Z (AllB.cons ?_ AllB.nil)
   refine b4e ?_
   exact b96
  refine e9 ?_
  refine G9 ?_
  refine m6 (Gh.sub 12 5 np Z Z Z) (a8 ⟨(k+1),?_,?_,⟨⟨_,Z,by rfl⟩,Z,trivial⟩,⟨⟨_,Z,by (exact congrArg (λz=>Row.nest _ _ z []) (b03 J Z))⟩,Z,Z,trivial⟩,Z,Z,Z⟩)
  ·omega
  omega
 obtain rfl:k=m.cp.length:=J
 refine zgo ?_
 refine g8 (m5 Z Z Z Z (a7 (b8 Z ?_) (a7 (b8 Z ?_) (a7 (b8 Z ?_) (a7 (t8 Z ?_) d5)))))
 all_goals (first | rfl | (rw [List.take_length];done) | (rw [List.take_length];rfl) | simp)
end Go.Proofs.YtcnodpipinlpcaaGreat
