/- Texts merged into one: M9, M14, M22, M23, W7. -/
import Derived.Test.YtdhckhjphmjniaaGreatDoorPFnScriptC
set_option maxHeartbeats 4000000
set_option linter.unusedSimpArgs false
set_option linter.unusedVariables false
set_option maxRecDepth 20000
namespace Go.Proofs.YtdhckhjphmjniaaGreatDoor
open Go Go.Rf
theorem a4G (a b:Int):Ctr Tryz.prog 199 [.v (.int .i64 a),.v (.int .i64 b)] (.one (.v (.int .i64 (min a b)))):=by
 refine Ctr.of (n:=10) G Tryz.func199 Z a8 Z Z Z (λw0=>?_)
 exact c30
theorem a9c (sl:List Slot) (lim:Int) (hF:SlF sl):Ctr Tryz.prog 280 [.lst 3 (sl.map j5),.v (.int .i64 lim)] (.many [.fr 104 3 ((tkT sl lim).1.map j5),.v (.int .i64 (tkT sl lim).2.1),.v (.bool (tkT sl lim).2.2)]):=by
 have hl4:=hF.len
 have hb:=@a04 sl true
 have hf:=@a1q sl
 refine Ctr.of (n:=33) G Tryz.func280 Z a8 Z Z Z (λw0=>?_)
 refine zcl (U9 sl true J hF.difS) ?_
 refine zcd (λh1=>?_) (λh1=>?_)
 ·refine zwt ?_
  exact c3I
 refine zcd (λh2=>?_) (λh2=>?_)
 ·exact c3I
 refine a4y ?_
 refine zgn ?_
 refine zgn ?_
 refine s9 (l2 9 [0] mixed a8 Z Z (λr0=>?_) (λ_ h=>h))
 refine b7F ?_
 refine zsa 5 ?_
 refine b7 (rs:=[3]) a8 Z (AllB.cons ?_ AllB.nil)
 refine g9 [0] Z Z (d4 2 Z Z Z (ArgsOK.of Z) (a0P sl _ ⟨_,_,_⟩ J J) Z Z (b4 ⟨Z,?_⟩))
 refine zsa 6 ?_
 refine zsa 7 ?_
 refine zsa 8 ?_
 refine F3 ?_
 refine d8 (r4 Z Z Z Z (b3 (c8 Z ?_) (b3 (j8 ?_) (b3 (j8 ?_) d9))))
 all_goals exact c27
theorem b05 (sl:List Slot) (lim:Int) (hF:SlF sl) (hk:a0d sl lim=true):Ctr Tryz.prog 253 [.lst 3 (sl.map j5),.v (.int .i64 lim)] (.many [.fr 104 3 ((tkS sl).map j5),.v (.int .i64 (tkI sl))]):=by
 have hl4:=hF.len
 have hb:=@a04 sl true
 have hf:=@a1q sl
 have hkk:=L9.mp hk
 refine Ctr.of (n:=33) G Tryz.func253 Z a8 Z Z Z (λw0=>?_)
 refine zcl (a0Q sl J) ?_
 refine zcd (λh1=>?_) (λh1=>?_)
 ·exfalso;omega
 refine zcd (λh2=>?_) (λh2=>?_)
 ·exfalso;omega
 refine a4y ?_
 refine zgn ?_
 refine zgn ?_
 refine s9 (l2 8 [0] mixed a8 Z Z (λr0=>?_) (λ_ h=>h))
 refine b7F ?_
 refine zsa 5 ?_
 refine b7 (rs:=[3]) a8 Z (AllB.cons ?_ AllB.nil)
 refine g9 [0] Z Z (d4 2 Z Z Z (ArgsOK.of Z) (N5 sl _ ⟨_,_,_⟩ J J) Z Z (b4 ⟨Z,?_⟩))
 refine zsa 6 ?_
 refine zsa 7 ?_
 refine F3 ?_
 refine d8 (r4 Z Z Z Z (b3 (c8 Z ?_) (b3 (j8 ?_) d9)))
 all_goals (rfl)
theorem b06 (sl:List Slot) (irq p:Int) (hF:SlF sl) (h0:0<=p7 sl irq):Ctr Tryz.prog 296 [.lst 3 (sl.map j5),.v (.int .i64 irq),.v (.int .i64 p)] (.many [.fr 104 3 ((ptS sl irq).map j5),.v (.bool true)]):=by
 have hl4:=hF.len
 have hf:=@a1q sl irq
 refine Ctr.of (n:=38) G Tryz.func296 Z a8 Z Z Z (λw0=>?_)
 refine zcl (H3 sl irq J) ?_
 refine zcd (λh1=>?_) (λh1=>?_)
 ·refine a4y ?_
  refine zcd (λh2=>?_) (λh2=>?_)
  ·exact c4u
  exact c4u
 exfalso;omega
theorem b3j (sl:List Slot) (irq p:Int) (hF:SlF sl) (h0:0<=p7 sl irq):Ctr Tryz.prog 256 [.lst 3 (sl.map j5),.v (.int .i64 irq),.v (.int .i64 p)] (.many [.fr 104 3 ((ptS sl irq).map j5),.v (.bool true)]):=by
 have hl4:=hF.len
 have hf:=@a1q sl irq
 refine Ctr.of (n:=39) G Tryz.func256 Z a8 Z Z Z (λw0=>?_)
 refine zcl (F0 sl irq J) ?_
 refine zcd (λh1=>?_) (λh1=>?_)
 ·refine a4y ?_
  refine zcd (λh2=>?_) (λh2=>?_)
  ·exact c4v
  exact c4v
 exfalso;omega
theorem Y4 (q:Que) (hl:q.sl.length<=1048576) (hw:q.wa.length<=1048576):Ctr Tryz.prog 170 [.agg [.lst 3 (q.sl.map j5),.lst 2 (q.wa.map j9)]] (.shp true [some 2] [.fr 104 3 (q.sl.map j5),.fr 76 2 (q.wa.map j9)]):=by
 exact c4z
theorem a9d (q:Que) (irq p:Int) (hF:QF q) (hi:0<=irq/\irq<=7) (hp:0<=p/\p<=15):Ctr Tryz.prog 279 [.agg [.lst 3 (q.sl.map j5),.lst 2 (q.wa.map j9)],.v (.int .i64 irq),.v (.int .i64 p)] (.shp true [some 2] [.fr 104 3 ((a2Q q irq p).sl.map j5),.fr 76 2 ((a2Q q irq p).wa.map j9) true]):=by
 have hl4:=hF.sl.len
 have hwn:=hF.wn
 have hQ:=(b5c (irq:=irq) (p:=p) hF hi hp).1
 refine Ctr.of (n:=40) G Tryz.func279 Z a8 Z Z Z (λw0=>?_)
 refine n8 0 Z (λ_=>Z) (λu0=>?_)
 refine vm1 ?_
 refine vm9 ?_
 refine vm3 ?_
 refine d4 4 Z Z Z (ArgsOK.of Z) (Y4 q J J) Z Z ?_
 refine p6 ?_
 refine b7E ?_
 refine zcl (H3 q.sl irq J) ?_
 refine zcd (λh1=>?_) (λh1=>?_)
 ·have ho:=b5e (p:=p) h1
  rw [ho] at hQ
  refine vm3 ?_
  refine d4 6 Z Z Z (ArgsOK.of Z) (b06 q.sl irq p hF.sl h1) Z Z ?_
  exact c4y
 refine zcl (a1v q.wa irq J) ?_
 refine zcd (λh2=>?_) (λh2=>?_)
 ·have ho:=b5f (p:=p) h1 h2
  rw [ho] at hQ
  refine vm3 ?_
  refine d4 6 Z Z Z (ArgsOK.of Z) (a1Y q.wa ⟨irq,p⟩ J) Z Z ?_
  exact c4y
 have ho:=b5g (p:=p) h1 h2
 rw [ho] at hQ
 refine vm3 ?_
 refine d4 7 Z Z Z (ArgsOK.of Z) (a1r _ hQ) Z Z ?_
 refine zgo ?_
 exact c6V
theorem O5 (q:Que) (hF:QF q):Ctr Tryz.prog 255 [.agg [.lst 3 (q.sl.map j5),.lst 2 (q.wa.map j9)]] (.shp true [some 2] [.fr 104 3 ((a2P q).sl.map j5),.fr 76 2 ((a2P q).wa.map j9)]):=by
 have hq4:=hF.sl.len
 have hqw:=hF.wn
 refine Ctr.of (n:=56) G Tryz.func255 Z a8 Z Z Z (λw0=>?_)
 refine n8 0 Z (λ_=>Z) (λu0=>?_)
 refine vm1 ?_
 refine vm9 ?_
 refine vm3 ?_
 refine d4 4 Z Z Z (ArgsOK.of Z) (a7C q J J) Z Z ?_
 refine p6 ?_
 refine b7E ?_
 refine zgo ?_
 refine i7 [2,3] [1,4] (λ(x:Que)=>[]) (λ(x:Que)=>[(2,some (.row 104 3 (x.sl.map j5))),(3,some (.row 76 2 (x.wa.map j9)))]) (λ(x:Que)=>QF x/\a2P x=a2P q) (λ(x:Que)=>phi x) q Z Z ?_ ?_ ?_ ?_
 ·exact ⟨hF,Z⟩
 ·exact trivial
 ·exact b3e
 intro x hinv
 have hFx:=hinv.1
 have hl4:=hFx.sl.len
 have hwn:=hFx.wn
 have hf:=@b42 x.sl
 have hb:=@a04 x.sl false
 refine vm2 ?_
 refine zcl (a2Y x J J) ?_
 refine zcd (λh1=>?_) (λh1=>?_)
 ·obtain ⟨hw0,hbb⟩:=b51 hFx h1
  have hnx:=b1D hFx h1
  obtain ⟨hF2,hphi⟩:=b1B hFx h1
  refine vm3 ?_
  first | refine b5 Z Z (c7 G Z Z Z Z Z J J) ?_ | refine b5 Z Z (c7 G Z Z Z Z Z J m7) ?_
  refine p6 ?_
  first | refine b5 Z Z (f6 G Z Z Z Z (R1 J) Z) ?_ | refine b5 Z Z (f6 G Z Z Z Z (A7 J J) Z) ?_ | refine b5 Z Z (f6 G Z Z Z Z (A1 J J) Z) ?_ | refine b5 Z Z (f6 G Z Z Z Z (A1 J m7) Z) ?_
  refine p6 ?_
  refine d7 G 6 Z Z Z Z Z ?_
  refine vm3 ?_
  refine m5 G 7 Z Z Z Z Z Z Z Z ?_
  refine vm3 ?_
  refine c6G ?_
  refine p6 ?_
  refine a9T G np Z Z Z Z Z Z Z (ArgOK.sub Z w4) Z m7 Z Z ?_
  refine zgn ?_
  refine c0U (id:=6) ((x.wa.drop 1).map j9) Z a0H ?_
  refine zcl (a2q x.sl J) ?_
  refine zcd (λh2=>?_) (λh2=>?_)
  ·refine zcl (a3U x.sl J) ?_
   refine zgn ?_
   refine l2 16 [1,2,3,4,5,6] mixed a8 Z Z (λr0=>?_) (λ_ h=>h)
   refine a06 ?_
   first | refine d5 4 Z a8 a8 Z Z Z Z (c7 G Z Z Z Z Z J J) ?_ | refine d5 4 Z a8 a8 Z Z Z Z (c7 G Z Z Z Z Z J m7) ?_
   refine d5 5 Z a8 a8 Z Z Z Z (a34 G Z Z Z Z) ?_
   first | refine d5 6 Z a8 a8 Z Z Z Z (f8 G Z Z Z Z Z (R1 J) Z) ?_ | refine d5 6 Z a8 a8 Z Z Z Z (f8 G Z Z Z Z Z (A7 J J) Z) ?_ | refine d5 6 Z a8 a8 Z Z Z Z (f8 G Z Z Z Z Z (A1 J J) Z) ?_ | refine d5 6 Z a8 a8 Z Z Z Z (f8 G Z Z Z Z Z (A1 J m7) Z) ?_
   refine zsa 7 ?_
   refine zsa 8 ?_
   refine zsa 9 ?_
   first | refine d5 10 Z a8 a8 Z Z Z Z (c7 G Z Z Z Z Z J J) ?_ | refine d5 10 Z a8 a8 Z Z Z Z (c7 G Z Z Z Z Z J m7) ?_
   refine d5 11 Z a8 a8 Z Z Z Z (a34 G Z Z Z Z) ?_
   first | refine d5 12 Z a8 a8 Z Z Z Z (f8 G Z Z Z Z Z (R1 J) Z) ?_ | refine d5 12 Z a8 a8 Z Z Z Z (f8 G Z Z Z Z Z (A7 J J) Z) ?_ | refine d5 12 Z a8 a8 Z Z Z Z (f8 G Z Z Z Z Z (A1 J J) Z) ?_ | refine d5 12 Z a8 a8 Z Z Z Z (f8 G Z Z Z Z Z (A1 J m7) Z) ?_
   refine zsa 13 ?_
   refine b7 (rs:=[14]) a8 Z (AllB.cons ?_ AllB.nil)
   refine g9 [1,2,3,4,5,6] Z Z (d4 8 Z Z Z (ArgsOK.of Z) (a2o (x.wa.drop 1) ⟨_,_⟩ (by rw [List.length_drop];omega)) Z Z (b4 ⟨Z,?_⟩))
   refine zsa 15 ?_
   refine F3 ?_
   refine vm3 ?_
   refine d4 9 Z Z Z (ArgsOK.of Z) (N5 x.sl _ ⟨1,_,_⟩ J J) Z Z ?_
   iterate 3 refine zst ?_
   refine r9 (Gh.sub 8 2 np Z Z Z) (r9 (Gh.sub 7 3 np Z Z Z) (b4 ⟨(stQ x),?_,?_,trivial,⟨⟨_,Z,by (first | rfl | (rw [s1 (q:=x) J];exact congrArg (λz=>Row.row _ _ z) (a3W (f:=j5) (x:=⟨1,_,_⟩))) | (rw [u9 (q:=x) J];exact congrArg (λz=>Row.row _ _ z) (a3W (f:=j5) (x:=⟨1,_,_⟩))) | (rw [s1 (q:=x) J];exact congrArg (λz=>Row.row _ _ z) (List.map_drop).symm) | (rw [u9 (q:=x) J];done) | (rw [u9 (q:=x) J];rfl) | (rw [s1 (q:=x) J];done) | (rw [s1 (q:=x) J];rfl) | (rw [s1 (q:=x) J];exact congrArg (λz=>Row.row _ _ z) a0H)| (rw [u9 (q:=x) J];exact congrArg (λz=>Row.row _ _ z) a0H))⟩,Z,Z,⟨⟨_,Z,by (first | rfl | (rw [s1 (q:=x) J];exact congrArg (λz=>Row.row _ _ z) (a3W (f:=j5) (x:=⟨1,_,_⟩))) | (rw [u9 (q:=x) J];exact congrArg (λz=>Row.row _ _ z) (a3W (f:=j5) (x:=⟨1,_,_⟩))) | (rw [s1 (q:=x) J];exact congrArg (λz=>Row.row _ _ z) (List.map_drop).symm) | (rw [u9 (q:=x) J];done) | (rw [u9 (q:=x) J];rfl) | (rw [s1 (q:=x) J];done) | (rw [s1 (q:=x) J];rfl) | (rw [s1 (q:=x) J];exact congrArg (λz=>Row.row _ _ z) a0H)| (rw [u9 (q:=x) J];exact congrArg (λz=>Row.row _ _ z) a0H))⟩,Z,Z,trivial⟩⟩,Z,Z,Z⟩))
   ·exact ⟨hF2,hnx▸hinv.2⟩
   exact hphi
  refine vm3 ?_
  refine d4 8 Z Z Z (ArgsOK.of Z) (N5 x.sl _ ⟨1,_,_⟩ J J) Z Z ?_
  iterate 3 refine zst ?_
  refine r9 (Gh.sub 7 2 np Z Z Z) (r9 (Gh.sub 6 3 np Z Z Z) (b4 ⟨(stQ x),?_,?_,trivial,⟨⟨_,Z,by (first | rfl | (rw [s1 (q:=x) J];exact congrArg (λz=>Row.row _ _ z) (a3W (f:=j5) (x:=⟨1,_,_⟩))) | (rw [u9 (q:=x) J];exact congrArg (λz=>Row.row _ _ z) (a3W (f:=j5) (x:=⟨1,_,_⟩))) | (rw [s1 (q:=x) J];exact congrArg (λz=>Row.row _ _ z) (List.map_drop).symm) | (rw [u9 (q:=x) J];done) | (rw [u9 (q:=x) J];rfl) | (rw [s1 (q:=x) J];done) | (rw [s1 (q:=x) J];rfl) | (rw [s1 (q:=x) J];exact congrArg (λz=>Row.row _ _ z) a0H)| (rw [u9 (q:=x) J];exact congrArg (λz=>Row.row _ _ z) a0H))⟩,Z,Z,⟨⟨_,Z,by (first | rfl | (rw [s1 (q:=x) J];exact congrArg (λz=>Row.row _ _ z) (a3W (f:=j5) (x:=⟨1,_,_⟩))) | (rw [u9 (q:=x) J];exact congrArg (λz=>Row.row _ _ z) (a3W (f:=j5) (x:=⟨1,_,_⟩))) | (rw [s1 (q:=x) J];exact congrArg (λz=>Row.row _ _ z) (List.map_drop).symm) | (rw [u9 (q:=x) J];done) | (rw [u9 (q:=x) J];rfl) | (rw [s1 (q:=x) J];done) | (rw [s1 (q:=x) J];rfl) | (rw [s1 (q:=x) J];exact congrArg (λz=>Row.row _ _ z) a0H)| (rw [u9 (q:=x) J];exact congrArg (λz=>Row.row _ _ z) a0H))⟩,Z,Z,trivial⟩⟩,Z,Z,Z⟩))
  ·exact ⟨hF2,hnx▸hinv.2⟩
  exact hphi
 have hd:=b1E h1
 refine zgo ?_
 refine d8 (o8 Z Z Z Z (b3 (c8 Z ?_) (b3 (c8 Z ?_) d9)))
 all_goals ((rw [← hinv.2,hd];done))
theorem Y5 (q:Que) (irq p:Int) (hF:QF q) (hi:0<=irq/\irq<=7) (hp:0<=p/\p<=15):Ctr Tryz.prog 202 [.agg [.lst 3 (q.sl.map j5),.lst 2 (q.wa.map j9)],.v (.int .i64 irq),.v (.int .i64 p)] (.shp true [some 2] [.fr 104 3 ((a2Q q irq p).sl.map j5),.fr 76 2 ((a2Q q irq p).wa.map j9)]):=by
 have hl4:=hF.sl.len
 have hwn:=hF.wn
 have hQ:=(b5c (irq:=irq) (p:=p) hF hi hp).1
 refine Ctr.of (n:=44) G Tryz.func202 Z a8 Z Z Z (λw0=>?_)
 refine n8 0 Z (λ_=>Z) (λu0=>?_)
 refine c1 (λK1 hK1=>?_)
 refine b4n ?_
 refine vm9 ?_
 refine b4 (hK1 _ ?_)
 clear hK1 K1
 refine c1 (λK2 hK2=>?_)
 refine c1 (λK3 hK3=>?_)
 refine b98 ?_
 refine b5 Z Z (j4 Z (ArgsOK.of Z) (F0 q.sl irq J) Z) ?_
 refine p6 ?_
 refine b5 Z Z (t8 Z Z Z Z) (b4 (hK3 _ ?_))
 clear hK3 K3
 refine l4 Z (λh1=>?_) (λh1=>?_)
 ·try rw [h1]
  try simp only [rfb] at h1
  have ho:=b5e (p:=p) h1
  rw [ho] at hQ
  refine c1 (λK4 hK4=>?_)
  refine b98 ?_
  refine b5 Z Z (b9 Z Z) ?_
  refine p6 ?_
  refine d4 3 Z Z Z (ArgsOK.of Z) (b3j q.sl irq p hF.sl h1) Z Z ?_
  refine p6 ?_
  refine c6E ?_
  refine hK4 _ ?_
  clear hK4 K4
  refine c1 (λK5 hK5=>?_)
  refine c6D ?_
  refine d4 5 Z Z Z (ArgsOK.of Z) (O5 _ hQ) Z Z ?_
  refine c1X ?_
  refine b4 (hK5 _ ?_)
  clear hK5 K5
  refine d8 (o8 Z Z Z Z (b3 (c8 Z ?_) (b3 (c8 Z ?_) d9)))
  all_goals clear hK2 K2
  all_goals exact c6v
 ·try rw [h1]
  try simp only [rfb] at h1
  refine p8 (hK2 _ ?_)
  clear hK2 K2
  refine c1 (λK6 hK6=>?_)
  refine c1 (λK7 hK7=>?_)
  refine b98 ?_
  refine b5 Z Z (j4 Z (ArgsOK.of Z) (b3i q.wa irq J) Z) ?_
  refine p6 ?_
  refine b5 Z Z (t8 Z Z Z Z) (b4 (hK7 _ ?_))
  clear hK7 K7
  refine l4 Z (λh2=>?_) (λh2=>?_)
  ·try rw [h2]
   try simp only [rfb] at h2
   have ho:=b5g (p:=p) h1 h2
   rw [ho] at hQ
   refine c1 (λK8 hK8=>?_)
   refine b6 ?_
   refine p6 ?_
   refine b5 Z Z (d1 G Z Z Z Z Z Z) ?_
   refine p6 ?_
   refine d4 4 Z Z Z (ArgsOK.of Z) (O5 _ hQ) Z Z ?_
   refine c1X ?_
   refine b4 (hK8 _ ?_)
   clear hK8 K8
   refine d8 (o8 Z Z Z Z (b3 (c8 Z ?_) (b3 (c8 Z ?_) d9)))
   all_goals clear hK6 K6
   all_goals exact c6v
  ·try rw [h2]
   try simp only [rfb] at h2
   have ho:=b5f (p:=p) h1 h2
   rw [ho] at hQ
   refine p8 (hK6 _ ?_)
   clear hK6 K6
   refine c1 (λK9 hK9=>?_)
   refine l2 11 [0] mixed a8 Z Z (λr0=>?_) (λ_ h=>h)
   refine d5 0 Z a8 a8 Z Z Z Z (d3 G Z Z Z Z) (d5 1 Z a8 a8 Z Z Z Z (f7 G Z Z Z Z Z Z Z) (d5 2 Z a8 a8 Z Z Z Z (d3 G Z Z Z Z) (d5 3 Z a8 a8 Z Z Z Z (a1K (f7 G Z Z Z Z Z Z Z)) (d5 4 Z a8 a8 Z Z Z Z (b9 Z Z) (d5 5 Z a8 a8 Z Z Z Z (b9 Z Z) (d5 6 Z a8 a8 Z Z Z Z (w9 G Z Z Z Z) ?_))))))
   refine b7 (rs:=[7]) a8 Z (AllB.cons ?_ AllB.nil)
   refine f9 [0] Z Z (d4 3 Z Z Z (ArgsOK.of Z) (a2o q.wa ⟨irq,p⟩ J) Z Z (b4 ⟨Z,?_⟩))
   refine b7 (rs:=[8]) a8 Z (AllB.cons ?_ AllB.nil)
   refine f9 [0] Z Z (b5 Z Z (w9 G Z Z Z Z) (b4 ⟨Z,?_⟩))
   refine b7 (rs:=[9]) a8 Z (AllB.cons ?_ AllB.nil)
   refine f9 [0] Z Z (d4 5 Z Z Z (ArgsOK.of Z) (O5 _ hQ) Z Z (b4 ⟨Z,?_⟩))
   refine b7 (rs:=[10]) a8 Z (AllB.cons ?_ AllB.nil)
   refine f9 [0] Z Z (e9 G Z Z Z Z Z Z Z Z Z Z Z (b4 ⟨Z,?_⟩))
   refine C3 a8 (hK9 _ ?_)
   clear hK9 K9
   exact c6V
theorem a8u (q:Que) (lim:Int) (hF:QF q):Ctr Tryz.prog 233 [.agg [.lst 3 (q.sl.map j5),.lst 2 (q.wa.map j9)],.v (.int .i64 lim)] (.shp false [some 2,none,none] [.fr 104 3 ((b2K q lim).1.sl.map j5),.fr 76 2 ((b2K q lim).1.wa.map j9),.v (.int .i64 (b2K q lim).2.1),.v (.bool (b2K q lim).2.2)]):=by
 have hl4:=hF.sl.len
 have hwn:=hF.wn
 refine Ctr.of (n:=28) G Tryz.func233 Z a8 Z Z Z (λw0=>?_)
 refine n8 0 Z (λ_=>Z) (λu0=>?_)
 refine vm1 ?_
 refine vm9 ?_
 refine vm3 ?_
 refine d4 3 Z Z Z (ArgsOK.of Z) (a9c q.sl lim hF.sl) Z Z ?_
 refine zcd (λh1=>?_) (λh1=>?_)
 ·rw [c2w] at h1
  have ht:=b8N (q:=q) h1
  refine zgo ?_
  refine d8 (o8 Z Z Z Z (b3 (H8 ?_) (b3 (H8 ?_) (b3 (j8 ?_) (b3 (j8 ?_) d9)))))
  all_goals exact c3i
 rw [c2w] at h1
 have ht:=b5h (q:=q) h1
 have ht2:=b5V (sl:=q.sl) h1
 refine vm3 ?_
 refine d4 5 Z Z Z (ArgsOK.of Z) (Y4 q J J) Z Z ?_
 refine p6 ?_
 refine d7 G 6 Z Z Z Z Z ?_
 refine zgo ?_
 refine d8 (o8 Z Z Z Z (b3 (c8 Z ?_) (b3 (c8 Z ?_) (b3 (j8 ?_) (b3 (j8 ?_) d9)))))
 all_goals exact c3i
theorem a5L (q:Que) (lim:Int) (hF:QF q) (hk:a0d q.sl lim=true):Ctr Tryz.prog 198 [.agg [.lst 3 (q.sl.map j5),.lst 2 (q.wa.map j9)],.v (.int .i64 lim)] (.shp false [some 2,none] [.fr 104 3 ((a4p q).sl.map j5),.fr 76 2 ((a4p q).wa.map j9),.v (.int .i64 (tkI q.sl))]):=by
 have hl4:=hF.sl.len
 have hwn:=hF.wn
 have htl:(tkS q.sl).length=4:=by unfold tkS;rw [List.length_set];exact hl4
 refine Ctr.of (n:=24) G Tryz.func198 Z a8 Z Z Z (λw0=>?_)
 refine n8 0 Z (λ_=>Z) (λu0=>?_)
 refine vm1 ?_
 refine vm9 ?_
 refine vm3 ?_
 refine d4 3 Z Z Z (ArgsOK.of Z) (b05 q.sl lim hF.sl hk) Z Z ?_
 refine zgn ?_
 refine s9 (l2 11 [0,2] mixed a8 Z Z (λr0=>?_) (λ_ h=>h))
 refine zsa 1 ?_
 refine zsa 4 ?_
 refine zsa 5 ?_
 refine zsa 8 ?_
 refine A9 (N:=5) Z (s7 (fuel:=5) [⟨0,15,3,false,.row 104 3 []⟩,⟨3,18,4,false,.row 76 2 []⟩] (AllVOK.cons (VOK.lit G Z Z Z Z Z) (AllVOK.cons (VOK.lit G Z Z Z Z Z) (AllVOK.nil))) (λhok=>?_))
 refine n6 [(2,[0])] a8 a8 (λe he=>hok e he) a8 (AllVS.cons ?_ AllVS.nil)
 refine VStep.mk1 [0,2] 15 (.own 3) 3 (.row 104 3 []) [⟨3,18,4,false,.row 76 2 []⟩] Z Z Z Z Z (λb1 _ hbn=>l1 G T5 Z Z Z Z Z Z Z Z Z m7 Z Z (b4 Z)) a8 a8 a8 a8 (n6 [(6,[3])] a8 a8 (λe he=>hok e (vin (is:=[0]) Z he)) a8 (AllVS.cons ?_ AllVS.nil))
 refine VStep.mk1 [0,2] 18 (.own 4) 4 (.row 76 2 []) [] Z Z Z Z Z (λb1 _ hbn=>l1 G T5 Z Z Z Z Z Z Z Z Z m7 Z Z (b4 Z)) a8 a8 a8 a8 (G0 ?_)
 clear hok
 refine b7 (rs:=[7]) a8 Z (AllB.cons ?_ AllB.nil)
 refine g9 [0,2] Z Z ?_
 refine N8 ?_
 refine b7 (rs:=[9]) a8 Z (AllB.cons ?_ AllB.nil)
 refine g9 [0,2] Z Z ?_
 refine N8 ?_
 refine zsa 10 ?_
 refine F3 ?_
 refine d8 (o8 Z Z Z Z (b3 (c8 Z ?_) (b3 (c8 Z ?_) (b3 (j8 ?_) d9))))
 all_goals (first | rfl | simp | (simp [a4p];done))
theorem Y6 (sl:List Slot) (irq:Int) (hl:sl.length<=1048576) (h0:0<=p7 sl irq):Ctr Tryz.prog 140 [.lst 3 (sl.map j5),.v (.int .i64 irq)] (.one (.v (.int .i64 (lvl sl irq)))):=by
 have hf:=@a1q sl irq
 refine Ctr.of (n:=12) G Tryz.func140 Z a8 Z Z Z (λw0=>?_)
 refine zcl (H3 sl irq hl) ?_
 exact b0C
theorem a0R (q:Que) (irq:Int) (hl:q.sl.length<=1048576) (h0:0<=p7 q.sl irq):Ctr Tryz.prog 162 [.agg [.lst 3 (q.sl.map j5),.lst 2 (q.wa.map j9)],.v (.int .i64 irq)] (.one (.v (.int .i64 (lvl q.sl irq)))):=by
 have hf:=@a1q q.sl irq
 refine Ctr.of (n:=14) G Tryz.func162 Z a8 Z Z Z (λw0=>?_)
 refine n8 0 Z (λ_=>Z) (λu0=>?_)
 refine vm1 ?_
 refine zgd ?_
 refine zcl (F0 q.sl irq hl) ?_
 exact b0C
theorem a3I (x:Ifc) (hF:IfF x):Ctr Tryz.prog 234 [.agg [.v (.int .i64 x.ma),.lst 1 (x.st.map Rf.r7),.lst 3 (x.qu.sl.map j5),.lst 2 (x.qu.wa.map j9)]] (.one (.v (.int .i64 (a7b x)))):=by
 have hl4:=hF.qu.sl.len
 have hwn:=hF.qu.wn
 have hsn:=hF.sn
 refine Ctr.of (n:=19) G Tryz.func234 Z a8 Z Z Z (λw0=>?_)
 refine n8 0 Z (λ_=>Z) (λu0=>?_)
 refine s9 ?_
 refine b4n ?_
 refine zgn ?_
 refine zgn ?_
 refine l4 Z (λh1=>?_) (λh1=>?_)
 ·try rw [h1]
  try simp only [rfb] at h1
  exact c2b
 try rw [h1]
 try simp only [rfb] at h1
 have htn:((x.st.length:Int) - 1).toNat=x.st.length - 1:=J
 have htp:=hF.top (show x.st.length - 1 < x.st.length by omega)
 refine zgn ?_
 refine b99 ?_
 iterate 8 refine zst ?_
 refine c6 Z ?_
 refine c1S ?_
 refine c6 Z (g8 Z Z (j4 Z (ArgsOK.of Z) (Y6 x.qu.sl _ J (by first | assumption | (rw [htn];assumption))) Z) ?_)
 exact c2b
theorem a14 (x:Ifc) (hF:IfF x):Ctr Tryz.prog 200 [.agg [.v (.int .i64 x.ma),.lst 1 (x.st.map Rf.r7),.lst 3 (x.qu.sl.map j5),.lst 2 (x.qu.wa.map j9)]] (.one (.v (.int .i64 (a7b x)))):=by
 have hl4:=hF.qu.sl.len
 have hwn:=hF.qu.wn
 have hsn:=hF.sn
 refine Ctr.of (n:=18) G Tryz.func200 Z a8 Z Z Z (λw0=>?_)
 refine n8 0 Z (λ_=>Z) (λu0=>?_)
 refine s9 ?_
 refine b4n ?_
 refine zgn ?_
 refine zgn ?_
 refine zgn ?_
 refine l4 Z (λh1=>?_) (λh1=>?_)
 ·try rw [h1]
  try simp only [rfb] at h1
  have htn:((x.st.length:Int) - 1).toNat=x.st.length - 1:=J
  have htp:=hF.top (show x.st.length - 1 < x.st.length by omega)
  refine b99 ?_
  iterate 5 refine zst ?_
  refine c6 Z ?_
  refine c1S ?_
  refine c6 Z (g8 Z Z (j4 Z (ArgsOK.of Z) (a0R x.qu _ J (by first | assumption | (rw [htn];assumption))) Z) ?_)
  exact c2b
 try rw [h1]
 try simp only [rfb] at h1
 refine zgn ?_
 exact c2b
theorem E8 (x:Ifc) (hn:x.st.length<=1048576) (hl:x.qu.sl.length<=1048576) (hw:x.qu.wa.length<=1048576):Ctr Tryz.prog 111 [.agg [.v (.int .i64 x.ma),.lst 1 (x.st.map Rf.r7),.lst 3 (x.qu.sl.map j5),.lst 2 (x.qu.wa.map j9)]] (.shp true [some 4] [.v (.int .i64 x.ma),.fr 3 1 (x.st.map Rf.r7),.fr 104 3 (x.qu.sl.map j5),.fr 76 2 (x.qu.wa.map j9)]):=by
 refine Ctr.of (n:=12) G Tryz.func111 Z a8 Z Z Z (λw0=>?_)
 refine n8 0 Z (λ_=>Z) (λu0=>?_)
 refine vm1 ?_
 refine vm9 ?_
 refine zgn ?_
 refine s9 (l2 10 [0] mixed a8 Z Z (λr0=>?_) (λ_ h=>h))
 refine a06 ?_
 refine zsa 5 ?_
 refine zsa 6 ?_
 refine b7 (rs:=[4]) a8 Z (AllB.cons ?_ AllB.nil)
 refine g9 [0] Z Z (d4 3 Z Z Z (ArgsOK.of Z) (E5 x.st hn) Z Z (b4 ⟨Z,?_⟩))
 refine b7 (rs:=[7]) a8 Z (AllB.cons ?_ AllB.nil)
 refine g9 [0] Z Z (d4 5 Z Z Z (ArgsOK.of Z) (Y4 x.qu hl hw) Z Z (b4 ⟨Z,?_⟩))
 exact c4o
theorem a9e (x:Ifc) (irq p:Int) (hF:IfF x) (hi:0<=irq/\irq<=7) (hp:0<=p/\p<=15):Ctr Tryz.prog 232 [.agg [.v (.int .i64 x.ma),.lst 1 (x.st.map Rf.r7),.lst 3 (x.qu.sl.map j5),.lst 2 (x.qu.wa.map j9)],.v (.int .i64 irq),.v (.int .i64 p)] (.shp true [some 4] [.v (.int .i64 x.ma),.fr 3 1 (x.st.map Rf.r7),.fr 104 3 ((a2Q x.qu irq p).sl.map j5),.fr 76 2 ((a2Q x.qu irq p).wa.map j9) true]):=by
 have hl4:=hF.qu.sl.len
 have hwn:=hF.qu.wn
 have hsn:=hF.sn
 refine Ctr.of (n:=17) G Tryz.func232 Z a8 Z Z Z (λw0=>?_)
 refine n8 0 Z (λ_=>Z) (λu0=>?_)
 refine vm1 ?_
 refine vm9 ?_
 refine vm3 ?_
 refine d4 5 Z Z Z (ArgsOK.of Z) (E8 x J J J) Z Z ?_
 refine p6 ?_
 refine d7 G 6 Z Z Z Z Z ?_
 refine vm3 ?_
 refine d4 8 Z Z Z (ArgsOK.of Z) (a9d x.qu irq p hF.qu hi hp) Z Z ?_
 refine zgo ?_
 exact c3A
theorem U2 (x:Ifc) (irq p:Int) (hF:IfF x) (hi:0<=irq/\irq<=7) (hp:0<=p/\p<=15):Ctr Tryz.prog 152 [.agg [.v (.int .i64 x.ma),.lst 1 (x.st.map Rf.r7),.lst 3 (x.qu.sl.map j5),.lst 2 (x.qu.wa.map j9)],.v (.int .i64 irq),.v (.int .i64 p)] (.shp true [some 4] [.v (.int .i64 x.ma),.fr 3 1 (x.st.map Rf.r7),.fr 104 3 ((a2Q x.qu irq p).sl.map j5),.fr 76 2 ((a2Q x.qu irq p).wa.map j9)]):=by
 have hl4:=hF.qu.sl.len
 have hwn:=hF.qu.wn
 have hsn:=hF.sn
 refine Ctr.of (n:=18) G Tryz.func152 Z a8 Z Z Z (λw0=>?_)
 refine n8 0 Z (λ_=>Z) (λu0=>?_)
 refine vm1 ?_
 refine vm9 ?_
 refine zgn ?_
 refine s9 (l2 12 [0] mixed a8 Z Z (λr0=>?_) (λ_ h=>h))
 refine a06 ?_
 refine zsa 5 ?_
 refine zsa 6 ?_
 refine zsa 7 ?_
 refine zsa 8 ?_
 refine b7 (rs:=[4]) a8 Z (AllB.cons ?_ AllB.nil)
 refine g9 [0] Z Z (d4 3 Z Z Z (ArgsOK.of Z) (H6 x.st J) Z Z (b4 ⟨Z,?_⟩))
 refine b7 (rs:=[9]) a8 Z (AllB.cons ?_ AllB.nil)
 refine g9 [0] Z Z (d4 5 Z Z Z (ArgsOK.of Z) (Y5 x.qu irq p hF.qu hi hp) Z Z (b4 ⟨Z,?_⟩))
 refine b7 (rs:=[10]) a8 Z (AllB.cons ?_ AllB.nil)
 refine b3c ?_
 refine b7 (rs:=[11]) a8 Z (AllB.cons ?_ AllB.nil)
 exact c9i
theorem b0H (x:Ifc) (hF:IfF x):Ctr Tryz.prog 179 [.agg [.v (.int .i64 x.ma),.lst 1 (x.st.map Rf.r7),.lst 3 (x.qu.sl.map j5),.lst 2 (x.qu.wa.map j9)]] (.shp false [some 4,none,none] [.v (.int .i64 (X7 x).1.ma),.fr 3 1 ((X7 x).1.st.map Rf.r7),.fr 104 3 ((X7 x).1.qu.sl.map j5),.fr 76 2 ((X7 x).1.qu.wa.map j9),.v (.int .i64 (X7 x).2.1),.v (.bool (X7 x).2.2)]):=by
 have hl4:=hF.qu.sl.len
 have hwn:=hF.qu.wn
 have hsn:=hF.sn
 refine Ctr.of (n:=34) G Tryz.func179 Z a8 Z Z Z (λw0=>?_)
 refine n8 0 Z (λ_=>Z) (λu0=>?_)
 refine vm1 ?_
 refine vm9 ?_
 refine zgn ?_
 refine s9 (l2 16 [0,1] mixed a8 Z Z (λr0=>?_) (λ_ h=>h))
 refine a06 ?_
 refine zsa 4 ?_
 refine A9 (N:=3) Z (s7 (fuel:=10) [⟨12,5,2,true,.box (avR [.slice none 0 0,.slice none 0 0] [])⟩] (AllVOK.cons (VOK.boxS G Z Z Z Z Z) (AllVOK.nil)) (λhok=>?_))
 refine n6 [(5,[])] a8 a8 (λe he=>hok e he) a8 (AllVS.cons ?_ AllVS.nil)
 refine VStep.mk0 [0,1] Z Z (λb1 _ hbn=>b5 Z Z (j4 Z (ArgsOK.of Z) (a3I x hF) Z) (b4 Z)) a8 a8 a8 a8 (v7 6 Z a8 Z Z Z Z (b7V Z Z Z) a8 a8 a8 (n6 [(7,[])] a8 a8 (λe he=>hok e he) a8 (AllVS.cons ?_ AllVS.nil)))
 refine VStep.mk0 [0,1] Z Z (λb1 _ hbn=>d4 5 Z Z Z (ArgsOK.of Z) (a8u x.qu (b7l x) hF.qu) Z Z (b4 Z)) a8 a8 a8 a8 (v7 8 Z a8 Z Z Z Z (b9 Z Z) a8 a8 a8 (v7 9 Z a8 Z Z Z Z (i1 Z Z Z) a8 a8 a8 (v7 10 Z a8 Z Z Z Z (i1 Z Z Z) a8 a8 a8 (v7 11 Z a8 Z Z Z Z (i1 Z Z Z) a8 a8 a8 (n6 [(13,[12])] a8 a8 (λe he=>hok e he) a8 (AllVS.cons ?_ AllVS.nil))))))
 refine c8C ?_
 clear hok
 refine zsa 14 ?_
 refine zsa 15 ?_
 refine F3 ?_
 refine zcd (λh1=>?_) (λh1=>?_)
 ·rw [b8O] at h1
  have ht:=b57 (x:=x) h1
  refine zgo ?_
  refine d8 (o8 Z Z Z Z (b3 (j8 ?_) (b3 (H8 ?_) (b3 (H8 ?_) (b3 (H8 ?_) (b3 (j8 ?_) (b3 (j8 ?_) d9)))))))
  all_goals exact c3j
 rw [b8O] at h1
 have ht:=b56 (x:=x) h1
 have ht2:=b5h h1
 refine zgo ?_
 apply C4 [2,3,4] [1,3,4,5] 7 14 [0,2,3,4] mixed a8 Z Z (λ_ h=>znk h)
 ·intro r0
  refine a06 ?_
  refine zsa 5 ?_
  refine zsa 8 ?_
  refine zsa 10 ?_
  refine b7 (rs:=[4,6]) a8 Z (AllB.cons ?_ (AllB.cons ?_ AllB.nil))
  ·refine g9 [0,2,3,4] Z Z (d4 6 Z Z Z (ArgsOK.of Z) (E5 x.st J) Z Z (b4 ⟨Z,?_⟩))
   refine b7 (rs:=[6]) a8 Z (AllB.cons ?_ AllB.nil)
   refine g9 [0,2,3,4] Z Z (m5 G 7 Z Z Z Z Z Z Z Z (b4 ⟨Z,?_⟩))
   refine b7 (rs:=[7]) a8 Z (AllB.cons ?_ AllB.nil)
   refine g9 [0,2,3,4] Z Z (l1 G X9 Z Z Z Z Z Z Z Z Z M8 Z Z (b4 ⟨Z,?_⟩))
   refine b7 (rs:=[9]) a8 Z (AllB.cons ?_ AllB.nil)
   refine b4r ?_
   refine b7 (rs:=[11]) a8 Z (AllB.cons ?_ AllB.nil)
   refine b4r ?_
   refine zsa 12 ?_
   refine zsa 13 ?_
   exact a5G
  refine g9 [0,2,3,4] Z Z (m5 G 6 Z Z Z Z Z Z Z Z (b4 ⟨Z,?_⟩))
  refine b7 (rs:=[4]) a8 Z (AllB.cons ?_ AllB.nil)
  refine g9 [0,2,3,4] Z Z (d4 7 Z Z Z (ArgsOK.of Z) (E5 x.st J) Z Z (b4 ⟨Z,?_⟩))
  refine b7 (rs:=[7]) a8 Z (AllB.cons ?_ AllB.nil)
  refine g9 [0,2,3,4] Z Z (l1 G X9 Z Z Z Z Z Z Z Z Z M8 Z Z (b4 ⟨Z,?_⟩))
  refine b7 (rs:=[9]) a8 Z (AllB.cons ?_ AllB.nil)
  refine b4r ?_
  refine b7 (rs:=[11]) a8 Z (AllB.cons ?_ AllB.nil)
  refine b4r ?_
  refine zsa 12 ?_
  refine zsa 13 ?_
  refine a3P (Gh.sub 6 5 X9 Z Z Z) ?_
  exact a5G
 refine d8 (o8 Z Z Z Z (b3 (j8 ?_) (b3 (c8 Z ?_) (b3 (c8 Z ?_) (b3 (c8 Z ?_) (b3 (j8 ?_) (b3 (j8 ?_) d9)))))))
 all_goals exact c3j
theorem a4H (x:Ifc) (hF:IfF x) (hk:okT x=true):Ctr Tryz.prog 150 [.agg [.v (.int .i64 x.ma),.lst 1 (x.st.map Rf.r7),.lst 3 (x.qu.sl.map j5),.lst 2 (x.qu.wa.map j9)]] (.shp false [some 4,none] [.v (.int .i64 (a3z x).ma),.fr 3 1 ((a3z x).st.map Rf.r7),.fr 104 3 ((a3z x).qu.sl.map j5),.fr 76 2 ((a3z x).qu.wa.map j9),.v (.int .i64 (tkI x.qu.sl))]):=by
 have hl4:=hF.qu.sl.len
 have hwn:=hF.qu.wn
 have hsn:=hF.sn
 have hkk:=L9.mp hk
 have htb:=b5i hF.qu.sl hkk.1
 refine Ctr.of (n:=35) G Tryz.func150 Z a8 Z Z Z (λw0=>?_)
 refine n8 0 Z (λ_=>Z) (λu0=>?_)
 refine vm1 ?_
 refine vm9 ?_
 refine zgn ?_
 refine s9 (l2 14 [0,1] mixed a8 Z Z (λr0=>?_) (λ_ h=>h))
 refine a06 ?_
 refine zsa 4 ?_
 refine A9 (N:=3) Z (s7 (fuel:=8) [⟨11,4,2,true,.box (avR [.slice none 0 0,.slice none 0 0] [])⟩] (AllVOK.cons (VOK.boxS G Z Z Z Z Z) (AllVOK.nil)) (λhok=>?_))
 refine n6 [(5,[])] a8 a8 (λe he=>hok e he) a8 (AllVS.cons ?_ AllVS.nil)
 refine VStep.mk0 [0,1] Z Z (λb1 _ hbn=>b5 Z Z (j4 Z (ArgsOK.of Z) (a14 x hF) Z) (b4 Z)) a8 a8 a8 a8 (n6 [(6,[])] a8 a8 (λe he=>hok e he) a8 (AllVS.cons ?_ AllVS.nil))
 refine VStep.mk0 [0,1] Z Z (λb1 _ hbn=>b5 Z Z (j4 Z (ArgsOK.of Z) (a4G _ _) Z) (b4 Z)) a8 a8 a8 a8 (n6 [(7,[])] a8 a8 (λe he=>hok e he) a8 (AllVS.cons ?_ AllVS.nil))
 refine VStep.mk0 [0,1] Z Z (λb1 _ hbn=>d4 5 Z Z Z (ArgsOK.of Z) (a5L x.qu (b7l x) hF.qu hk) Z Z (b4 Z)) a8 a8 a8 a8 (v7 8 Z a8 Z Z Z Z (b9 Z Z) a8 a8 a8 (v7 9 Z a8 Z Z Z Z (i1 Z Z Z) a8 a8 a8 (v7 10 Z a8 Z Z Z Z (i1 Z Z Z) a8 a8 a8 (n6 [(12,[11])] a8 a8 (λe he=>hok e he) a8 (AllVS.cons ?_ AllVS.nil)))))
 refine c8D ?_
 clear hok
 refine zsa 13 ?_
 refine F3 ?_
 refine s9 (l2 9 [0,1,2,3,4] mixed a8 Z Z (λr0=>?_) (λ_ h=>h))
 refine a06 ?_
 refine zsa 5 ?_
 refine A9 (N:=6) Z (s7 (fuel:=3) [⟨7,6,5,true,.box (avR [.int .i64 0,.slice none 0 0,.slice none 0 0,.slice none 0 0] [])⟩] (AllVOK.cons (VOK.boxS G Z Z Z Z Z) (AllVOK.nil)) (λhok=>?_))
 refine n6 [(4,[])] a8 a8 (λe he=>hok e he) a8 (AllVS.cons ?_ AllVS.nil)
 refine VStep.mk0 [0,1,2,3,4] Z Z (λb1 _ hbn=>d4 7 Z Z Z (ArgsOK.of Z) (H6 x.st J) Z Z (b4 Z)) a8 a8 a8 a8 (n6 [(6,[])] a8 a8 (λe he=>hok e he) a8 (AllVS.cons ?_ AllVS.nil))
 refine VStep.mk0 [0,1,2,3,4] Z Z (λb1 _ hbn=>b5 Z Z (w9 G Z Z Z Z) (b4 Z)) a8 a8 a8 a8 (n6 [(8,[7])] a8 a8 (λe he=>hok e he) a8 (AllVS.cons ?_ AllVS.nil))
 refine c8A ?_
 clear hok
 refine F3 ?_
 refine zcd (λh1=>?_) (λh1=>?_)
 ·refine vm3 ?_
  refine m5 G 8 Z Z Z Z Z Z Z Z ?_
  refine p6 ?_
  refine I0 (Gh.forget (id:=5) (k:=1) Z Z)<|I0 (Gh.keep [0,1,2,3,4,5,6,7] Z)<|l1 G np rfl rfl rfl rfl rfl rfl rfl rfl rfl M8 rfl rfl ?_
  refine zgo ?_
  refine d8 (o8 Z Z Z Z (b3 (j8 ?_) (b3 (c8 Z ?_) (b3 (c8 Z ?_) (b3 (c8 Z ?_) (b3 (j8 ?_) d9))))))
  all_goals (first | rfl | (simp [a3z,Rf.r7];done))
 exfalso;omega
theorem a3J (l r:List Int) (hl:l.length<=1048576) (hr:r.length<=1048576):Ctr Tryz.prog 138 [.lst 1 (l.map Rf.r7),.lst 1 (r.map Rf.r7)] (.one (.v (.bool (decide (l=r))))):=by
 refine Ctr.of (n:=26) G Tryz.func138 Z a8 Z Z Z (λw0=>?_)
 refine zcd (λh1=>?_) (λh1=>?_)
 ·exact c3P
 refine zgo ?_
 refine i7 [0,1,12] [] (λ(i:Nat)=>[(13,.v (.int .i64 (i:Int)))]) (λ(i:Nat)=>[]) (λ(i:Nat)=>i<=l.length/\∀j,j < i→l.getD j default=r.getD j default) (λ(i:Nat)=>l.length - i) 0 Z Z ?_ ?_ ?_ ?_
 ·exact T7
 ·exact E7
 ·exact trivial
 intro i hinv
 refine vm2 ?_
 refine zcd (λh2=>?_) (λh2=>?_)
 ·refine zgd ?_
  refine zcd (λh3=>?_) (λh3=>?_)
  ·exact c3P
  exact c0b
 refine zf1 ?_
 all_goals exact c28
theorem a3V (x:Slot):Ctr Tryz.prog 194 [.v (a8S x)] (.one (.v (.bool (R7 x)))):=by
 refine Ctr.of (n:=11) G Tryz.func194 Z a8 Z Z Z (λw0=>?_)
 refine vm1 ?_
 refine zcd (λh1=>?_) (λh1=>?_)
 ·exact c4a
 exact c4a
theorem a7D (sl:List Slot) (hF:SlF sl):Ctr Tryz.prog 139 [.lst 3 (sl.map j5)] (.one (.fr 3 1 ((srtI (actN sl 4)).map Rf.r7))):=by
 have hl4:=hF.len
 refine Ctr.of (n:=24) G Tryz.func139 Z a8 Z Z Z (λw0=>?_)
 refine b01 ?_
 refine zgo ?_
 refine i7 [7,8] [] (λ(i:Nat)=>[(3,.own 0),(9,.v (.int .i64 (i:Int)))]) (λ(i:Nat)=>[(0,some (.row 3 1 ((actN sl i).map Rf.r7)))]) (λ(i:Nat)=>i<=4) (λ(i:Nat)=>4 - i) 0 Z Z ?_ ?_ ?_ ?_
 ·exact R9
 ·exact a0O
 ·exact a07
 intro i hi
 have hpl:=@a0z sl i
 refine vm2 ?_
 refine zcd (λh1=>?_) (λh1=>?_)
 ·refine b4p ?_
  refine zcl (a3V _) ?_
  refine zcd (λh2=>?_) (λh2=>?_)
  ·refine b4o ?_
   refine p6 ?_
   refine vm4 ?_
   exact c3G
  exact c3G
 obtain rfl:i=4:=J
 refine vm3 ?_
 refine L8 1 [0] Z Z Z (Z2 (actN sl 4) (by have:=@a0z sl 4;omega)) Z (RowsIn.cons Z RowsIn.nil) Z Z Z ?_
 refine zfo ?_
 all_goals (rfl)
theorem b3f (l:List Int) (n:Int) (hl:l.length<=1048576) (hne:∀x∈l,x≠n):Ctr Tryz.prog 213 [.lst 1 (l.map Rf.r7),.v (.int .i64 n)] (.one (.fr 3 1 ((b2O l n).map Rf.r7))):=by
 refine Ctr.of (n:=45) G Tryz.func213 Z a8 Z Z Z (λw0=>?_)
 refine zgo ?_
 refine i7 [0,1] [] (λ(k:Nat)=>[(5,.v (.int .i64 (k:Int)))]) (λ(k:Nat)=>[]) (λ(k:Nat)=>k<=l.length/\∀j,j < k→l.getD j default < n) (λ(k:Nat)=>l.length - k) 0 Z Z ?_ ?_ ?_ ?_
 ·exact T7
 ·exact E7
 ·exact trivial
 intro k hk
 refine vm2 ?_
 refine zcd (λh1=>?_) (λh1=>?_)
 ·refine zcd (λh2=>?_) (λh2=>?_)
  ·refine zgo ?_
   refine ⟨(k+1),?_,?_,⟨⟨_,Z,by rfl⟩,Z,trivial⟩,trivial,Z,Z,Z⟩
   ·exact ⟨by omega,s4 hk.2 j7⟩
   omega
  refine zcd (λh3=>?_) (λh3=>?_)
  ·refine zcd (λh4=>?_) (λh4=>?_)
   ·exact c36
   exact c0t
  refine zwf ?_
  exact c0t
 refine zwf ?_
 refine zcd (λh5=>?_) (λh5=>?_)
 ·refine zcd (λh6=>?_) (λh6=>?_)
  ·exact c36
  exact c0t
 refine zwf ?_
 refine zgo ?_
 apply C4 [4] [0] 2 13 [] mixed a8 Z Z (λ_ h=>znk h)
 ·exact ws4
 refine zfo ?_
 all_goals exact c3a
theorem a9f (sl:List Slot) (hF:SlF sl):Ctr Tryz.prog 160 [.lst 3 (sl.map j5)] (.one (.fr 3 1 ((a8c sl 4).map Rf.r7))):=by
 have hl4:=hF.len
 refine Ctr.of (n:=34) G Tryz.func160 Z a8 Z Z Z (λw0=>?_)
 refine b01 ?_
 refine zgo ?_
 refine i7 [0] [] (λ(i:Nat)=>[(3,.own 0),(4,.v (.int .i64 (i:Int)))]) (λ(i:Nat)=>[(0,some (.row 3 1 ((a8c sl i).map Rf.r7)))]) (λ(i:Nat)=>i<=4) (λ(i:Nat)=>4 - i) 0 Z Z ?_ ?_ ?_ ?_
 ·exact R9
 ·exact a0O
 ·exact a07
 intro i hi
 refine vm2 ?_
 refine zcd (λh1=>?_) (λh1=>?_)
 ·refine zcd (λh2=>?_) (λh2=>?_)
  ·refine zwt ?_
   exact c9a
  refine zcd (λh3=>?_) (λh3=>?_)
  ·exact c9a
  refine zgo ?_
  refine ⟨(i+1),?_,?_,⟨⟨_,Z,by rfl⟩,Z,⟨⟨_,Z,by rfl⟩,Z,trivial⟩⟩,⟨⟨_,Z,by (first | (rw [b8Y J];done) | (rw [b8Z J];done))⟩,Z,Z,trivial⟩,Z,Z,Z⟩
  ·omega
  omega
 obtain rfl:i=4:=J
 refine zfo ?_
 all_goals (rfl)
theorem a6o (x:Ifc) (hn:x.st.length<=1048576) (hl:x.qu.sl.length<=1048576) (hw:x.qu.wa.length<=1048576):Ctr Tryz.prog 90 [.agg [.v (.int .i64 x.ma),.lst 1 (x.st.map Rf.r7),.lst 3 (x.qu.sl.map j5),.lst 2 (x.qu.wa.map j9)]] (.one (.v (.bool (a2d x)))):=by
 refine Ctr.of (n:=54) G Tryz.func90 Z a8 Z Z Z (λw0=>?_)
 refine n8 0 Z (λ_=>Z) (λu0=>?_)
 refine s9 ?_
 refine b4n ?_
 refine zgn ?_
 refine s9 ?_
 refine a5p ?_
 refine a2n ?_
 refine p6 ?_
 refine b5 Z Z (j4 Z (ArgsOK.of Z) (a5J x.ma) Z) ?_
 refine a2n ?_
 refine A5 Z Z Z (λh1=>?_) (λh1=>?_)
 ·try rw [h1]
  try simp only [rfb] at h1
  refine zgn ?_
  refine J4 Z ?_
  exact c16
 try rw [h1]
 try simp only [rfb] at h1
 refine a2n ?_
 refine a0k ?_
 refine b5 Z Z (j4 Z (ArgsOK.of Z) (b0G x.qu hl hw) Z) ?_
 refine zgn ?_
 refine l4 Z (λh2=>?_) (λh2=>?_)
 ·try rw [h2]
  try simp only [rfb] at h2
  exact c16
 try rw [h2]
 try simp only [rfb] at h2
 have hq:=a69.mp h2
 have hSl:=hq.1.sl
 have hl4:=hSl.len
 refine zgn ?_
 refine a5p ?_
 refine a2n ?_
 refine p6 ?_
 refine d4 2 Z Z Z (ArgsOK.of Z) (E5 x.st hn) Z Z ?_
 refine zgn ?_
 refine a5p ?_
 refine zst ?_
 refine p6 ?_
 refine L8 2 [1] Z Z Z (Z2 x.st hn) Z (RowsIn.cons Z RowsIn.nil) Z Z Z ?_
 refine zgn ?_
 refine s9 ?_
 refine a5p ?_
 iterate 4 refine zst ?_
 refine p6 ?_
 refine d4 3 Z Z Z (ArgsOK.of Z) (a7D x.qu.sl hSl) Z Z ?_
 refine p6 ?_
 refine b5 Z Z (j4 Z (ArgsOK.of Z) (a3J (srtI x.st) (srtI (actN x.qu.sl 4)) (by rw [X6];exact hn) (by rw [X6];have:=@a0z x.qu.sl 4;omega)) Z) ?_
 refine zgn ?_
 refine l4 Z (λh3=>?_) (λh3=>?_)
 ·try rw [h3]
  try simp only [rfb] at h3
  exact c16
 try rw [h3]
 try simp only [rfb] at h3
 have hin:=λj (hj:j < x.st.length)=>b5k (b5l h3 (j6.mpr ⟨j,hj,Z⟩)) hl4
 refine zgn ?_
 refine zgn ?_
 refine o7 (i7 [1] [0] (λ(i:Nat)=>[(4,.v (.int .i64 (i:Int)))]) (λ(i:Nat)=>[]) (λ(i:Nat)=>1<=i/\∀j,j < i→lvD x.qu.sl x.st j=true) (λ(i:Nat)=>x.st.length - i) 1 Z Z ?_ ?_ ?_ ?_)
 ·exact ⟨Nat.le_refl _,λj hj=>by obtain rfl:j=0:=J;exact b84⟩
 ·exact E7
 ·exact trivial
 intro i hinv
 have hti:0 < i→((i:Int) - 1).toNat=i - 1:=λ_=>J
 refine vm2 ?_
 refine zgn ?_
 refine l4 Z (λh4=>?_) (λh4=>?_)
 ·try rw [h4]
  try simp only [rfb] at h4
  have hi1:=hin i J
  have hi2:=hin (i - 1) J
  refine zgn ?_
  refine s9 (o7 ?_)
  refine b99 ?_
  iterate 8 refine zst ?_
  refine c6 Z (g8 Z Z (j4 Z (ArgsOK.of Z) (Y6 x.qu.sl _ hl hi1) Z) ?_)
  iterate 6 refine zst ?_
  refine c6 Z ?_
  refine c1S ?_
  refine c6 Z (g8 Z Z (j4 Z (ArgsOK.of Z) (Y6 x.qu.sl _ hl (by rw [hti J];exact hi2)) Z) ?_)
  refine zgn ?_
  refine l4 Z (λh5=>?_) (λh5=>?_)
  ·try rw [h5]
   try simp only [rfb] at h5
   exact c16
  try rw [h5]
  try simp only [rfb] at h5
  refine zgn ?_
  refine b6 ?_
  refine zst ?_
  refine vm7 ?_
  refine zgn ?_
  refine ⟨(i+1),?_,?_,⟨⟨_,Z,by rfl⟩,Z,trivial⟩,trivial,Z,Z,Z⟩
  ·exact ⟨by omega,s4 hinv.2 (b85 b6B)⟩
  omega
 try rw [h4]
 try simp only [rfb] at h4
 refine zgn ?_
 refine b4s ?_
 all_goals exact c23
theorem b0I (sl:List Slot) (irq:Int) (hF:SlF sl) (h0:0<=p7 sl irq) (ha:R7 (sl.getD (p7 sl irq).toNat default)=true):Ctr Tryz.prog 281 [.lst 3 (sl.map j5),.v (.int .i64 irq)] (.many [.fr 104 3 ((edS sl irq).map j5),.v (.bool true)]):=by
 have hl4:=hF.len
 have hf:=@a1q sl irq
 have haa:=u3.mp ha
 refine Ctr.of (n:=39) G Tryz.func281 Z a8 Z Z Z (λw0=>?_)
 refine zcl (H3 sl irq J) ?_
 refine zcd (λh1=>?_) (λh1=>?_)
 ·exact b6N
 refine zcl (a3V _) ?_
 refine zcd (λh2=>?_) (λh2=>?_)
 ·exact b6N
 refine a4y ?_
 refine zcd (λh3=>?_) (λh3=>?_)
 ·exact c4w
 exact c4w
theorem b3k (sl:List Slot) (irq:Int) (hF:SlF sl) (h0:0<=p7 sl irq) (ha:R7 (sl.getD (p7 sl irq).toNat default)=true):Ctr Tryz.prog 254 [.lst 3 (sl.map j5),.v (.int .i64 irq)] (.many [.fr 104 3 ((edS sl irq).map j5),.v (.bool true)]):=by
 have hl4:=hF.len
 have hf:=@a1q sl irq
 have haa:=u3.mp ha
 refine Ctr.of (n:=41) G Tryz.func254 Z a8 Z Z Z (λw0=>?_)
 refine zcl (F0 sl irq J) ?_
 refine zcd (λh1=>?_) (λh1=>?_)
 ·exact b6N
 refine zcd (λh2=>?_) (λh2=>?_)
 ·exact b6N
 refine zcd (λh3=>?_) (λh3=>?_)
 ·refine c6I ?_
  exact c6P
 refine a4y ?_
 refine c1U ?_
 exact c6P
theorem a9g (q:Que) (irq:Int) (hF:QF q) (h0:0<=p7 q.sl irq) (ha:R7 (q.sl.getD (p7 q.sl irq).toNat default)=true):Ctr Tryz.prog 235 [.agg [.lst 3 (q.sl.map j5),.lst 2 (q.wa.map j9)],.v (.int .i64 irq)] (.shp false [some 2,none] [.fr 104 3 ((a6a q irq).sl.map j5),.fr 76 2 ((a6a q irq).wa.map j9) true,.v (.bool true)]):=by
 have hl4:=hF.sl.len
 have hwn:=hF.wn
 have hQ:=a9C hF h0
 refine Ctr.of (n:=23) G Tryz.func235 Z a8 Z Z Z (λw0=>?_)
 refine n8 0 Z (λ_=>Z) (λu0=>?_)
 refine c1 (λK1 hK1=>?_)
 refine b4n ?_
 refine vm9 ?_
 refine c1Z ?_
 refine hK1 _ ?_
 clear hK1 K1
 refine c1 (λK2 hK2=>?_)
 refine b98 ?_
 refine d4 3 Z Z Z (ArgsOK.of Z) (b0I q.sl irq hF.sl h0 ha) Z Z ?_
 refine p6 ?_
 refine c6E ?_
 refine hK2 _ ?_
 clear hK2 K2
 refine c1 (λK3 hK3=>?_)
 refine c1 (λK4 hK4=>?_)
 refine b6 ?_
 refine p6 ?_
 refine b5 Z Z (b9 Z Z) ?_
 refine p6 ?_
 refine b5 Z Z (a1z Z Z) (b4 (hK4 _ ?_))
 clear hK4 K4
 refine l4 Z (λh1=>?_) (λh1=>?_)
 ·exact c9j
 ·try rw [h1]
  try simp only [rfb] at h1
  refine p8 (hK3 _ ?_)
  clear hK3 K3
  refine c1 (λK6 hK6=>?_)
  refine c6D ?_
  refine d4 5 Z Z Z (ArgsOK.of Z) (a1r _ hQ) Z Z ?_
  exact c3E
theorem a3K (q:Que) (irq:Int) (hF:QF q) (h0:0<=p7 q.sl irq) (ha:R7 (q.sl.getD (p7 q.sl irq).toNat default)=true):Ctr Tryz.prog 201 [.agg [.lst 3 (q.sl.map j5),.lst 2 (q.wa.map j9)],.v (.int .i64 irq)] (.shp false [some 2,none] [.fr 104 3 ((a6a q irq).sl.map j5),.fr 76 2 ((a6a q irq).wa.map j9),.v (.bool true)]):=by
 have hl4:=hF.sl.len
 have hwn:=hF.wn
 have hQ:=a9C hF h0
 refine Ctr.of (n:=23) G Tryz.func201 Z a8 Z Z Z (λw0=>?_)
 refine n8 0 Z (λ_=>Z) (λu0=>?_)
 refine c1 (λK1 hK1=>?_)
 refine b4n ?_
 refine vm9 ?_
 refine c1Z ?_
 refine hK1 _ ?_
 clear hK1 K1
 refine c1 (λK2 hK2=>?_)
 refine b98 ?_
 refine d4 3 Z Z Z (ArgsOK.of Z) (b3k q.sl irq hF.sl h0 ha) Z Z ?_
 refine p6 ?_
 refine c6E ?_
 refine hK2 _ ?_
 clear hK2 K2
 refine c1 (λK3 hK3=>?_)
 refine c1 (λK4 hK4=>?_)
 refine b6 ?_
 refine p6 ?_
 refine b5 Z Z (b9 Z Z) ?_
 refine p6 ?_
 refine b5 Z Z (a1z Z Z) (b4 (hK4 _ ?_))
 clear hK4 K4
 refine l4 Z (λh1=>?_) (λh1=>?_)
 ·exact c9j
 ·try rw [h1]
  try simp only [rfb] at h1
  refine p8 (hK3 _ ?_)
  clear hK3 K3
  refine c1 (λK6 hK6=>?_)
  refine c6D ?_
  refine d4 5 Z Z Z (ArgsOK.of Z) (O5 _ hQ) Z Z ?_
  exact c3E
theorem a9h (x:Ifc) (hG:IfG x) (hn:x.st.length≠0):Ctr Tryz.prog 180 [.agg [.v (.int .i64 x.ma),.lst 1 (x.st.map Rf.r7),.lst 3 (x.qu.sl.map j5),.lst 2 (x.qu.wa.map j9)]] (.shp false [some 4,none,none] [.v (.int .i64 x.ma),.fr 3 1 ((x.st.take (x.st.length - 1)).map Rf.r7),.fr 104 3 ((a6a x.qu (S3 x)).sl.map j5),.fr 76 2 ((a6a x.qu (S3 x)).wa.map j9) true,.v (.int .i64 (S3 x)),.v (.bool true)]):=by
 have hl4:=hG.f.qu.sl.len
 have hwn:=hG.f.qu.wn
 have hsn:=hG.f.sn
 obtain ⟨hla,hlb⟩:=b9x hG hn
 have hls:=a8n hn
 have htn:((x.st.length:Int) - 1).toNat=x.st.length - 1:=J
 refine Ctr.of (n:=40) G Tryz.func180 Z a8 Z Z Z (λw0=>?_)
 refine n8 0 Z (λ_=>Z) (λu0=>?_)
 refine vm1 ?_
 refine vm9 ?_
 refine zcd (λh1=>?_) (λh1=>?_)
 ·exfalso;omega
 refine zgn ?_
 refine s9 (l2 14 [0,1] mixed a8 Z Z (λr0=>?_) (λ_ h=>h))
 refine a06 ?_
 refine a8r ?_
 refine A9 (N:=3) Z (s7 (fuel:=6) [⟨11,6,2,true,.box (avR [.slice none 0 0,.slice none 0 0] [])⟩] (AllVOK.cons (VOK.boxS G Z Z Z Z Z) (AllVOK.nil)) (λhok=>?_))
 refine n6 [(7,[])] a8 a8 (λe he=>hok e he) a8 (AllVS.cons ?_ AllVS.nil)
 refine VStep.mk0 [0,1] Z Z (λb1 _ hbn=>d4 5 Z Z Z (ArgsOK.of Z) (a9g x.qu _ hG.f.qu (by rw [hls];exact hla) (by rw [hls];exact hlb)) Z Z (b4 Z)) a8 a8 a8 a8 (v7 8 Z a8 Z Z Z Z (b9 Z Z) a8 a8 a8 (v7 9 Z a8 Z Z Z Z (i1 Z Z Z) a8 a8 a8 (v7 10 Z a8 Z Z Z Z (i1 Z Z Z) a8 a8 a8 (n6 [(12,[11])] a8 a8 (λe he=>hok e he) a8 (AllVS.cons ?_ AllVS.nil)))))
 refine VStep.mk1 [0,1] 6 (.ptr 2 0) 2 (.box (avR [.slice none 0 0,.slice none 0 0] [])) [] Z Z Z Z Z (λb1 _ hbn=>e9 G Z Z Z Z Z Z Z Z Z Z Z (b4 Z)) a8 a8 a8 a8 (G0 ?_)
 clear hok
 refine zsa 13 ?_
 refine F3 ?_
 refine s9 (l2 17 [0,2,3,4] mixed a8 Z Z (λr0=>?_) (λ_ h=>h))
 refine a06 ?_
 refine zsa 4 ?_
 first | refine d5 5 Z a8 a8 Z Z Z Z (N3 G Z Z Z Z Z J J J) ?_ | refine d5 5 Z a8 a8 Z Z Z Z (N3 G Z Z Z Z Z J a5F a5F) ?_
 refine zsa 7 ?_
 refine zsa 9 ?_
 refine zsa 10 ?_
 refine zsa 11 ?_
 refine zsa 12 ?_
 refine zsa 13 ?_
 refine b7 (rs:=[6]) a8 Z (AllB.cons ?_ AllB.nil)
 refine g9 [0,2,3,4] Z Z (d4 6 Z Z Z (ArgsOK.of (congrArg some (congrArg (λz=>[AV.lst 1 z]) b0y))) (E5 (x.st.take (x.st.length - 1)) b6E) Z Z (b4 ⟨Z,?_⟩))
 refine b7 (rs:=[8]) a8 Z (AllB.cons ?_ AllB.nil)
 refine b4r ?_
 refine b7 (rs:=[14]) a8 Z (AllB.cons ?_ AllB.nil)
 refine b4r ?_
 refine zsa 15 ?_
 refine zsa 16 ?_
 refine F3 ?_
 refine d8 (o8 Z Z Z Z (b3 (j8 ?_) (b3 (c8 Z ?_) (b3 (c8 Z ?_) (b3 (c8 Z ?_) (b3 (j8 ?_) (b3 (j8 ?_) d9)))))))
 all_goals (first | rfl | (rw [hls];done))
theorem a9i (x:Ifc) (hG:IfG x) (hn:x.st.length≠0):Ctr Tryz.prog 151 [.agg [.v (.int .i64 x.ma),.lst 1 (x.st.map Rf.r7),.lst 3 (x.qu.sl.map j5),.lst 2 (x.qu.wa.map j9)]] (.shp false [some 4,none] [.v (.int .i64 x.ma),.fr 3 1 ((x.st.take (x.st.length - 1)).map Rf.r7),.fr 104 3 ((a6a x.qu (S3 x)).sl.map j5),.fr 76 2 ((a6a x.qu (S3 x)).wa.map j9),.v (.int .i64 (S3 x))]):=by
 have hl4:=hG.f.qu.sl.len
 have hwn:=hG.f.qu.wn
 have hsn:=hG.f.sn
 obtain ⟨hla,hlb⟩:=b9x hG hn
 have hls:=a8n hn
 have htn:((x.st.length:Int) - 1).toNat=x.st.length - 1:=J
 refine Ctr.of (n:=41) G Tryz.func151 Z a8 Z Z Z (λw0=>?_)
 refine n8 0 Z (λ_=>Z) (λu0=>?_)
 refine vm1 ?_
 refine vm9 ?_
 refine zcd (λh1=>?_) (λh1=>?_)
 ·exfalso;omega
 refine zgn ?_
 refine s9 (l2 15 [0,1] mixed a8 Z Z (λr0=>?_) (λ_ h=>h))
 refine c1R ?_
 refine zsa 6 ?_
 refine zsa 7 ?_
 refine A9 (N:=3) Z (s7 (fuel:=6) [⟨12,5,2,true,.box (avR [.slice none 0 0,.slice none 0 0] [])⟩] (AllVOK.cons (VOK.boxS G Z Z Z Z Z) (AllVOK.nil)) (λhok=>?_))
 refine n6 [(8,[])] a8 a8 (λe he=>hok e he) a8 (AllVS.cons ?_ AllVS.nil)
 refine VStep.mk0 [0,1] Z Z (λb1 _ hbn=>d4 5 Z Z Z (ArgsOK.of Z) (a3K x.qu _ hG.f.qu (by rw [hls];exact hla) (by rw [hls];exact hlb)) Z Z (b4 Z)) a8 a8 a8 a8 (v7 9 Z a8 Z Z Z Z (b9 Z Z) a8 a8 a8 (v7 10 Z a8 Z Z Z Z (i1 Z Z Z) a8 a8 a8 (v7 11 Z a8 Z Z Z Z (i1 Z Z Z) a8 a8 a8 (n6 [(13,[12])] a8 a8 (λe he=>hok e he) a8 (AllVS.cons ?_ AllVS.nil)))))
 refine c8C ?_
 clear hok
 refine zsa 14 ?_
 refine F3 ?_
 refine s9 (l2 18 [0,2,3,4] mixed a8 Z Z (λr0=>?_) (λ_ h=>h))
 refine c1R ?_
 first | refine d5 6 Z a8 a8 Z Z Z Z (N3 G Z Z Z Z Z J J J) ?_ | refine d5 6 Z a8 a8 Z Z Z Z (N3 G Z Z Z Z Z J a5F a5F) ?_
 refine c8G ?_
 refine zsa 14 ?_
 refine zsa 15 ?_
 refine b7 (rs:=[7]) a8 Z (AllB.cons ?_ AllB.nil)
 refine g9 [0,2,3,4] Z Z (d4 6 Z Z Z (ArgsOK.of (congrArg some (congrArg (λz=>[AV.lst 1 z]) b0y))) (H6 (x.st.take (x.st.length - 1)) b6E) Z Z (b4 ⟨Z,?_⟩))
 refine b7 (rs:=[9]) a8 Z (AllB.cons ?_ AllB.nil)
 refine b4r ?_
 refine b7 (rs:=[16]) a8 Z (AllB.cons ?_ AllB.nil)
 refine b4r ?_
 refine zsa 17 ?_
 refine F3 ?_
 refine d8 (o8 Z Z Z Z (b3 (j8 ?_) (b3 (c8 Z ?_) (b3 (c8 Z ?_) (b3 (c8 Z ?_) (b3 (j8 ?_) d9))))))
 all_goals (first | rfl | (rw [hls];done))
theorem a5H (x:Ifc) (hn:x.st.length<=1048576) (hl:x.qu.sl.length<=1048576) (hw:x.qu.wa.length<=1048576):Ctr Tryz.prog 123 [.agg [.v (.int .i64 x.ma),.lst 1 (x.st.map Rf.r7),.lst 3 (x.qu.sl.map j5),.lst 2 (x.qu.wa.map j9)]] (.shp true [some 4] [.v (.int .i64 x.ma),.fr 3 1 (x.st.map Rf.r7),.fr 104 3 (x.qu.sl.map j5),.fr 76 2 (x.qu.wa.map j9)]):=by
 refine Ctr.of (n:=12) G Tryz.func123 Z a8 Z Z Z (λw0=>?_)
 refine n8 0 Z (λ_=>Z) (λu0=>?_)
 refine vm1 ?_
 refine vm9 ?_
 refine zgn ?_
 refine s9 (l2 10 [0] mixed a8 Z Z (λr0=>?_) (λ_ h=>h))
 refine a06 ?_
 refine zsa 5 ?_
 refine zsa 6 ?_
 refine b7 (rs:=[4]) a8 Z (AllB.cons ?_ AllB.nil)
 refine g9 [0] Z Z (d4 3 Z Z Z (ArgsOK.of Z) (H6 x.st hn) Z Z (b4 ⟨Z,?_⟩))
 refine b7 (rs:=[7]) a8 Z (AllB.cons ?_ AllB.nil)
 refine g9 [0] Z Z (d4 5 Z Z Z (ArgsOK.of Z) (a7C x.qu hl hw) Z Z (b4 ⟨Z,?_⟩))
 exact c4o
theorem a2r (m:Mach) (hM:MaG m):Ctr Tryz.prog 79 [.agg [.lst 2 (m.rs.map q9),.lst 1 (m.en.map m8),.lst 1 (m.ra.map m8),.nst none 4 (m.cp.map (r6 104 76))]] (.shp true [some 4] [.fr 132 2 (m.rs.map q9),.fr 4 1 (m.en.map m8),.fr 4 1 (m.ra.map m8),.ne 74 4 (m.cp.map (r6 104 76))]):=by
 have f1:=hM.n
 have f2:=hM.en
 have f3:=hM.ra
 have f4:=hM.rn
 refine Ctr.of (n:=38) G Tryz.func79 Z a8 Z Z Z (λw0=>?_)
 refine n8 0 Z (λ_=>Z) (λu0=>?_)
 refine vm1 ?_
 refine vm9 ?_
 refine zgn ?_
 refine s9 (l2 16 [0,1] mixed a8 Z Z (λr0=>?_) (λ_ h=>h))
 refine zsa 1 ?_
 refine zsa 2 ?_
 refine zsa 5 ?_
 refine zsa 6 ?_
 refine zsa 9 ?_
 refine zsa 10 ?_
 refine A9 (N:=7) Z (s7 (fuel:=5) [⟨0,5,2,false,.row 132 2 []⟩,⟨4,9,3,false,.row 4 1 []⟩,⟨8,13,4,false,.row 4 1 []⟩,⟨12,17,5,false,.row 74 4 []⟩,⟨14,3,6,true,.box (avR [.slice none 0 0,.slice none 0 0,.slice none 0 0,.slice none 0 0] [])⟩] (AllVOK.cons (VOK.lit G Z Z Z Z Z) (AllVOK.cons (VOK.lit G Z Z Z Z Z) (AllVOK.cons (VOK.lit G Z Z Z Z Z) (AllVOK.cons (VOK.lit G Z Z Z Z Z) (AllVOK.cons (VOK.boxS G Z Z Z Z Z) (AllVOK.nil)))))) (λhok=>?_))
 refine n6 [(3,[0])] a8 a8 (λe he=>hok e he) a8 (AllVS.cons ?_ AllVS.nil)
 refine VStep.mk1 [0,1] 5 (.own 2) 2 (.row 132 2 []) [⟨4,9,3,false,.row 4 1 []⟩,⟨8,13,4,false,.row 4 1 []⟩,⟨12,17,5,false,.row 74 4 []⟩,⟨14,3,6,true,.box (avR [.slice none 0 0,.slice none 0 0,.slice none 0 0,.slice none 0 0] [])⟩] Z Z Z Z Z (λb1 _ hbn=>l1 G T5 Z Z Z Z Z Z Z Z Z M8 Z Z (b4 Z)) a8 a8 a8 a8 (n6 [(7,[4])] a8 a8 (λe he=>hok e (vin (is:=[0]) Z he)) a8 (AllVS.cons ?_ AllVS.nil))
 refine VStep.mk1 [0,1] 9 (.own 3) 3 (.row 4 1 []) [⟨8,13,4,false,.row 4 1 []⟩,⟨12,17,5,false,.row 74 4 []⟩,⟨14,3,6,true,.box (avR [.slice none 0 0,.slice none 0 0,.slice none 0 0,.slice none 0 0] [])⟩] Z Z Z Z Z (λb1 _ hbn=>l1 G T5 Z Z Z Z Z Z Z Z Z M8 Z Z (b4 Z)) a8 a8 a8 a8 (n6 [(11,[8])] a8 a8 (λe he=>hok e (vin (is:=[0,4]) Z he)) a8 (AllVS.cons ?_ AllVS.nil))
 refine VStep.mk1 [0,1] 13 (.own 4) 4 (.row 4 1 []) [⟨12,17,5,false,.row 74 4 []⟩,⟨14,3,6,true,.box (avR [.slice none 0 0,.slice none 0 0,.slice none 0 0,.slice none 0 0] [])⟩] Z Z Z Z Z (λb1 _ hbn=>l1 G T5 Z Z Z Z Z Z Z Z Z M8 Z Z (b4 Z)) a8 a8 a8 a8 (n6 [(13,[12])] a8 a8 (λe he=>hok e (vin (is:=[0,4,8]) Z he)) a8 (AllVS.cons ?_ AllVS.nil))
 refine VStep.mk1 [0,1] 17 (.own 5) 5 (.row 74 4 []) [⟨14,3,6,true,.box (avR [.slice none 0 0,.slice none 0 0,.slice none 0 0,.slice none 0 0] [])⟩] Z Z Z Z Z (λb1 _ hbn=>b5 Z Z (w9 G Z Z Z Z) (b4 Z)) a8 a8 a8 a8 (n6 [(15,[14])] a8 a8 (λe he=>hok e (vin (is:=[0,4,8,12]) Z he)) a8 (AllVS.cons ?_ AllVS.nil))
 refine c6z ?_
 clear hok
 refine c6K ?_
 refine i7 [1,2,3] [0,1,2,3,4,6] (λ(k:Nat)=>[(4,.v (.int .i64 (k:Int)))]) (λ(k:Nat)=>[(5,some (.nest 74 4 ((m.cp.take k).map (r6 104 76)) []))]) (λ(k:Nat)=>k<=m.cp.length) (λ(k:Nat)=>m.cp.length - k) 0 Z Z ?_ ?_ ?_ ?_
 ·exact R9
 ·exact a84
 ·exact a07
 intro k hk
 have hkl:((m.cp.take k).map (r6 104 76)).length=k:=b97
 refine vm2 ?_
 refine zcd (λh1=>?_) (λh1=>?_)
 ·obtain ⟨g1,g2,g3⟩:=hM.lens (k:=k) J
  exact c8O
 obtain rfl:k=m.cp.length:=J
 refine zgo ?_
 refine d8 (o8 Z Z Z Z (b3 (c8 Z ?_) (b3 (c8 Z ?_) (b3 (c8 Z ?_) (b3 (A8 Z ?_) d9)))))
 all_goals exact c6w
theorem a7E (m:Mach) (hM:MaG m):Ctr Tryz.prog 70 [.agg [.lst 2 (m.rs.map q9),.lst 1 (m.en.map m8),.lst 1 (m.ra.map m8),.nst none 4 (m.cp.map (r6 104 76))]] (.shp true [some 4] [.fr 132 2 (m.rs.map q9),.fr 4 1 (m.en.map m8),.fr 4 1 (m.ra.map m8),.ne 74 4 (m.cp.map (r6 104 76))]):=by
 have f1:=hM.n
 have f2:=hM.en
 have f3:=hM.ra
 have f4:=hM.rn
 refine Ctr.of (n:=36) G Tryz.func70 Z Y Z Z Z (λw0=>?_)
 refine n8 0 Z (λ_=>Z) (λu0=>?_)
 refine c1 (λK1 hK1=>?_)
 refine b6 (a7 Z (B3 1 Z Z Z Z Z Z Z (a7 Z (d7 G 2 Z Z Z Z Z (b4 (hK1 _ ?_))))))
 clear hK1 K1
 refine c1 (λK2 hK2=>?_)
 refine l2 16 [0,1] mixed Y Z Z (λr0=>?_) (λ_ h=>h)
 refine d5 1 Z Y Y Z Z Z Z (d3 G Z Z Z Z) (d5 2 Z Y Y Z Z Z Z (a1K (f7 G Z Z Z Z Z Z Z)) (d5 5 Z Y Y Z Z Z Z (d3 G Z Z Z Z) (d5 6 Z Y Y Z Z Z Z (a1K (f7 G Z Z Z Z Z Z Z)) (d5 9 Z Y Y Z Z Z Z (d3 G Z Z Z Z) (d5 10 Z Y Y Z Z Z Z (a1K (f7 G Z Z Z Z Z Z Z)) ?_)))))
 refine A9 (N:=7) Z (s7 (fuel:=5) [⟨0,6,2,false,.row 132 2 []⟩,⟨4,10,3,false,.row 4 1 []⟩,⟨8,14,4,false,.row 4 1 []⟩,⟨12,18,5,false,.row 74 4 []⟩,⟨14,3,6,true,.box (avR [.slice none 0 0,.slice none 0 0,.slice none 0 0,.slice none 0 0] [])⟩] (AllVOK.cons (VOK.lit G Z Z Z Z Z) (AllVOK.cons (VOK.lit G Z Z Z Z Z) (AllVOK.cons (VOK.lit G Z Z Z Z Z) (AllVOK.cons (VOK.lit G Z Z Z Z Z) (AllVOK.cons (VOK.boxS G Z Z Z Z Z) (AllVOK.nil)))))) (λhok=>?_))
 refine n6 [(3,[0])] Y Y (λe he=>hok e he) Y (AllVS.cons ?_ AllVS.nil)
 refine VStep.mk1 [0,1] 6 (.own 2) 2 (.row 132 2 []) [⟨4,10,3,false,.row 4 1 []⟩,⟨8,14,4,false,.row 4 1 []⟩,⟨12,18,5,false,.row 74 4 []⟩,⟨14,3,6,true,.box (avR [.slice none 0 0,.slice none 0 0,.slice none 0 0,.slice none 0 0] [])⟩] Z Z Z Z Z (λb1 _ hbn=>l1 G (by rw [hbn];exact Nat.le_of_ble_eq_true Z) Z Z Z Z Z Z Z Z Z (by first | (simp only [List.length_map,List.length_cons,List.length_nil];omega) | (simp;omega)) Z Z (b4 Z)) Y Y Y Y ?_
 refine n6 [(7,[4])] Y Y (λe he=>hok e (vin (is:=[0]) Z he)) Y (AllVS.cons ?_ AllVS.nil)
 refine VStep.mk1 [0,1] 10 (.own 3) 3 (.row 4 1 []) [⟨8,14,4,false,.row 4 1 []⟩,⟨12,18,5,false,.row 74 4 []⟩,⟨14,3,6,true,.box (avR [.slice none 0 0,.slice none 0 0,.slice none 0 0,.slice none 0 0] [])⟩] Z Z Z Z Z (λb1 _ hbn=>l1 G (by rw [hbn];exact Nat.le_of_ble_eq_true Z) Z Z Z Z Z Z Z Z Z (by first | (simp only [List.length_map,List.length_cons,List.length_nil];omega) | (simp;omega)) Z Z (b4 Z)) Y Y Y Y ?_
 refine n6 [(11,[8])] Y Y (λe he=>hok e (vin (is:=[0,4]) Z he)) Y (AllVS.cons ?_ AllVS.nil)
 refine VStep.mk1 [0,1] 14 (.own 4) 4 (.row 4 1 []) [⟨12,18,5,false,.row 74 4 []⟩,⟨14,3,6,true,.box (avR [.slice none 0 0,.slice none 0 0,.slice none 0 0,.slice none 0 0] [])⟩] Z Z Z Z Z (λb1 _ hbn=>l1 G (by rw [hbn];exact Nat.le_of_ble_eq_true Z) Z Z Z Z Z Z Z Z Z (by first | (simp only [List.length_map,List.length_cons,List.length_nil];omega) | (simp;omega)) Z Z (b4 Z)) Y Y Y Y ?_
 refine n6 [(13,[12])] Y Y (λe he=>hok e (vin (is:=[0,4,8]) Z he)) Y (AllVS.cons ?_ AllVS.nil)
 refine VStep.mk1 [0,1] 18 (.own 5) 5 (.row 74 4 []) [⟨14,3,6,true,.box (avR [.slice none 0 0,.slice none 0 0,.slice none 0 0,.slice none 0 0] [])⟩] Z Z Z Z Z (λb1 _ hbn=>b5 Z Z (w9 G Z Z Z Z) (b4 Z)) Y Y Y Y ?_
 refine n6 [(15,[14])] Y Y (λe he=>hok e (vin (is:=[0,4,8,12]) Z he)) Y (AllVS.cons ?_ AllVS.nil)
 refine VStep.mk1 [0,1] 3 (.ptr 6 0) 6 (.box (avR [.slice none 0 0,.slice none 0 0,.slice none 0 0,.slice none 0 0] [])) [] Z Z Z Z Z (λb1 _ hbn=>e9 G Z Z Z Z Z Z Z Z Z Z Z (b4 Z)) Y Y Y Y (G0 ?_)
 clear hok
 refine a3P (Gh.nest (id:=5) (yss:=[]) Z Z (by intro _ _ _ h;simp at h)) (C3 Y (hK2 _ ?_))
 clear hK2 K2
 refine c1 (λK3 hK3=>?_)
 refine c1 (λK4 hK4=>?_)
 refine b6 (a7 Z (b5 Z Z (d3 G Z Z Z Z) (a7 Z (b5 Z Z (b1v (f7 G Z Z Z Z Z Z Z)) (a7 Z ?_)))))
 first | refine b5 Z Z (E1 G Z Z Z Z (List.length_map _)) ?_ | refine b5 Z Z (K0 G Z Z Z Z) ?_
 refine a7 Z (b5 Z Z (b9 Z Z) (b4 (hK4 _ ?_)))
 clear hK4 K4
 refine o7 ?_
 refine i7 [2,3,21,22] [1,2,3,4,6] (λ(k:Nat)=>[(23,.v (.int .i64 (k:Int)))]) (λ(k:Nat)=>[(5,some (.nest 74 4 ((m.cp.take k).map (r6 104 76)) []))]) (λ(k:Nat)=>k<=m.cp.length) (λ(k:Nat)=>m.cp.length - k) 0 Z Z ?_ ?_ ?_ ?_
 ·exact R9
 ·exact a84
 ·exact a07
 ·intro k hk
  have hkl:((m.cp.take k).map (r6 104 76)).length=k:=(by rw [List.length_map,List.length_take];omega)
  simp only [List.cons_append,List.nil_append]
  refine c1 (λK5 hK5=>?_)
  refine b6 (a7 Z (b5 Z Z (t8 Z Z Z Z) (b4 (hK5 _ ?_))))
  clear hK5 K5
  refine c1 (λK6 hK6=>?_)
  refine l4 Z (λh1=>?_) (λh1=>?_)
  ·try rw [h1]
   try simp only [rfb] at h1
   obtain ⟨g1,g2,g3⟩:=hM.lens (k:=k) J
   refine p8 (hK6 _ ?_)
   clear hK6 K6
   refine c1 (λK7 hK7=>?_)
   refine o7 ?_
   refine c1 (λK8 hK8=>?_)
   refine b6 (a7 Z ?_)
   first | refine b5 Z Z (y7 G Z Z Z Z J (R1 J) Z) ?_ | refine b5 Z Z (y7 G Z Z Z Z J (A7 J J) Z) ?_ | refine b5 Z Z (y7 G Z Z Z Z J (A1 J J) Z) ?_
   refine a7 Z (b5 Z Z (F5 G Z Z Z Z) (a7 Z (d7 G 8 Z Z Z Z Z (a7 Z (a3H 26 Z (λ_=>Z) λv26=>e9 G Z Z Z Z Z Z Z Z Z Z Z (b4 (hK8 _ ?_)))))))
   clear hK8 K8
   apply C4 [2,3,21,22,23] [1,2,3,4,6,12] 13 8 [1,2,3,4,7] mixed Y Z Z hK7
   ·intro r0
    refine d5 0 Z Y Y Z Z Z Z (d3 G Z Z Z Z) (d5 2 Z Y Y Z Z Z Z (d1 G Z Z Z Z Z Z) ?_)
    refine b7 (rs:=[1,3]) Y Z (AllB.cons ?_ (AllB.cons ?_ AllB.nil))
    ·refine f9 [1,2,3,4,7] Z Z (b5 Z Z (f7 G Z Z Z Z Z Z Z) (b4 ⟨Z,?_⟩))
     refine b7 (rs:=[3]) Y Z (AllB.cons ?_ AllB.nil)
     refine f9 [1,2,3,4,7] Z Z (d4 11 Z Z Z (ArgsOK.of Z) (E8 (m.cp.getD k default) J J J) Z Z (b4 ⟨Z,?_⟩))
     exact c4I
    ·refine f9 [1,2,3,4,7] Z Z (d4 11 Z Z Z (ArgsOK.of Z) (E8 (m.cp.getD k default) J J J) Z Z (b4 ⟨Z,?_⟩))
     refine b7 (rs:=[1,4]) Y Z (AllB.cons ?_ (AllB.cons ?_ AllB.nil))
     ·refine f9 [1,2,3,4,7] Z Z (b5 Z Z (f7 G Z Z Z Z Z Z Z) (b4 ⟨Z,?_⟩))
      exact c4I
     ·refine f9 [1,2,3,4,7] Z Z (B2 G 12 Z Z Z Z Z Z Z Z (.v Z (.own Z (.own Z (.own Z .nil)))) Z Z Z Z (b4 ⟨Z,?_⟩))
      refine b7 (rs:=[1]) Y Z (AllB.cons ?_ AllB.nil)
      refine f9 [1,2,3,4,7] Z Z (b5 Z Z (f7 G Z Z Z Z Z Z Z) (b4 ⟨Z,?_⟩))
      exact c4d
   ·clear hK7 K7
    refine b6 (a7 Z ?_)
    first | refine b5 Z Z (p5 Z Z Z Z J J) ?_ | refine b5 Z Z (s3 Z Z Z Z) ?_
    refine a7 Z (b5 Z Z (b9 Z Z) (r9 (Gh.sub 12 5 np Z Z Z) ?_))
    refine b4 ⟨(k+1),?_,?_,⟨⟨_,Z,by rfl⟩,Z,trivial⟩,⟨⟨_,Z,by (exact congrArg (λz=>Row.nest _ _ z []) (b1M J Z))⟩,Z,Z,trivial⟩,Z,Z,Z⟩
    ·omega
    ·omega
  ·try rw [h1]
   try simp only [rfb] at h1
   obtain rfl:k=m.cp.length:=J
   refine G2 (hK3 _ ?_)
   clear hK6 K6 hK3 K3
   refine c1 (λK9 hK9=>?_)
   refine b6 (a7 Z (b5 Z Z (d1 G Z Z Z Z Z Z) (a7 Z (e9 G Z Z Z Z Z Z Z Z Z Z Z (b4 (hK9 _ ?_))))))
   clear hK9 K9
   refine d8 (o8 Z Z Z Z (b3 (c8 Z ?_) (b3 (c8 Z ?_) (b3 (c8 Z ?_) (b3 (A8 Z ?_) d9)))))
   all_goals (first | rfl | (rw [List.take_length];done) | (rw [List.take_length];rfl) | simp)
theorem a3L (l:List Int) (v:Int) (hn:l.length<=1048576):Ctr Tryz.prog 278 [.lst 1 (l.map Rf.r7),.v (.int .i64 v)] (.one (.v (.int .i64 (P0 (λj=>decide (v=l.getD j default)) l.length)))):=by
 refine Ctr.of (n:=19) G Tryz.func278 Z a8 Z Z Z (λw0=>?_)
 refine zgo ?_
 refine i7 [0,1,7] [] (λ(i:Nat)=>[(8,.v (.int .i64 (i:Int)))]) (λ(i:Nat)=>[]) (λ(i:Nat)=>i<=l.length/\∀j,j < i→decide (v=l.getD j default)=false) (λ(i:Nat)=>l.length - i) 0 Z Z ?_ ?_ ?_ ?_
 ·exact T7
 ·exact E7
 ·exact trivial
 intro i hinv
 refine vm2 ?_
 refine zcd (λh1=>?_) (λh1=>?_)
 ·refine zcd (λh2=>?_) (λh2=>?_)
  ·refine zf1 ?_
   all_goals exact c3k
  exact c3B
 refine zf1 ?_
 all_goals exact c3k
theorem a1y (l:List Int) (v:Int) (hn:l.length<=1048576):Ctr Tryz.prog 231 [.lst 1 (l.map Rf.r7),.v (.int .i64 v)] (.one (.v (.bool (b0g l v)))):=by
 refine Ctr.of (n:=9) G Tryz.func231 Z a8 Z Z Z (λw0=>?_)
 refine zcl (a3L _ _ a1X) ?_
 refine zf1 ?_
 all_goals (simp only [b0g];rw [a4Z])
theorem a3M (l:List Int) (v:Int) (hn:l.length<=1048576):Ctr Tryz.prog 161 [.lst 1 (l.map Rf.r7),.v (.int .i64 v)] (.one (.v (.bool (b0g l v)))):=by
 refine Ctr.of (n:=18) G Tryz.func161 Z a8 Z Z Z (λw0=>?_)
 refine zgo ?_
 refine i7 [0,1] [] (λ(i:Nat)=>[(5,.v (.int .i64 (i:Int)))]) (λ(i:Nat)=>[]) (λ(i:Nat)=>i<=l.length/\∀j,j < i→decide (v=l.getD j default)=false) (λ(i:Nat)=>l.length - i) 0 Z Z ?_ ?_ ?_ ?_
 ·exact T7
 ·exact E7
 ·exact trivial
 intro i hinv
 refine vm2 ?_
 refine zcd (λh1=>?_) (λh1=>?_)
 ·refine zcd (λh2=>?_) (λh2=>?_)
  ·refine zf1 ?_
   all_goals exact c3l
  exact c3B
 refine zf1 ?_
 all_goals exact c3l
end Go.Proofs.YtdhckhjphmjniaaGreatDoor
