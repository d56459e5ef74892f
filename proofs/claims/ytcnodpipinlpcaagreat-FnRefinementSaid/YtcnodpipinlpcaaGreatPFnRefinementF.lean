/- Texts merged into one: D5, D6, M8, D7. -/
import Derived.Test.YtcnodpipinlpcaaGreatPFnRefinementE
set_option maxHeartbeats 4000000
set_option linter.unusedSimpArgs false
set_option linter.unusedVariables false
set_option maxRecDepth 20000
namespace Go.Proofs.YtcnodpipinlpcaaGreat
open Go Go.Rf
theorem a0A {x:Cur} {n:Int} (h:okC n x) (hn:n<=890000000000):CtrX (α:=Que×Cur) Tryz.prog 214 [.ptr 0 0] [.box [.lst 1 (x.c.map B9),.v (.int .i64 x.a),.v (.int .u64 x.s)]] (λy=>(y.1.sl.length<=5/\y.1.wa.length<=10)/\okC (n+300) y.2) (λy=>.shp true [some 2] [.fr 154 3 (y.1.sl.map f9),.fr 183 2 (y.1.wa.map i5)]) (λy=>[some (.box [.lst 1 (y.2.c.map B9),.v (.int .i64 y.2.a),.v (.int .u64 y.2.s)])]):=by
 refine CtrX.of (n:=82) (k:=1) G Tryz.func214 Z a6 Z Z Z Z (λ_=>Z) Z Z (λw0 _ hpin=>?_)
 refine zgo ?_
 refine vm7 ?_
 refine m3 ?_
 refine b2k ?_
 refine vm4 ?_
 refine b3t ?_
 refine m3 ?_
 refine a9c ?_
 refine zgo ?_
 refine b5 Z (c9 5 [0] Z Z Z (p6 h J (14)) Z (RowsIn.cons Z RowsIn.nil) Z (λ_=>Z) Z (λx1 ⟨hv1,hc1⟩=>?_))
 refine zgo ?_
 refine f6 [0,2,3] [1] (λ(z:Nat×Cur×Que)=>[(4,.v (.int .i64 (x1.1 - z.1)))]) (λ(z:Nat×Cur×Que)=>[(0,some (.box [.lst 1 (z.2.1.c.map B9),.v (.int .i64 z.2.1.a),.v (.int .u64 z.2.1.s)])),(2,some (.row 154 3 (z.2.2.sl.map f9))),(3,some (.row 183 2 (z.2.2.wa.map i5))),(4,some (.box [.own 2,.own 3]))]) (λ(z:Nat×Cur×Que)=>(z.1:Int)<=x1.1/\(QF z.2.2)/\okC (n+2+6 * z.1) z.2.1) (λ(z:Nat×Cur×Que)=>x1.1.toNat - z.1) (0,x1.2,q0) Z Z ?_ ?_ ?_ ?_
 ·exact ⟨hv1.1,c20,hc1.mono (by simp)⟩
 ·exact b1o
 ·exact b6H
 intro z hinv
 obtain ⟨hz1,hz2,hz⟩:=hinv
 have hql:=hz2.sl.len
 have hqw:=hz2.wn8
 refine vm2 ?_
 refine zcd (λh1=>?_) (λh1=>?_)
 ·refine zgo ?_
  refine b5 Z (c9 5 [0] Z Z Z (p6 hz J (5)) Z (RowsIn.cons Z RowsIn.nil) Z (λ_=>Z) Z (λx2 ⟨hv2,hc2⟩=>?_))
  refine zcd (λh2=>?_) (λh2=>?_)
  ·refine zwt ?_
   refine O3 7 [1,2,3,4] [6] mixed a6 Z Z (λr0=>?_) (λ_ h=>h)
   refine s6 0 [5,6] Z a6 a6 a6 Z Z Z Z (c5 G Z Z Z Z Z Z) (s6 1 [2,4,5,6] Z a6 a6 a6 Z Z Z Z (d3 Z Z) (s6 3 [4,5,6] Z a6 a6 a6 Z Z Z Z (d3 Z Z) (u4 2 a6 (y7 [1,2,3,4] Z Z (c9 5 [0] Z Z Z (p6 hc2 J (8)) Z (RowsIn.cons Z RowsIn.nil) Z (λ_=>Z) Z (λx3 ⟨hv3,hc3⟩=>a8 ⟨Z,?_⟩))))))
   refine u4 4 a6 (y7 [1,2,3,4] Z Z (c9 5 [0] Z Z Z (p6 hc3 J (8)) Z (RowsIn.cons Z RowsIn.nil) Z (λ_=>Z) Z (λx4 ⟨hv4,hc4⟩=>a8 ⟨Z,?_⟩)))
   refine u4 5 a6 (y7 [1,2,3,4] Z Z (c4 7 Z Z Z (ArgsOK.of Z) (S3 z.2.2 _ _ hz2 J J) Z Z (a8 ⟨Z,?_⟩)))
   refine b4c ?_
   refine m6 (Gh.sub 5 2 w3 Z Z Z) (m6 (Gh.sub 6 3 w3 Z Z Z) (a8 ⟨(z.1+1,x4.2,a0m z.2.2 x3.1 x4.1),?_,?_,⟨⟨_,Z,by (first | rfl | exact congrArg (λv=>AV.v (.int .i64 v)) A5)⟩,Z,trivial⟩,⟨⟨_,Z,by rfl⟩,Z,Z,⟨⟨_,Z,by rfl⟩,Z,Z,⟨⟨_,Z,by rfl⟩,Z,Z,⟨⟨_,Z,by rfl⟩,Z,Z,trivial⟩⟩⟩⟩,Z,Z,Z⟩))
   ·first | exact ⟨by show ((z.1+1:Nat):Int)<=x1.1;omega,(a22 hz2 J J).1,hc4.mono g0⟩ | exact ⟨by show ((z.1+1:Nat):Int)<=x1.1;omega,a85 hz2,hc4.mono g0⟩ | exact ⟨by show ((z.1+1:Nat):Int)<=x1.1;omega,a86 hz2 b9,hc4.mono g0⟩ | exact ⟨by show ((z.1+1:Nat):Int)<=x1.1;omega,hz2,hc4.mono g0⟩
   exact Z5
  refine zcd (λh3=>?_) (λh3=>?_)
  ·refine zwt ?_
   refine O3 7 [1,2,3,4] [6] mixed a6 Z Z (λr0=>?_) (λ_ h=>h)
   refine s6 0 [5,6] Z a6 a6 a6 Z Z Z Z (c5 G Z Z Z Z Z Z) (s6 1 [2,4,5,6] Z a6 a6 a6 Z Z Z Z (d3 Z Z) (s6 3 [4,5,6] Z a6 a6 a6 Z Z Z Z (d3 Z Z) (u4 2 a6 (y7 [1,2,3,4] Z Z (c9 5 [0] Z Z Z (p6 hc2 J (8)) Z (RowsIn.cons Z RowsIn.nil) Z (λ_=>Z) Z (λx5 ⟨hv5,hc5⟩=>a8 ⟨Z,?_⟩))))))
   refine u4 4 a6 (y7 [1,2,3,4] Z Z (c9 5 [0] Z Z Z (p6 hc5 J (8)) Z (RowsIn.cons Z RowsIn.nil) Z (λ_=>Z) Z (λx6 ⟨hv6,hc6⟩=>a8 ⟨Z,?_⟩)))
   refine u4 5 a6 (y7 [1,2,3,4] Z Z (c4 7 Z Z Z (ArgsOK.of Z) (S3 z.2.2 _ _ hz2 J J) Z Z (a8 ⟨Z,?_⟩)))
   refine b4c ?_
   refine m6 (Gh.sub 5 2 w3 Z Z Z) (m6 (Gh.sub 6 3 w3 Z Z Z) (a8 ⟨(z.1+1,x6.2,a0m z.2.2 x5.1 x6.1),?_,?_,⟨⟨_,Z,by (first | rfl | exact congrArg (λv=>AV.v (.int .i64 v)) A5)⟩,Z,trivial⟩,⟨⟨_,Z,by rfl⟩,Z,Z,⟨⟨_,Z,by rfl⟩,Z,Z,⟨⟨_,Z,by rfl⟩,Z,Z,⟨⟨_,Z,by rfl⟩,Z,Z,trivial⟩⟩⟩⟩,Z,Z,Z⟩))
   ·first | exact ⟨by show ((z.1+1:Nat):Int)<=x1.1;omega,(a22 hz2 J J).1,hc6.mono g0⟩ | exact ⟨by show ((z.1+1:Nat):Int)<=x1.1;omega,a85 hz2,hc6.mono g0⟩ | exact ⟨by show ((z.1+1:Nat):Int)<=x1.1;omega,a86 hz2 b9,hc6.mono g0⟩ | exact ⟨by show ((z.1+1:Nat):Int)<=x1.1;omega,hz2,hc6.mono g0⟩
   exact Z5
  refine zcd (λh4=>?_) (λh4=>?_)
  ·refine O3 7 [1,2,3,4] [6] mixed a6 Z Z (λr0=>?_) (λ_ h=>h)
   refine s6 0 [5,6] Z a6 a6 a6 Z Z Z Z (c5 G Z Z Z Z Z Z) (s6 1 [2,4,5,6] Z a6 a6 a6 Z Z Z Z (d3 Z Z) (s6 3 [4,5,6] Z a6 a6 a6 Z Z Z Z (d3 Z Z) (u4 2 a6 (y7 [1,2,3,4] Z Z (c9 5 [0] Z Z Z (p6 hc2 J (8)) Z (RowsIn.cons Z RowsIn.nil) Z (λ_=>Z) Z (λx7 ⟨hv7,hc7⟩=>a8 ⟨Z,?_⟩))))))
   refine u4 4 a6 (y7 [1,2,3,4] Z Z (c9 5 [0] Z Z Z (p6 hc7 J (8)) Z (RowsIn.cons Z RowsIn.nil) Z (λ_=>Z) Z (λx8 ⟨hv8,hc8⟩=>a8 ⟨Z,?_⟩)))
   refine u4 5 a6 (y7 [1,2,3,4] Z Z (c4 7 Z Z Z (ArgsOK.of Z) (S3 z.2.2 _ _ hz2 J J) Z Z (a8 ⟨Z,?_⟩)))
   refine b4c ?_
   refine m6 (Gh.sub 5 2 w3 Z Z Z) (m6 (Gh.sub 6 3 w3 Z Z Z) (a8 ⟨(z.1+1,x8.2,a0m z.2.2 x7.1 x8.1),?_,?_,⟨⟨_,Z,by (first | rfl | exact congrArg (λv=>AV.v (.int .i64 v)) A5)⟩,Z,trivial⟩,⟨⟨_,Z,by rfl⟩,Z,Z,⟨⟨_,Z,by rfl⟩,Z,Z,⟨⟨_,Z,by rfl⟩,Z,Z,⟨⟨_,Z,by rfl⟩,Z,Z,trivial⟩⟩⟩⟩,Z,Z,Z⟩))
   ·first | exact ⟨by show ((z.1+1:Nat):Int)<=x1.1;omega,(a22 hz2 J J).1,hc8.mono g0⟩ | exact ⟨by show ((z.1+1:Nat):Int)<=x1.1;omega,a85 hz2,hc8.mono g0⟩ | exact ⟨by show ((z.1+1:Nat):Int)<=x1.1;omega,a86 hz2 b9,hc8.mono g0⟩ | exact ⟨by show ((z.1+1:Nat):Int)<=x1.1;omega,hz2,hc8.mono g0⟩
   exact Z5
  refine zcd (λh5=>?_) (λh5=>?_)
  ·refine m3 ?_
   refine c4 7 Z Z Z (ArgsOK.of Z) (a5E z.2.2 16 hz2) Z Z ?_
   refine zgn ?_
   refine X3 ?_
   refine m6 (Gh.sub 5 2 w3 Z Z Z) (m6 (Gh.sub 6 3 w3 Z Z Z) (a8 ⟨(z.1+1,x2.2,(tkQ z.2.2 16).1),?_,?_,⟨⟨_,Z,by (first | rfl | exact congrArg (λv=>AV.v (.int .i64 v)) A5)⟩,Z,trivial⟩,⟨⟨_,Z,by rfl⟩,Z,Z,⟨⟨_,Z,by rfl⟩,Z,Z,⟨⟨_,Z,by rfl⟩,Z,Z,⟨⟨_,Z,by rfl⟩,Z,Z,trivial⟩⟩⟩⟩,Z,Z,Z⟩))
   ·exact c4c
   exact Z5
  refine zcd (λh6=>?_) (λh6=>?_)
  ·refine p7 (d7 10 [1,2,3,4] mixed a6 Z Z (λr0=>?_) (λ_ h=>h))
   refine zsa 0 ?_
   refine zsa 1 ?_
   refine b6 (rs:=[2,7]) a6 Z (AllB.cons ?_ (AllB.cons ?_ AllB.nil))
   ·refine c8 [1,2,3,4] Z Z (c9 5 [0] Z Z Z (p6 hc2 J (8)) Z (RowsIn.cons Z RowsIn.nil) Z (λ_=>Z) Z (λx9 ⟨hv9,hc9⟩=>a8 ⟨Z,?_⟩))
    refine b6 (rs:=[3,7]) a6 Z (AllB.cons ?_ (AllB.cons ?_ AllB.nil))
    ·refine c8 [1,2,3,4] Z Z (c4 7 Z Z Z (ArgsOK.of Z) (U7 z.2.2 _ hz2) Z Z (a8 ⟨Z,?_⟩))
     refine a0v ?_
     refine b6 (rs:=[7]) a6 Z (AllB.cons ?_ AllB.nil)
     refine c8 [1,2,3,4] Z Z (g9 G 8 Z Z Z Z Z (a8 ⟨Z,?_⟩))
     refine b6 (rs:=[8]) a6 Z (AllB.cons ?_ AllB.nil)
     refine c8 [1,2,3,4] Z Z ?_
     refine F6 ?_
     refine zsa 9 ?_
     refine vm6 ?_
     refine zcd (λh7=>?_) (λh7=>?_)
     ·refine zgn ?_
      refine X3 ?_
      refine m6 (Gh.sub 5 2 w3 Z Z Z) (m6 (Gh.sub 6 3 w3 Z Z Z) (a8 ⟨(z.1+1,x9.2,(enG z.2.2 x9.1).1),?_,?_,⟨⟨_,Z,by (first | rfl | exact congrArg (λv=>AV.v (.int .i64 v)) A5)⟩,Z,trivial⟩,⟨⟨_,Z,by rfl⟩,Z,Z,⟨⟨_,Z,by rfl⟩,Z,Z,⟨⟨_,Z,by rfl⟩,Z,Z,⟨⟨_,Z,by rfl⟩,Z,Z,trivial⟩⟩⟩⟩,Z,Z,Z⟩))
      ·exact c2c
      exact Z5
     exact c0g
    refine c8 [1,2,3,4] Z Z (g9 G 6 Z Z Z Z Z (a8 ⟨Z,?_⟩))
    refine b6 (rs:=[3]) a6 Z (AllB.cons ?_ AllB.nil)
    refine c8 [1,2,3,4] Z Z (c4 8 Z Z Z (ArgsOK.of Z) (U7 z.2.2 _ hz2) Z Z (a8 ⟨Z,?_⟩))
    refine a0v ?_
    refine b6 (rs:=[8]) a6 Z (AllB.cons ?_ AllB.nil)
    refine c8 [1,2,3,4] Z Z ?_
    refine F6 ?_
    refine zsa 9 ?_
    refine vm6 ?_
    refine zcd (λh8=>?_) (λh8=>?_)
    ·refine zgn ?_
     refine X3 ?_
     refine m6 (Gh.sub 6 2 w3 Z Z Z) (m6 (Gh.sub 7 3 w3 Z Z Z) (a8 ⟨(z.1+1,x9.2,(enG z.2.2 x9.1).1),?_,?_,⟨⟨_,Z,by (first | rfl | exact congrArg (λv=>AV.v (.int .i64 v)) A5)⟩,Z,trivial⟩,⟨⟨_,Z,by rfl⟩,Z,Z,⟨⟨_,Z,by rfl⟩,Z,Z,⟨⟨_,Z,by rfl⟩,Z,Z,⟨⟨_,Z,by rfl⟩,Z,Z,trivial⟩⟩⟩⟩,Z,Z,Z⟩))
     ·exact c2c
     exact Z5
    exact c0g
   refine c8 [1,2,3,4] Z Z (g9 G 6 Z Z Z Z Z (a8 ⟨Z,?_⟩))
   refine b6 (rs:=[2]) a6 Z (AllB.cons ?_ AllB.nil)
   refine c8 [1,2,3,4] Z Z (c9 6 [0] Z Z Z (p6 hc2 J (8)) Z (RowsIn.cons Z RowsIn.nil) Z (λ_=>Z) Z (λx10 ⟨hv10,hc10⟩=>a8 ⟨Z,?_⟩))
   refine b6 (rs:=[3]) a6 Z (AllB.cons ?_ AllB.nil)
   refine c8 [1,2,3,4] Z Z (c4 8 Z Z Z (ArgsOK.of Z) (U7 z.2.2 _ hz2) Z Z (a8 ⟨Z,?_⟩))
   refine a0v ?_
   refine b6 (rs:=[8]) a6 Z (AllB.cons ?_ AllB.nil)
   refine c8 [1,2,3,4] Z Z ?_
   refine F6 ?_
   refine zsa 9 ?_
   refine vm6 ?_
   refine zcd (λh9=>?_) (λh9=>?_)
   ·refine zgn ?_
    refine X3 ?_
    refine m6 (Gh.sub 6 2 w3 Z Z Z) (m6 (Gh.sub 7 3 w3 Z Z Z) (a8 ⟨(z.1+1,x10.2,(enG z.2.2 x10.1).1),?_,?_,⟨⟨_,Z,by (first | rfl | exact congrArg (λv=>AV.v (.int .i64 v)) A5)⟩,Z,trivial⟩,⟨⟨_,Z,by rfl⟩,Z,Z,⟨⟨_,Z,by rfl⟩,Z,Z,⟨⟨_,Z,by rfl⟩,Z,Z,⟨⟨_,Z,by rfl⟩,Z,Z,trivial⟩⟩⟩⟩,Z,Z,Z⟩))
    ·exact c4b
    exact Z5
   refine zgo ?_
   refine ⟨(z.1+1,x10.2,z.2.2),?_,?_,⟨⟨_,Z,by (first | rfl | exact congrArg (λv=>AV.v (.int .i64 v)) A5)⟩,Z,trivial⟩,⟨⟨_,Z,by rfl⟩,Z,Z,⟨⟨_,Z,by rfl⟩,Z,Z,⟨⟨_,Z,by rfl⟩,Z,Z,⟨⟨_,Z,by rfl⟩,Z,Z,trivial⟩⟩⟩⟩,Z,Z,Z⟩
   ·exact c4b
   exact Z5
  refine zgo ?_
  refine ⟨(z.1+1,x2.2,z.2.2),?_,?_,⟨⟨_,Z,by (first | rfl | exact congrArg (λv=>AV.v (.int .i64 v)) A5)⟩,Z,trivial⟩,⟨⟨_,Z,by rfl⟩,Z,Z,⟨⟨_,Z,by rfl⟩,Z,Z,⟨⟨_,Z,by rfl⟩,Z,Z,⟨⟨_,Z,by rfl⟩,Z,Z,trivial⟩⟩⟩⟩,Z,Z,Z⟩
  ·exact c4c
  exact Z5
 refine zgo ?_
 refine b5 Z (c9 5 [0] Z Z Z (p6 hz J (24)) Z (RowsIn.cons Z RowsIn.nil) Z (λ_=>Z) Z (λx11 ⟨hv11,hc11⟩=>?_))
 refine zcd (λh10=>?_) (λh10=>?_)
 ·refine zgo ?_
  refine b5 Z (c9 6 [0] Z Z Z (a4B hc11 J) Z (RowsIn.cons Z RowsIn.nil) Z (λ_=>Z) Z (λx12 ⟨hv12,hc12⟩=>?_))
  refine zgo ?_
  refine g8 (B6 ((⟨x12.1,z.2.2.wa⟩,x12.2)) (p9 Z Z Z Z (a7 (b8 Z ?_) (a7 (b8 Z ?_) d5)) Z (AftOK.stays Z ?_ Z AftOK.nil)) (⟨?_,?_⟩))
  all_goals (first | rfl | exact hc12.mono J | (dsimp only;rw [List.map_set];rfl) | (rw [List.map_append];rfl) | (refine ⟨?_,?_⟩<;>(show List.length _<=_;(try simp only [List.length_set,List.length_append,List.length_cons,List.length_nil]);omega)))
 refine zcd (λh11=>?_) (λh11=>?_)
 ·refine O3 11 [1,2,3,4] [8,10] mixed a6 Z Z (λr0=>?_) (λ_ h=>h)
  refine s6 0 [1,8,9,10] Z a6 a6 a6 Z Z Z Z (m4 G Z Z Z Z) (s6 1 [8,9,10] Z a6 a6 a6 Z Z Z Z (o9 G Z Z Z Z Z Z Z) (s6 2 [3,5,6,7,8,9,10] Z a6 a6 a6 Z Z Z Z (d3 Z Z) (s6 4 [5,6,7,8,9,10] Z a6 a6 a6 Z Z Z Z (d3 Z Z) (u4 3 a6 (y7 [1,2,3,4] Z Z (c9 5 [0] Z Z Z (a6c hc11 J) Z (RowsIn.cons Z RowsIn.nil) Z (λ_=>Z) Z (λx13 ⟨hv13,hc13⟩=>a8 ⟨Z,?_⟩)))))))
  refine u4 5 a6 (y7 [1,2,3,4] Z Z (c9 5 [0] Z Z Z (a5G hc13 J) Z (RowsIn.cons Z RowsIn.nil) Z (λ_=>Z) Z (λx14 ⟨hv14,hc14⟩=>a8 ⟨Z,?_⟩)))
  refine s6 6 [7,8,9,10] Z a6 a6 a6 Z Z Z Z (y9 G Z Z Z Z) (u4 7 a6 (y7 [1,2,3,4] Z Z (p4 G 6 Z Z Z Z Z Z Z Z (a8 ⟨Z,?_⟩))))
  refine u4 8 a6 (a4r Z Z a6 (v6 (Gh.forget (id:=4) (k:=1) Z Z)<|v6 (Gh.keep [0,1,2,3,4,5] Z)<|J2 (tx:=60) 7 rfl rfl rfl rfl rfl<|i6 G G5 rfl rfl rfl rfl rfl rfl rfl rfl rfl C0 rfl rfl (a8 ?_)))
  refine u4 9 a6 (a4r Z Z a6 (b7 Z Z (m4 G Z Z Z Z) (a8 (u4 10 a6 ?_))))
  refine c1Z ?_
  refine zgo ?_
  refine g8 (B6 ((⟨z.2.2.sl,z.2.2.wa++[⟨x13.1,x14.1⟩]⟩,x14.2)) (p9 Z Z Z Z (a7 (b8 Z ?_) (a7 (b8 Z ?_) d5)) Z (AftOK.stays Z ?_ Z AftOK.nil)) (⟨?_,?_⟩))
  all_goals (first | rfl | exact hc14.mono J | (dsimp only;rw [List.map_set];rfl) | (rw [List.map_append];rfl) | (refine ⟨?_,?_⟩<;>(show List.length _<=_;(try simp only [List.length_set,List.length_append,List.length_cons,List.length_nil]);omega)))
 refine zcd (λh12=>?_) (λh12=>?_)
 ·refine zcd (λh13=>?_) (λh13=>?_)
  ·refine d7 7 [1,3,4] mixed a6 Z Z (λr0=>?_) (λ_ h=>h)
   refine a32 ?_
   refine zsa 4 ?_
   refine b6 (rs:=[3]) a6 Z (AllB.cons ?_ AllB.nil)
   refine c8 [1,3,4] Z Z (c9 5 [0] Z Z Z (p6 hc11 J (4)) Z (RowsIn.cons Z RowsIn.nil) Z (λ_=>Z) Z (λx15 ⟨hv15,hc15⟩=>a8 ⟨Z,?_⟩))
   refine b6 (rs:=[5]) a6 Z (AllB.cons ?_ AllB.nil)
   refine c8 [1,3,4] Z Z (b7 Z Z (c6 G Z Z Z Z Z J O4) (a8 ⟨Z,?_⟩))
   refine b6 (rs:=[6]) a6 Z (AllB.cons ?_ AllB.nil)
   refine c8 [1,3,4] Z Z (d6 G Z Z Z Z Z (C7 J J) Z Z Z Z Z (Nat.le_of_ble_eq_true Z) Z (a8 ⟨Z,?_⟩))
   refine vm6 ?_
   refine zgo ?_
   refine g8 (B6 ((⟨z.2.2.sl.set x15.1.toNat zSl,z.2.2.wa⟩,x15.2)) (p9 Z Z Z Z (a7 (b8 Z ?_) (a7 (b8 Z ?_) d5)) Z (AftOK.stays Z ?_ Z AftOK.nil)) (⟨?_,?_⟩))
   all_goals (first | rfl | exact hc15.mono J | (dsimp only;rw [List.map_set];rfl) | (rw [List.map_append];rfl) | (refine ⟨?_,?_⟩<;>(show List.length _<=_;(try simp only [List.length_set,List.length_append,List.length_cons,List.length_nil]);omega)))
  refine zgo ?_
  refine g8 (B6 ((z.2.2,x11.2)) (p9 Z Z Z Z (a7 (b8 Z ?_) (a7 (b8 Z ?_) d5)) Z (AftOK.stays Z ?_ Z AftOK.nil)) (⟨?_,?_⟩))
  all_goals exact b86
 refine zgo ?_
 refine g8 (B6 ((z.2.2,x11.2)) (p9 Z Z Z Z (a7 (b8 Z ?_) (a7 (b8 Z ?_) d5)) Z (AftOK.stays Z ?_ Z AftOK.nil)) (⟨?_,?_⟩))
 all_goals exact b86
theorem a0B {x:Cur} {n:Int} (h:okC n x) (hn:n<=880000000000):CtrX (α:=Ifc×Cur) Tryz.prog 176 [.ptr 0 0] [.box [.lst 1 (x.c.map B9),.v (.int .i64 x.a),.v (.int .u64 x.s)]] (λy=>(DrI y.1)/\okC (n+500) y.2) (λy=>.shp true [some 4] [.v (.int .i64 y.1.ma),.fr 3 1 (y.1.st.map Rf.l8),.fr 154 3 (y.1.qu.sl.map f9),.fr 183 2 (y.1.qu.wa.map i5)]) (λy=>[some (.box [.lst 1 (y.2.c.map B9),.v (.int .i64 y.2.a),.v (.int .u64 y.2.s)])]):=by
 refine CtrX.of (n:=76) (k:=1) G Tryz.func176 Z a6 Z Z Z Z (λ_=>Z) Z Z (λw0 _ hpin=>?_)
 refine zgo ?_
 refine vm7 ?_
 refine m3 ?_
 refine b2k ?_
 refine m3 ?_
 refine b3t ?_
 refine vm4 ?_
 refine p4 G 5 Z Z Z Z Z Z Z Z ?_
 refine m3 ?_
 refine b1k ?_
 refine zgo ?_
 refine b5 Z (c9 6 [0] Z Z Z (p6 h J (14)) Z (RowsIn.cons Z RowsIn.nil) Z (λ_=>Z) Z (λx1 ⟨hv1,hc1⟩=>?_))
 refine zgo ?_
 refine f6 [0,2,3] [1] (λ(z:Nat×Cur×Ifc)=>[(4,.v (.int .i64 (x1.1 - z.1)))]) (λ(z:Nat×Cur×Ifc)=>[(0,some (.box [.lst 1 (z.2.1.c.map B9),.v (.int .i64 z.2.1.a),.v (.int .u64 z.2.1.s)])),(2,some (.row 3 1 (z.2.2.st.map Rf.l8))),(3,some (.row 154 3 (z.2.2.qu.sl.map f9))),(4,some (.row 183 2 (z.2.2.qu.wa.map i5))),(5,some (.box [.v (.int .i64 z.2.2.ma),.own 2,.own 3,.own 4]))]) (λ(z:Nat×Cur×Ifc)=>(z.1:Int)<=x1.1/\(IfG z.2.2)/\okC (n+2+6 * z.1) z.2.1) (λ(z:Nat×Cur×Ifc)=>x1.1.toNat - z.1) (0,x1.2,a7P) Z Z ?_ ?_ ?_ ?_
 ·exact ⟨hv1.1,b5W,hc1.mono (by simp)⟩
 ·exact b1o
 ·exact ⟨⟨_,Z,by rfl⟩,Z,Z,⟨⟨_,Z,by rfl⟩,Z,Z,⟨⟨_,Z,by rfl⟩,Z,Z,⟨⟨_,Z,by rfl⟩,Z,Z,⟨⟨_,Z,by rfl⟩,Z,Z,trivial⟩⟩⟩⟩⟩
 intro z hinv
 obtain ⟨hz1,hz2,hz⟩:=hinv
 have hql:=hz2.f.qu.sl.len
 have hqw:=hz2.f.qu.wn8
 have hqs:=hz2.f.sn
 refine vm2 ?_
 refine zcd (λh1=>?_) (λh1=>?_)
 ·refine zgo ?_
  refine b5 Z (c9 6 [0] Z Z Z (p6 hz J (6)) Z (RowsIn.cons Z RowsIn.nil) Z (λ_=>Z) Z (λx2 ⟨hv2,hc2⟩=>?_))
  refine zcd (λh2=>?_) (λh2=>?_)
  ·refine zwt ?_
   refine O3 7 [1,2,3,4,5] [6] mixed a6 Z Z (λr0=>?_) (λ_ h=>h)
   refine s6 0 [5,6] Z a6 a6 a6 Z Z Z Z (c5 G Z Z Z Z Z Z) (s6 1 [2,4,5,6] Z a6 a6 a6 Z Z Z Z (d3 Z Z) (s6 3 [4,5,6] Z a6 a6 a6 Z Z Z Z (d3 Z Z) (u4 2 a6 (y7 [1,2,3,4,5] Z Z (c9 6 [0] Z Z Z (p6 hc2 J (8)) Z (RowsIn.cons Z RowsIn.nil) Z (λ_=>Z) Z (λx3 ⟨hv3,hc3⟩=>a8 ⟨Z,?_⟩))))))
   refine u4 4 a6 (y7 [1,2,3,4,5] Z Z (c9 6 [0] Z Z Z (p6 hc3 J (12)) Z (RowsIn.cons Z RowsIn.nil) Z (λ_=>Z) Z (λx4 ⟨hv4,hc4⟩=>a8 ⟨Z,?_⟩)))
   refine u4 5 a6 (y7 [1,2,3,4,5] Z Z (c4 9 Z Z Z (ArgsOK.of Z) (E5 z.2.2 _ _ hz2.f J J) Z Z (a8 ⟨Z,?_⟩)))
   refine b4c ?_
   refine m6 (Gh.sub 6 2 w3 Z Z Z) (m6 (Gh.sub 7 3 w3 Z Z Z) (m6 (Gh.sub 8 4 w3 Z Z Z) (a8 ⟨(z.1+1,x4.2,a1f z.2.2 x3.1 x4.1),?_,?_,⟨⟨_,Z,by (first | rfl | exact congrArg (λv=>AV.v (.int .i64 v)) A5)⟩,Z,trivial⟩,⟨⟨_,Z,by rfl⟩,Z,Z,⟨⟨_,Z,by rfl⟩,Z,Z,⟨⟨_,Z,by rfl⟩,Z,Z,⟨⟨_,Z,by rfl⟩,Z,Z,⟨⟨_,Z,by rfl⟩,Z,Z,trivial⟩⟩⟩⟩⟩,Z,Z,Z⟩)))
   ·first | exact ⟨by show ((z.1+1:Nat):Int)<=x1.1;omega,b5H hz2 J J,hc4.mono g0⟩ | exact ⟨by show ((z.1+1:Nat):Int)<=x1.1;omega,b26 hz2,hc4.mono g0⟩ | exact ⟨by show ((z.1+1:Nat):Int)<=x1.1;omega,b27 hz2,hc4.mono g0⟩ | exact ⟨by show ((z.1+1:Nat):Int)<=x1.1;omega,hz2,hc4.mono g0⟩
   exact Z5
  refine zcd (λh3=>?_) (λh3=>?_)
  ·refine zwt ?_
   refine O3 7 [1,2,3,4,5] [6] mixed a6 Z Z (λr0=>?_) (λ_ h=>h)
   refine s6 0 [5,6] Z a6 a6 a6 Z Z Z Z (c5 G Z Z Z Z Z Z) (s6 1 [2,4,5,6] Z a6 a6 a6 Z Z Z Z (d3 Z Z) (s6 3 [4,5,6] Z a6 a6 a6 Z Z Z Z (d3 Z Z) (u4 2 a6 (y7 [1,2,3,4,5] Z Z (c9 6 [0] Z Z Z (p6 hc2 J (8)) Z (RowsIn.cons Z RowsIn.nil) Z (λ_=>Z) Z (λx5 ⟨hv5,hc5⟩=>a8 ⟨Z,?_⟩))))))
   refine u4 4 a6 (y7 [1,2,3,4,5] Z Z (c9 6 [0] Z Z Z (p6 hc5 J (12)) Z (RowsIn.cons Z RowsIn.nil) Z (λ_=>Z) Z (λx6 ⟨hv6,hc6⟩=>a8 ⟨Z,?_⟩)))
   refine u4 5 a6 (y7 [1,2,3,4,5] Z Z (c4 9 Z Z Z (ArgsOK.of Z) (E5 z.2.2 _ _ hz2.f J J) Z Z (a8 ⟨Z,?_⟩)))
   refine b4c ?_
   refine m6 (Gh.sub 6 2 w3 Z Z Z) (m6 (Gh.sub 7 3 w3 Z Z Z) (m6 (Gh.sub 8 4 w3 Z Z Z) (a8 ⟨(z.1+1,x6.2,a1f z.2.2 x5.1 x6.1),?_,?_,⟨⟨_,Z,by (first | rfl | exact congrArg (λv=>AV.v (.int .i64 v)) A5)⟩,Z,trivial⟩,⟨⟨_,Z,by rfl⟩,Z,Z,⟨⟨_,Z,by rfl⟩,Z,Z,⟨⟨_,Z,by rfl⟩,Z,Z,⟨⟨_,Z,by rfl⟩,Z,Z,⟨⟨_,Z,by rfl⟩,Z,Z,trivial⟩⟩⟩⟩⟩,Z,Z,Z⟩)))
   ·first | exact ⟨by show ((z.1+1:Nat):Int)<=x1.1;omega,b5H hz2 J J,hc6.mono g0⟩ | exact ⟨by show ((z.1+1:Nat):Int)<=x1.1;omega,b26 hz2,hc6.mono g0⟩ | exact ⟨by show ((z.1+1:Nat):Int)<=x1.1;omega,b27 hz2,hc6.mono g0⟩ | exact ⟨by show ((z.1+1:Nat):Int)<=x1.1;omega,hz2,hc6.mono g0⟩
   exact Z5
  refine zcd (λh4=>?_) (λh4=>?_)
  ·refine O3 7 [1,2,3,4,5] [6] mixed a6 Z Z (λr0=>?_) (λ_ h=>h)
   refine s6 0 [5,6] Z a6 a6 a6 Z Z Z Z (c5 G Z Z Z Z Z Z) (s6 1 [2,4,5,6] Z a6 a6 a6 Z Z Z Z (d3 Z Z) (s6 3 [4,5,6] Z a6 a6 a6 Z Z Z Z (d3 Z Z) (u4 2 a6 (y7 [1,2,3,4,5] Z Z (c9 6 [0] Z Z Z (p6 hc2 J (8)) Z (RowsIn.cons Z RowsIn.nil) Z (λ_=>Z) Z (λx7 ⟨hv7,hc7⟩=>a8 ⟨Z,?_⟩))))))
   refine u4 4 a6 (y7 [1,2,3,4,5] Z Z (c9 6 [0] Z Z Z (p6 hc7 J (12)) Z (RowsIn.cons Z RowsIn.nil) Z (λ_=>Z) Z (λx8 ⟨hv8,hc8⟩=>a8 ⟨Z,?_⟩)))
   refine u4 5 a6 (y7 [1,2,3,4,5] Z Z (c4 9 Z Z Z (ArgsOK.of Z) (E5 z.2.2 _ _ hz2.f J J) Z Z (a8 ⟨Z,?_⟩)))
   refine b4c ?_
   refine m6 (Gh.sub 6 2 w3 Z Z Z) (m6 (Gh.sub 7 3 w3 Z Z Z) (m6 (Gh.sub 8 4 w3 Z Z Z) (a8 ⟨(z.1+1,x8.2,a1f z.2.2 x7.1 x8.1),?_,?_,⟨⟨_,Z,by (first | rfl | exact congrArg (λv=>AV.v (.int .i64 v)) A5)⟩,Z,trivial⟩,⟨⟨_,Z,by rfl⟩,Z,Z,⟨⟨_,Z,by rfl⟩,Z,Z,⟨⟨_,Z,by rfl⟩,Z,Z,⟨⟨_,Z,by rfl⟩,Z,Z,⟨⟨_,Z,by rfl⟩,Z,Z,trivial⟩⟩⟩⟩⟩,Z,Z,Z⟩)))
   ·first | exact ⟨by show ((z.1+1:Nat):Int)<=x1.1;omega,b5H hz2 J J,hc8.mono g0⟩ | exact ⟨by show ((z.1+1:Nat):Int)<=x1.1;omega,b26 hz2,hc8.mono g0⟩ | exact ⟨by show ((z.1+1:Nat):Int)<=x1.1;omega,b27 hz2,hc8.mono g0⟩ | exact ⟨by show ((z.1+1:Nat):Int)<=x1.1;omega,hz2,hc8.mono g0⟩
   exact Z5
  refine zcd (λh5=>?_) (λh5=>?_)
  ·refine zwt ?_
   exact c3Q
  refine zcd (λh6=>?_) (λh6=>?_)
  ·exact c3Q
  refine zcd (λh7=>?_) (λh7=>?_)
  ·refine m3 ?_
   refine H9 9 [2,3,4] Z Z Z (a5F z.2.2 hz2) Z (RowsIn.cons Z (RowsIn.cons Z (RowsIn.cons Z RowsIn.nil))) Z Z Z ?_
   refine zgn ?_
   refine X3 ?_
   refine m6 (Gh.sub 6 2 w3 Z Z Z) (m6 (Gh.sub 7 3 w3 Z Z Z) (m6 (Gh.sub 8 4 w3 Z Z Z) (a8 ⟨(z.1+1,x2.2,(lvX z.2.2).1),?_,?_,⟨⟨_,Z,by (first | rfl | exact congrArg (λv=>AV.v (.int .i64 v)) A5)⟩,Z,trivial⟩,⟨⟨_,Z,by rfl⟩,Z,Z,⟨⟨_,Z,by rfl⟩,Z,Z,⟨⟨_,Z,by rfl⟩,Z,Z,⟨⟨_,Z,by rfl⟩,Z,Z,⟨⟨_,Z,by rfl⟩,Z,Z,trivial⟩⟩⟩⟩⟩,Z,Z,Z⟩)))
   ·exact b6A
   exact Z5
  refine zgo ?_
  refine ⟨(z.1+1,x2.2,z.2.2),?_,?_,⟨⟨_,Z,by (first | rfl | exact congrArg (λv=>AV.v (.int .i64 v)) A5)⟩,Z,trivial⟩,⟨⟨_,Z,by rfl⟩,Z,Z,⟨⟨_,Z,by rfl⟩,Z,Z,⟨⟨_,Z,by rfl⟩,Z,Z,⟨⟨_,Z,by rfl⟩,Z,Z,⟨⟨_,Z,by rfl⟩,Z,Z,trivial⟩⟩⟩⟩⟩,Z,Z,Z⟩
  ·exact b6A
  exact Z5
 refine zgo ?_
 refine b5 Z (c9 6 [0] Z Z Z (a73 hz J (3)) Z (RowsIn.cons Z RowsIn.nil) Z (λ_=>Z) Z (λx9 ⟨hv9,hc9⟩=>?_))
 refine zcd (λh8=>?_) (λh8=>?_)
 ·refine zgo ?_
  refine b5 Z (p4 G 7 Z Z Z Z Z Z Z Z (b5 Z (c9 7 [0,6] Z Z Z (F0 hc9 J [0,4,8,15] (0) (15) (by decide) (by decide)) Z (RowsIn.cons Z (RowsIn.cons Z RowsIn.nil)) Z (λ_=>Z) Z (λx10 ⟨hv10,hc10⟩=>?_))))
  refine zgo ?_
  refine b5 Z (c9 7 [0] Z Z Z (p6 hc10 J (24)) Z (RowsIn.cons Z RowsIn.nil) Z (λ_=>Z) Z (λx11 ⟨hv11,hc11⟩=>?_))
  refine zcd (λh9=>?_) (λh9=>?_)
  ·refine zgo ?_
   refine b5 Z (p4 G 8 Z Z Z Z Z Z Z Z (b5 Z (c9 8 [0,7] Z Z Z (F0 hc11 J [-1,17] (-1) (17) (by decide) (by decide)) Z (RowsIn.cons Z (RowsIn.cons Z RowsIn.nil)) Z (λ_=>Z) Z (λx12 ⟨hv12,hc12⟩=>?_))))
   refine zgo ?_
   refine g8 (B6 ((⟨x12.1,z.2.2.st,z.2.2.qu⟩,x12.2)) (p9 Z Z Z Z (a7 (p5 ?_) (a7 (b8 Z ?_) (a7 (b8 Z ?_) (a7 (b8 Z ?_) d5)))) Z (AftOK.stays Z ?_ Z AftOK.nil)) (⟨?_,?_⟩))
   all_goals (first | rfl | exact hc12.mono J | (dsimp only;rw [List.map_set];rfl) | (rw [List.map_append];rfl) | (refine ⟨?_,?_,?_⟩<;>(show List.length _<=_;(try simp only [List.length_set,List.length_append,List.length_cons,List.length_nil]);omega)))
  refine zcd (λh10=>?_) (λh10=>?_)
  ·refine O3 8 [1,2,3,4,5,6] [5,7] mixed a6 Z Z (λr0=>?_) (λ_ h=>h)
   refine s6 0 [1,5,6,7] Z a6 a6 a6 Z Z Z Z (m4 G Z Z Z Z) (s6 1 [5,6,7] Z a6 a6 a6 Z Z Z Z (o9 G Z Z Z Z Z Z Z) (s6 2 [3,4,5,6,7] Z a6 a6 a6 Z Z Z Z (d3 Z Z) (u4 3 a6 (y7 [1,2,3,4,5,6] Z Z (c9 7 [0] Z Z Z (p6 hc11 J (8)) Z (RowsIn.cons Z RowsIn.nil) Z (λ_=>Z) Z (λx13 ⟨hv13,hc13⟩=>a8 ⟨Z,?_⟩))))))
   refine u4 4 a6 (y7 [1,2,3,4,5,6] Z Z (p4 G 8 Z Z Z Z Z Z Z Z (a8 ⟨Z,?_⟩)))
   refine u4 5 a6 (a4r Z Z a6 (v6 (Gh.forget (id:=5) (k:=1) Z Z)<|v6 (Gh.keep [0,1,2,3,4,5,6,7] Z)<|J2 (tx:=64) 9 rfl rfl rfl rfl rfl<|i6 G G5 rfl rfl rfl rfl rfl rfl rfl rfl rfl C0 rfl rfl (a8 ?_)))
   refine c18 ?_
   refine g8 (B6 ((⟨x10.1,z.2.2.st++[x13.1],z.2.2.qu⟩,x13.2)) (p9 Z Z Z Z (a7 (p5 ?_) (a7 (b8 Z ?_) (a7 (b8 Z ?_) (a7 (b8 Z ?_) d5)))) Z (AftOK.stays Z ?_ Z AftOK.nil)) (⟨?_,?_⟩))
   all_goals (first | rfl | exact hc13.mono J | (dsimp only;rw [List.map_set];rfl) | (rw [List.map_append];rfl) | (refine ⟨?_,?_,?_⟩<;>(show List.length _<=_;(try simp only [List.length_set,List.length_append,List.length_cons,List.length_nil]);omega)))
  refine zcd (λh11=>?_) (λh11=>?_)
  ·refine zgo ?_
   refine b5 Z (c9 9 [0] Z Z Z (a0A hc11 J) Z (RowsIn.cons Z RowsIn.nil) Z (λ_=>Z) Z (λx14 ⟨hv14,hc14⟩=>?_))
   refine zgo ?_
   refine g8 (B6 ((⟨x10.1,z.2.2.st,x14.1⟩,x14.2)) (p9 Z Z Z Z (a7 (p5 ?_) (a7 (b8 Z ?_) (a7 (b8 Z ?_) (a7 (b8 Z ?_) d5)))) Z (AftOK.stays Z ?_ Z AftOK.nil)) (⟨?_,?_⟩))
   all_goals (first | rfl | exact hc14.mono J | (dsimp only;rw [List.map_set];rfl) | (rw [List.map_append];rfl) | (refine ⟨?_,?_,?_⟩<;>(show List.length _<=_;(try simp only [List.length_set,List.length_append,List.length_cons,List.length_nil]);omega)))
  refine zgo ?_
  refine g8 (B6 ((⟨x10.1,z.2.2.st,z.2.2.qu⟩,x11.2)) (p9 Z Z Z Z (a7 (p5 ?_) (a7 (b8 Z ?_) (a7 (b8 Z ?_) (a7 (b8 Z ?_) d5)))) Z (AftOK.stays Z ?_ Z AftOK.nil)) (⟨?_,?_⟩))
  all_goals (first | rfl | exact hc11.mono J | (dsimp only;rw [List.map_set];rfl) | (rw [List.map_append];rfl) | (refine ⟨?_,?_,?_⟩<;>(show List.length _<=_;(try simp only [List.length_set,List.length_append,List.length_cons,List.length_nil]);omega)))
 refine zgo ?_
 refine b5 Z (c9 6 [0] Z Z Z (p6 hc9 J (24)) Z (RowsIn.cons Z RowsIn.nil) Z (λ_=>Z) Z (λx15 ⟨hv15,hc15⟩=>?_))
 refine zcd (λh12=>?_) (λh12=>?_)
 ·refine zgo ?_
  refine b5 Z (p4 G 7 Z Z Z Z Z Z Z Z (b5 Z (c9 7 [0,6] Z Z Z (F0 hc15 J [-1,17] (-1) (17) (by decide) (by decide)) Z (RowsIn.cons Z (RowsIn.cons Z RowsIn.nil)) Z (λ_=>Z) Z (λx16 ⟨hv16,hc16⟩=>?_))))
  refine zgo ?_
  refine g8 (B6 ((⟨x16.1,z.2.2.st,z.2.2.qu⟩,x16.2)) (p9 Z Z Z Z (a7 (p5 ?_) (a7 (b8 Z ?_) (a7 (b8 Z ?_) (a7 (b8 Z ?_) d5)))) Z (AftOK.stays Z ?_ Z AftOK.nil)) (⟨?_,?_⟩))
  all_goals (first | rfl | exact hc16.mono J | (dsimp only;rw [List.map_set];rfl) | (rw [List.map_append];rfl) | (refine ⟨?_,?_,?_⟩<;>(show List.length _<=_;(try simp only [List.length_set,List.length_append,List.length_cons,List.length_nil]);omega)))
 refine zcd (λh13=>?_) (λh13=>?_)
 ·refine O3 8 [1,2,3,4,5] [5,7] mixed a6 Z Z (λr0=>?_) (λ_ h=>h)
  refine s6 0 [1,5,6,7] Z a6 a6 a6 Z Z Z Z (m4 G Z Z Z Z) (s6 1 [5,6,7] Z a6 a6 a6 Z Z Z Z (o9 G Z Z Z Z Z Z Z) (s6 2 [3,4,5,6,7] Z a6 a6 a6 Z Z Z Z (d3 Z Z) (u4 3 a6 (y7 [1,2,3,4,5] Z Z (c9 6 [0] Z Z Z (p6 hc15 J (8)) Z (RowsIn.cons Z RowsIn.nil) Z (λ_=>Z) Z (λx17 ⟨hv17,hc17⟩=>a8 ⟨Z,?_⟩))))))
  refine u4 4 a6 (y7 [1,2,3,4,5] Z Z (p4 G 7 Z Z Z Z Z Z Z Z (a8 ⟨Z,?_⟩)))
  refine u4 5 a6 (a4r Z Z a6 (v6 (Gh.forget (id:=5) (k:=1) Z Z)<|v6 (Gh.keep [0,1,2,3,4,5,6] Z)<|J2 (tx:=64) 8 rfl rfl rfl rfl rfl<|i6 G G5 rfl rfl rfl rfl rfl rfl rfl rfl rfl C0 rfl rfl (a8 ?_)))
  refine c18 ?_
  refine g8 (B6 ((⟨z.2.2.ma,z.2.2.st++[x17.1],z.2.2.qu⟩,x17.2)) (p9 Z Z Z Z (a7 (p5 ?_) (a7 (b8 Z ?_) (a7 (b8 Z ?_) (a7 (b8 Z ?_) d5)))) Z (AftOK.stays Z ?_ Z AftOK.nil)) (⟨?_,?_⟩))
  all_goals (first | rfl | exact hc17.mono J | (dsimp only;rw [List.map_set];rfl) | (rw [List.map_append];rfl) | (refine ⟨?_,?_,?_⟩<;>(show List.length _<=_;(try simp only [List.length_set,List.length_append,List.length_cons,List.length_nil]);omega)))
 refine zcd (λh14=>?_) (λh14=>?_)
 ·refine zgo ?_
  refine b5 Z (c9 8 [0] Z Z Z (a0A hc15 J) Z (RowsIn.cons Z RowsIn.nil) Z (λ_=>Z) Z (λx18 ⟨hv18,hc18⟩=>?_))
  refine zgo ?_
  refine g8 (B6 ((⟨z.2.2.ma,z.2.2.st,x18.1⟩,x18.2)) (p9 Z Z Z Z (a7 (p5 ?_) (a7 (b8 Z ?_) (a7 (b8 Z ?_) (a7 (b8 Z ?_) d5)))) Z (AftOK.stays Z ?_ Z AftOK.nil)) (⟨?_,?_⟩))
  all_goals (first | rfl | exact hc18.mono J | (dsimp only;rw [List.map_set];rfl) | (rw [List.map_append];rfl) | (refine ⟨?_,?_,?_⟩<;>(show List.length _<=_;(try simp only [List.length_set,List.length_append,List.length_cons,List.length_nil]);omega)))
 refine zgo ?_
 refine g8 (B6 ((⟨z.2.2.ma,z.2.2.st,z.2.2.qu⟩,x15.2)) (p9 Z Z Z Z (a7 (p5 ?_) (a7 (b8 Z ?_) (a7 (b8 Z ?_) (a7 (b8 Z ?_) d5)))) Z (AftOK.stays Z ?_ Z AftOK.nil)) (⟨?_,?_⟩))
 all_goals (first | rfl | exact hc15.mono J | (dsimp only;rw [List.map_set];rfl) | (rw [List.map_append];rfl) | (refine ⟨?_,?_,?_⟩<;>(show List.length _<=_;(try simp only [List.length_set,List.length_append,List.length_cons,List.length_nil]);omega)))
theorem T8 {x:Cur} {n:Int} (h:okC n x) (hn:n<=880000000000) (m:Mach) (hm:m.cp.length<=1048576):CtrX (α:=MStep×Cur) Tryz.prog 52 [.ptr 0 0,.agg [.own 1,.own 2,.own 3,.own 4]] [.box [.lst 1 (x.c.map B9),.v (.int .i64 x.a),.v (.int .u64 x.s)],.row 118 2 (m.rs.map n6),.row 4 1 (m.en.map e7),.row 4 1 (m.ra.map e7),.nest 113 4 (m.cp.map (r3 154 183)) []] (λy=>True/\okC (n+20) y.2) (λy=>.one (.v (a0R y.1))) (λy=>[some (.box [.lst 1 (y.2.c.map B9),.v (.int .i64 y.2.a),.v (.int .u64 y.2.s)]),some (.row 118 2 (m.rs.map n6)),some (.row 4 1 (m.en.map e7)),some (.row 4 1 (m.ra.map e7)),some (.nest 113 4 (m.cp.map (r3 154 183)) [])]):=by
 refine CtrX.of (n:=66) (k:=5) G Tryz.func52 Z a6 Z Z Z Z (λ_=>Z) Z Z (λw0 _ hpin=>?_)
 refine m3 ?_
 refine a5R 6 Z Z Z Z Z Z Z ?_
 refine vm4 ?_
 refine b1h ?_
 refine zcl (a8r _ _) ?_
 refine b5 Z (c9 7 [0] Z Z Z (p6 h J _) Z (RowsIn.cons Z RowsIn.nil) Z (λ_=>Z) Z (λx1 ⟨hv1,hc1⟩=>?_))
 refine zgo ?_
 refine b5 Z (c9 7 [0] Z Z Z (p6 hc1 J (12)) Z (RowsIn.cons Z RowsIn.nil) Z (λ_=>Z) Z (λx2 ⟨hv2,hc2⟩=>?_))
 refine zcd (λh1=>?_) (λh1=>?_)
 ·refine zwt ?_
  refine zgo ?_
  refine b5 Z (c9 7 [0] Z Z Z (p6 hc2 J (8)) Z (RowsIn.cons Z RowsIn.nil) Z (λ_=>Z) Z (λx3 ⟨hv3,hc3⟩=>?_))
  refine zgo ?_
  refine g8 (B6 ((⟨_,_,_,_⟩,⟨_,_,_⟩)) (u6 Z (a16 Z Z) Z (AftOK.stays Z Z Z (AftOK.stays Z Z Z (AftOK.stays Z Z Z (AftOK.stays Z Z Z (AftOK.stays Z Z Z AftOK.nil)))))) ⟨?_,?_⟩)
  all_goals (try rcases x1 with ⟨_,_⟩)
  all_goals (try rcases x2 with ⟨_,_⟩)
  all_goals (try rcases x3 with ⟨_,_⟩)
  all_goals (try dsimp only at *)
  all_goals (first | trivial | exact hc3.mono J | omega)
 refine zcd (λh2=>?_) (λh2=>?_)
 ·refine zwt ?_
  refine zgo ?_
  refine b5 Z (c9 7 [0] Z Z Z (p6 hc2 J (8)) Z (RowsIn.cons Z RowsIn.nil) Z (λ_=>Z) Z (λx4 ⟨hv4,hc4⟩=>?_))
  refine zgo ?_
  refine g8 (B6 ((⟨_,_,_,_⟩,⟨_,_,_⟩)) (u6 Z (a16 Z Z) Z (AftOK.stays Z Z Z (AftOK.stays Z Z Z (AftOK.stays Z Z Z (AftOK.stays Z Z Z (AftOK.stays Z Z Z AftOK.nil)))))) ⟨?_,?_⟩)
  all_goals (try rcases x1 with ⟨_,_⟩)
  all_goals (try rcases x2 with ⟨_,_⟩)
  all_goals (try rcases x3 with ⟨_,_⟩)
  all_goals (try rcases x4 with ⟨_,_⟩)
  all_goals (try dsimp only at *)
  all_goals (first | trivial | exact hc4.mono J | omega)
 refine zcd (λh3=>?_) (λh3=>?_)
 ·refine zgo ?_
  refine b5 Z (c9 7 [0] Z Z Z (p6 hc2 J (8)) Z (RowsIn.cons Z RowsIn.nil) Z (λ_=>Z) Z (λx5 ⟨hv5,hc5⟩=>?_))
  refine zgo ?_
  refine g8 (B6 ((⟨_,_,_,_⟩,⟨_,_,_⟩)) (u6 Z (a16 Z Z) Z (AftOK.stays Z Z Z (AftOK.stays Z Z Z (AftOK.stays Z Z Z (AftOK.stays Z Z Z (AftOK.stays Z Z Z AftOK.nil)))))) ⟨?_,?_⟩)
  all_goals (try rcases x1 with ⟨_,_⟩)
  all_goals (try rcases x2 with ⟨_,_⟩)
  all_goals (try rcases x3 with ⟨_,_⟩)
  all_goals (try rcases x4 with ⟨_,_⟩)
  all_goals (try rcases x5 with ⟨_,_⟩)
  all_goals (try dsimp only at *)
  all_goals (first | trivial | exact hc5.mono J | omega)
 refine zcd (λh4=>?_) (λh4=>?_)
 ·refine zwt ?_
  exact b4i
 refine zcd (λh5=>?_) (λh5=>?_)
 ·exact b4i
 refine zcd (λh6=>?_) (λh6=>?_)
 ·refine zwt ?_
  exact b4i
 refine zcd (λh7=>?_) (λh7=>?_)
 ·refine zwt ?_
  exact b4i
 refine zcd (λh8=>?_) (λh8=>?_)
 ·exact b4i
 refine zcd (λh9=>?_) (λh9=>?_)
 ·exact b4i
 refine zcd (λh10=>?_) (λh10=>?_)
 ·refine zgo ?_
  refine b5 Z (p4 G 8 Z Z Z Z Z Z Z Z (b5 Z (c9 8 [0,7] Z Z Z (F0 hc2 J [16,16,8,4,0] (0) (16) (by decide) (by decide)) Z (RowsIn.cons Z (RowsIn.cons Z RowsIn.nil)) Z (λ_=>Z) Z (λx6 ⟨hv6,hc6⟩=>?_))))
  refine zgo ?_
  refine g8 (B6 ((⟨_,_,_,_⟩,⟨_,_,_⟩)) (u6 Z (a16 Z Z) Z (AftOK.stays Z Z Z (AftOK.stays Z Z Z (AftOK.stays Z Z Z (AftOK.stays Z Z Z (AftOK.stays Z Z Z AftOK.nil)))))) ⟨?_,?_⟩)
  all_goals (try rcases x1 with ⟨_,_⟩)
  all_goals (try rcases x2 with ⟨_,_⟩)
  all_goals (try rcases x3 with ⟨_,_⟩)
  all_goals (try rcases x4 with ⟨_,_⟩)
  all_goals (try rcases x5 with ⟨_,_⟩)
  all_goals (try rcases x6 with ⟨_,_⟩)
  all_goals (try dsimp only at *)
  all_goals (first | trivial | exact hc6.mono J | omega)
 refine zcd (λh11=>?_) (λh11=>?_)
 ·refine zgo ?_
  refine b5 Z (c9 7 [0] Z Z Z (p6 hc2 J (8)) Z (RowsIn.cons Z RowsIn.nil) Z (λ_=>Z) Z (λx7 ⟨hv7,hc7⟩=>?_))
  refine zgo ?_
  refine b5 Z (p4 G 8 Z Z Z Z Z Z Z Z (b5 Z (c9 8 [0,7] Z Z Z (F0 hc7 J [1,1,0] (0) (1) (by decide) (by decide)) Z (RowsIn.cons Z (RowsIn.cons Z RowsIn.nil)) Z (λ_=>Z) Z (λx8 ⟨hv8,hc8⟩=>?_))))
  refine zgo ?_
  refine g8 (B6 ((⟨_,_,_,_⟩,⟨_,_,_⟩)) (u6 Z (a16 Z Z) Z (AftOK.stays Z Z Z (AftOK.stays Z Z Z (AftOK.stays Z Z Z (AftOK.stays Z Z Z (AftOK.stays Z Z Z AftOK.nil)))))) ⟨?_,?_⟩)
  all_goals (try rcases x1 with ⟨_,_⟩)
  all_goals (try rcases x2 with ⟨_,_⟩)
  all_goals (try rcases x3 with ⟨_,_⟩)
  all_goals (try rcases x4 with ⟨_,_⟩)
  all_goals (try rcases x5 with ⟨_,_⟩)
  all_goals (try rcases x6 with ⟨_,_⟩)
  all_goals (try rcases x7 with ⟨_,_⟩)
  all_goals (try rcases x8 with ⟨_,_⟩)
  all_goals (try dsimp only at *)
  all_goals (first | trivial | exact hc8.mono J | omega)
 refine zgo ?_
 refine b5 Z (c9 7 [0] Z Z Z (a73 hc2 J (4)) Z (RowsIn.cons Z RowsIn.nil) Z (λ_=>Z) Z (λx9 ⟨hv9,hc9⟩=>?_))
 refine zcd (λh12=>?_) (λh12=>?_)
 ·refine zgo ?_
  refine b5 Z (p4 G 8 Z Z Z Z Z Z Z Z (b5 Z (c9 8 [0,7] Z Z Z (F0 hc9 J [0,7,1,5] (0) (7) (by decide) (by decide)) Z (RowsIn.cons Z (RowsIn.cons Z RowsIn.nil)) Z (λ_=>Z) Z (λx10 ⟨hv10,hc10⟩=>?_))))
  refine zgo ?_
  refine b5 Z (p4 G 9 Z Z Z Z Z Z Z Z (b5 Z (c9 9 [0,8] Z Z Z (F0 hc10 J [0,8,-1] (-1) (8) (by decide) (by decide)) Z (RowsIn.cons Z (RowsIn.cons Z RowsIn.nil)) Z (λ_=>Z) Z (λx11 ⟨hv11,hc11⟩=>?_))))
  refine zgo ?_
  refine b5 Z (p4 G 10 Z Z Z Z Z Z Z Z (b5 Z (c9 10 [0,9] Z Z Z (F0 hc11 J [0,2] (0) (2) (by decide) (by decide)) Z (RowsIn.cons Z (RowsIn.cons Z RowsIn.nil)) Z (λ_=>Z) Z (λx12 ⟨hv12,hc12⟩=>?_))))
  refine zgo ?_
  refine b5 Z (p4 G 11 Z Z Z Z Z Z Z Z (b5 Z (c9 11 [0,10] Z Z Z (F0 hc12 J [0,17] (0) (17) (by decide) (by decide)) Z (RowsIn.cons Z (RowsIn.cons Z RowsIn.nil)) Z (λ_=>Z) Z (λx13 ⟨hv13,hc13⟩=>?_))))
  refine zgo ?_
  refine g8 (B6 ((⟨_,_,_,_⟩,⟨_,_,_⟩)) (u6 Z (a16 Z Z) Z (AftOK.stays Z Z Z (AftOK.stays Z Z Z (AftOK.stays Z Z Z (AftOK.stays Z Z Z (AftOK.stays Z Z Z AftOK.nil)))))) ⟨?_,?_⟩)
  all_goals (try rcases x1 with ⟨_,_⟩)
  all_goals (try rcases x2 with ⟨_,_⟩)
  all_goals (try rcases x3 with ⟨_,_⟩)
  all_goals (try rcases x4 with ⟨_,_⟩)
  all_goals (try rcases x5 with ⟨_,_⟩)
  all_goals (try rcases x6 with ⟨_,_⟩)
  all_goals (try rcases x7 with ⟨_,_⟩)
  all_goals (try rcases x8 with ⟨_,_⟩)
  all_goals (try rcases x9 with ⟨_,_⟩)
  all_goals (try rcases x10 with ⟨_,_⟩)
  all_goals (try rcases x11 with ⟨_,_⟩)
  all_goals (try rcases x12 with ⟨_,_⟩)
  all_goals (try rcases x13 with ⟨_,_⟩)
  all_goals (try dsimp only at *)
  all_goals (first | trivial | exact hc13.mono J | omega)
 refine zgo ?_
 refine g8 (B6 ((⟨_,_,_,_⟩,⟨_,_,_⟩)) (u6 Z (a16 Z Z) Z (AftOK.stays Z Z Z (AftOK.stays Z Z Z (AftOK.stays Z Z Z (AftOK.stays Z Z Z (AftOK.stays Z Z Z AftOK.nil)))))) ⟨?_,?_⟩)
 all_goals (try rcases x1 with ⟨_,_⟩)
 all_goals (try rcases x2 with ⟨_,_⟩)
 all_goals (try rcases x3 with ⟨_,_⟩)
 all_goals (try rcases x4 with ⟨_,_⟩)
 all_goals (try rcases x5 with ⟨_,_⟩)
 all_goals (try rcases x6 with ⟨_,_⟩)
 all_goals (try rcases x7 with ⟨_,_⟩)
 all_goals (try rcases x8 with ⟨_,_⟩)
 all_goals (try rcases x9 with ⟨_,_⟩)
 all_goals (try rcases x10 with ⟨_,_⟩)
 all_goals (try rcases x11 with ⟨_,_⟩)
 all_goals (try rcases x12 with ⟨_,_⟩)
 all_goals (try rcases x13 with ⟨_,_⟩)
 all_goals (try dsimp only at *)
 all_goals (first | trivial | exact hc9.mono J | omega)
theorem a3j (rs:List Route) (c:Int) (hn:rs.length<=1048576) (hc:s1 c 1 2=false):Ctr Tryz.prog 130 [.lst 2 (rs.map n6),.v (.int .i64 c)] (.one (.v (.bool (false)))):=by
 refine Ctr.of (n:=37) G Tryz.func130 Z a6 Z Z Z (λw0=>?_)
 refine zgn ?_
 refine zgn ?_
 refine r7 (f6 [0,1] [] (λ(i:Nat)=>[(5,.v (.int .i64 (i:Int)))]) (λ(i:Nat)=>[]) (λ(i:Nat)=>i<=rs.length) (λ(i:Nat)=>rs.length - i) 0 Z Z ?_ ?_ ?_ ?_)
 ·exact H0
 ·exact u3
 ·exact trivial
 intro i hinv
 refine vm2 ?_
 refine zgn ?_
 refine o7 Z (λh1=>?_) (λh1=>?_)
 ·try rw [h1]
  try simp only [rfb] at h1
  refine E9 ?_
  refine r7 ?_
  refine I2 ?_
  refine a6O ?_
  refine vm4 ?_
  refine b7 Z Z (l9 Z (ArgsOK.of Z) (U9 _) Z) ?_
  refine G9 ?_
  refine B3 Z Z Z (λh2=>?_) (λh2=>?_)
  ·try rw [h2]
   try simp only [rfb] at h2
   refine zgn ?_
   refine a09 Z ?_
   refine zgn ?_
   exact b1n
  try rw [h2]
  try simp only [rfb] at h2
  refine a57 ?_
  refine S9 ?_
  refine vm5 ?_
  refine S9 ?_
  refine b6v ?_
  refine zgn ?_
  refine o7 Z (λh3=>?_) (λh3=>?_)
  ·try rw [h3]
   try simp only [rfb] at h3
   refine zgn ?_
   exact b1n
  try rw [h3]
  try simp only [rfb] at h3
  exact c3N
 try rw [h1]
 try simp only [rfb] at h1
 refine zgn ?_
 refine I2 ?_
 refine zst ?_
 refine vm4 ?_
 refine b6v ?_
 refine zst ?_
 refine B3 Z Z Z (λh4=>?_) (λh4=>?_)
 ·try rw [h4]
  try simp only [rfb] at h4
  refine zgn ?_
  exact b1n
 try rw [h4]
 try simp only [rfb] at h4
 refine a1M ?_
 all_goals (first | rfl | (simp_all;done))
theorem X4 (rs:List Route) (c:Int) (hn:rs.length<=1048576):Ctr Tryz.prog 130 [.lst 2 (rs.map n6),.v (.int .i64 c)] (.one (.v (.bool (okRts rs c)))):=by
 cases h:s1 c 1 2
 ·have e:okRts rs c=false:=by simp only [okRts,h,Bool.false_and]
  rw [e];exact a3j rs c hn h
 exact a1N rs c hn (by have:=s7.mp h;omega)
theorem a06 (rs:List Route) (c:Int) (hn:rs.length<=1048576):Ctr Tryz.prog 72 [.lst 2 (rs.map n6),.v (.int .i64 c)] (.shp false [some 4,none] [.fr 118 2 ((a0U rs c).1.rs.map n6),.fr 4 1 ((a0U rs c).1.en.map e7),.fr 4 1 ((a0U rs c).1.ra.map e7),.ne 113 4 ((a0U rs c).1.cp.map (r3 154 183)),.v (.bool (a0U rs c).2)]):=by
 refine Ctr.of (n:=40) G Tryz.func72 Z a6 Z Z Z (λw0=>?_)
 refine a0G ?_
 refine zcl (X4 rs c hn) ?_
 refine zcd (λh1=>?_) (λh1=>?_)
 ·have hM:=b2P (rs:=rs) h1
  refine zgo ?_
  exact b9w
 have hM:=a5f (rs:=rs) h1
 have hr:=s8.mp h1
 obtain ⟨n,rfl⟩:∃n:Nat,c=n:=⟨c.toNat,by omega⟩
 refine zgn ?_
 refine p7 (d7 9 [0] mixed a6 Z Z (λr0=>?_) (λ_ h=>h))
 refine zsa 1 ?_
 refine r8 (N:=6) Z (m8 (fuel:=3) [⟨0,13,1,false,.row 118 2 []⟩,⟨3,16,2,false,.row 4 1 (List.replicate 8 [.bool false])⟩,⟨4,17,3,false,.row 4 1 (List.replicate 8 [.bool false])⟩,⟨5,18,4,false,.row 113 4 []⟩,⟨7,6,5,true,.box (avR [.slice none 0 0,.slice none 0 0,.slice none 0 0,.slice none 0 0] [])⟩] (AllVOK.cons (VOK.lit G Z Z Z Z Z) (AllVOK.cons (VOK.make (n:=8) G Z Z Z Z Z (by decide) (by decide)) (AllVOK.cons (VOK.make (n:=8) G Z Z Z Z Z (by decide) (by decide)) (AllVOK.cons (VOK.lit G Z Z Z Z Z) (AllVOK.cons (VOK.boxS G Z Z Z Z Z) (AllVOK.nil)))))) (λhok=>?_))
 refine i7 [(2,[0])] a6 a6 (λe he=>hok e he) a6 (AllVS.cons ?_ AllVS.nil)
 refine VStep.mk1 [0] 13 (.own 1) 1 (.row 118 2 []) [⟨3,16,2,false,.row 4 1 (List.replicate 8 [.bool false])⟩,⟨4,17,3,false,.row 4 1 (List.replicate 8 [.bool false])⟩,⟨5,18,4,false,.row 113 4 []⟩,⟨7,6,5,true,.box (avR [.slice none 0 0,.slice none 0 0,.slice none 0 0,.slice none 0 0] [])⟩] Z Z Z Z Z (λb1 _ hbn=>i6 G C1 Z Z Z Z Z Z Z Z Z b3j Z Z (a8 Z)) a6 a6 a6 a6 (i7 [(6,[3,4,5])] a6 a6 (λe he=>hok e (vin (is:=[0]) Z he)) a6 (AllVS.cons ?_ AllVS.nil))
 refine VStep.mk3 [0] 16 (.own 2) 2 (.row 4 1 (List.replicate 8 [.bool false])) 17 (.own 3) 3 (.row 4 1 (List.replicate 8 [.bool false])) 18 (.own 4) 4 (.row 113 4 []) [⟨7,6,5,true,.box (avR [.slice none 0 0,.slice none 0 0,.slice none 0 0,.slice none 0 0] [])⟩] Z Z Z Z Z (λb1 _ hbn=>b7 Z Z (y9 G Z Z Z Z) (a8 Z)) a6 a6 a6 a6 (i7 [(8,[7])] a6 a6 (λe he=>hok e (vin (is:=[0,3,4,5]) Z he)) a6 (AllVS.cons ?_ AllVS.nil))
 refine c3v ?_
 clear hok
 refine a2q (Gh.nest (id:=4) (yss:=[]) Z Z b3o) ?_
 refine vm6 ?_
 refine zgo ?_
 refine f6 [1,4,6] [0,1,2,3,5] (λ(k:Nat)=>[(7,.v (.int .i64 (k:Int)))]) (λ(k:Nat)=>[(4,some (.nest 113 4 ((List.replicate k a7P).map (r3 154 183)) []))]) (λ(k:Nat)=>k<=n) (λ(k:Nat)=>n - k) 0 Z Z ?_ ?_ ?_ ?_
 ·exact H0
 ·exact u3
 ·exact Y5
 intro k hinv
 refine vm2 ?_
 refine zcd (λh2=>?_) (λh2=>?_)
 ·refine m3 ?_
  refine p4 G 7 Z Z Z Z Z Z Z Z ?_
  refine m3 ?_
  refine b6s ?_
  refine vm4 ?_
  refine b6t ?_
  refine m3 ?_
  refine s9 G 10 Z Z Z Z Z Z Z Z (.v Z (.own Z (.own Z (.own Z .nil)))) Z Z Z Z ?_
  refine vm4 ?_
  refine v6 (Gh.forget (id:=5) (k:=3) Z Z)<|v6 (Gh.keep [0,1,2,3,4,5,9] Z)<|w5 G np rfl rfl rfl rfl rfl rfl rfl rfl rfl rfl b3j rfl rfl ?_
  refine zgo ?_
  refine ⟨(k+1),?_,?_,⟨⟨_,Z,by rfl⟩,Z,trivial⟩,⟨⟨_,Z,by exact congrArg (λz=>Row.nest _ _ z []) (b0V Z)⟩,Z,Z,trivial⟩,Z,Z,Z⟩
  ·omega
  omega
 refine zgo ?_
 refine g8 (m5 Z Z Z Z (a7 (b8 Z ?_) (a7 (b8 Z ?_) (a7 (b8 Z ?_) (a7 (t8 Z ?_) (a7 (p5 ?_) d5))))))
 all_goals exact b6f
theorem a5H (rs:List Route) (c:Int) (hn:rs.length<=1048576):Ctr Tryz.prog 79 [.lst 2 (rs.map n6),.v (.int .i64 c)] (.shp false [some 4,none] [.fr 118 2 ((a0U rs c).1.rs.map n6),.fr 4 1 ((a0U rs c).1.en.map e7),.fr 4 1 ((a0U rs c).1.ra.map e7),.ne 113 4 ((a0U rs c).1.cp.map (r3 154 183)),.v (.bool (a0U rs c).2)]):=by
 refine Ctr.of (n:=34) G Tryz.func79 Z a6 Z Z Z (λw0=>?_)
 refine I2 ?_
 refine vm4 ?_
 refine g9 G 1 Z Z Z Z Z ?_
 refine E9 ?_
 refine I2 ?_
 refine G9 ?_
 refine vm4 ?_
 refine b7 Z Z (l9 Z (ArgsOK.of Z) (U6 _ _ a9b) Z) ?_
 refine zgn ?_
 refine o7 Z (λh1=>?_) (λh1=>?_)
 ·try rw [h1]
  try simp only [rfb] at h1
  have hM:=b2P (rs:=rs) h1
  refine zgn ?_
  exact b9w
 try rw [h1]
 try simp only [rfb] at h1
 have hM:=a5f (rs:=rs) h1
 have hr:=s8.mp h1
 obtain ⟨n,rfl⟩:∃n:Nat,c=n:=⟨c.toNat,by omega⟩
 refine zgn ?_
 refine p7 (d7 9 [0] mixed a6 Z Z (λr0=>?_) (λ_ h=>h))
 refine zsa 1 ?_
 refine r8 (N:=6) Z (m8 (fuel:=3) [⟨0,12,1,false,.row 118 2 []⟩,⟨3,15,2,false,.row 4 1 (List.replicate 8 [.bool false])⟩,⟨4,16,3,false,.row 4 1 (List.replicate 8 [.bool false])⟩,⟨5,17,4,false,.row 113 4 []⟩,⟨7,6,5,true,.box (avR [.slice none 0 0,.slice none 0 0,.slice none 0 0,.slice none 0 0] [])⟩] (AllVOK.cons (VOK.lit G Z Z Z Z Z) (AllVOK.cons (VOK.make (n:=8) G Z Z Z Z Z (by decide) (by decide)) (AllVOK.cons (VOK.make (n:=8) G Z Z Z Z Z (by decide) (by decide)) (AllVOK.cons (VOK.lit G Z Z Z Z Z) (AllVOK.cons (VOK.boxS G Z Z Z Z Z) (AllVOK.nil)))))) (λhok=>?_))
 refine i7 [(2,[0])] a6 a6 (λe he=>hok e he) a6 (AllVS.cons ?_ AllVS.nil)
 refine VStep.mk1 [0] 12 (.own 1) 1 (.row 118 2 []) [⟨3,15,2,false,.row 4 1 (List.replicate 8 [.bool false])⟩,⟨4,16,3,false,.row 4 1 (List.replicate 8 [.bool false])⟩,⟨5,17,4,false,.row 113 4 []⟩,⟨7,6,5,true,.box (avR [.slice none 0 0,.slice none 0 0,.slice none 0 0,.slice none 0 0] [])⟩] Z Z Z Z Z (λb1 _ hbn=>i6 G C1 Z Z Z Z Z Z Z Z Z b3j Z Z (a8 Z)) a6 a6 a6 a6 (i7 [(6,[3,4,5])] a6 a6 (λe he=>hok e (vin (is:=[0]) Z he)) a6 (AllVS.cons ?_ AllVS.nil))
 refine VStep.mk3 [0] 15 (.own 2) 2 (.row 4 1 (List.replicate 8 [.bool false])) 16 (.own 3) 3 (.row 4 1 (List.replicate 8 [.bool false])) 17 (.own 4) 4 (.row 113 4 []) [⟨7,6,5,true,.box (avR [.slice none 0 0,.slice none 0 0,.slice none 0 0,.slice none 0 0] [])⟩] Z Z Z Z Z (λb1 _ hbn=>b7 Z Z (y9 G Z Z Z Z) (a8 Z)) a6 a6 a6 a6 (i7 [(8,[7])] a6 a6 (λe he=>hok e (vin (is:=[0,3,4,5]) Z he)) a6 (AllVS.cons ?_ AllVS.nil))
 refine c3v ?_
 clear hok
 refine a2q (Gh.nest (id:=4) (yss:=[]) Z Z b3o) ?_
 refine vm6 ?_
 refine zgn ?_
 refine r7 (f6 [4,6,19] [0,1,2,3,5] (λ(k:Nat)=>[(20,.v (.int .i64 (k:Int)))]) (λ(k:Nat)=>[(4,some (.nest 113 4 ((List.replicate k a7P).map (r3 154 183)) []))]) (λ(k:Nat)=>k<=n) (λ(k:Nat)=>n - k) 0 Z Z ?_ ?_ ?_ ?_)
 ·exact H0
 ·exact u3
 ·exact Y5
 intro k hinv
 refine vm2 ?_
 refine zgn ?_
 refine p7 (o7 Z (λh2=>?_) (λh2=>?_))
 ·try rw [h2]
  try simp only [rfb] at h2
  refine E9 ?_
  refine r7 ?_
  apply v8 [4,6,19,20] [0,1,2,3,5,10] 11 11 [0,1,2,3] mixed a6 Z Z (λ_ h=>znk h)
  ·intro r0
   refine zsa 0 ?_
   refine r8 (N:=9) Z (m8 (fuel:=7) [⟨2,24,6,false,.row 3 1 []⟩,⟨3,25,7,false,.row 154 3 (List.replicate 4 [.int .i64 0,.int .i64 0,.int .i64 0])⟩,⟨4,26,8,false,.row 183 2 []⟩] (AllVOK.cons (VOK.lit G Z Z Z Z Z) (AllVOK.cons (VOK.make (n:=4) G Z Z Z Z Z (by decide) (by decide)) (AllVOK.cons (VOK.lit G Z Z Z Z Z) (AllVOK.nil)))) (λhok=>?_))
   refine i7 [(1,[]),(5,[3,4])] a6 a6 (λe he=>hok e he) a6 (AllVS.cons ?_ (AllVS.cons ?_ AllVS.nil))
   ·refine VStep.mk0 [0,1,2,3] Z Z (λb1 _ hbn=>b7 Z Z (o9 G Z Z Z Z Z Z Z) (a8 Z)) a6 a6 a6 a6 (i7 [(5,[3,4])] a6 a6 (λe he=>hok e he) a6 (AllVS.cons ?_ AllVS.nil))
    refine VStep.mk2 [0,1,2,3] 25 (.own 7) 7 (.row 154 3 (List.replicate 4 [.int .i64 0,.int .i64 0,.int .i64 0])) 26 (.own 8) 8 (.row 183 2 []) [⟨2,24,6,false,.row 3 1 []⟩] Z Z Z Z Z (λb1 _ hbn=>b7 Z Z (y9 G Z Z Z Z) (a8 Z)) a6 a6 a6 a6 (i7 [(6,[2])] a6 a6 (λe he=>hok e (vin (is:=[3,4]) Z he)) a6 (AllVS.cons ?_ AllVS.nil))
    exact c0D
   refine VStep.mk2 [0,1,2,3] 25 (.own 7) 7 (.row 154 3 (List.replicate 4 [.int .i64 0,.int .i64 0,.int .i64 0])) 26 (.own 8) 8 (.row 183 2 []) [⟨2,24,6,false,.row 3 1 []⟩] Z Z Z Z Z (λb1 _ hbn=>b7 Z Z (y9 G Z Z Z Z) (a8 Z)) a6 a6 a6 a6 (i7 [(1,[]),(6,[2])] a6 a6 (λe he=>hok e (vin (is:=[3,4]) Z he)) a6 (AllVS.cons ?_ (AllVS.cons ?_ AllVS.nil)))
   ·refine VStep.mk0 [0,1,2,3] Z Z (λb1 _ hbn=>b7 Z Z (o9 G Z Z Z Z Z Z Z) (a8 Z)) a6 a6 a6 a6 (i7 [(6,[2])] a6 a6 (λe he=>hok e (vin (is:=[3,4]) Z he)) a6 (AllVS.cons ?_ AllVS.nil))
    exact c0D
   refine c3D ?_
   clear hok
   refine b6 (rs:=[1,7]) a6 Z (AllB.cons ?_ (AllB.cons ?_ AllB.nil))
   ·refine c8 [0,1,2,3] Z Z ?_
    refine zgn ?_
    refine ⟨Z,?_⟩
    exact c0C
   refine c8 [0,1,2,3] Z Z (s9 G 10 Z Z Z Z Z Z Z Z (.v Z (.own Z (.own Z (.own Z .nil)))) Z Z Z Z (a8 ⟨Z,?_⟩))
   refine b6 (rs:=[1]) a6 Z (AllB.cons ?_ AllB.nil)
   refine c8 [0,1,2,3] Z Z ?_
   refine zgn ?_
   refine ⟨Z,?_⟩
   exact b91
  refine e9 ?_
  refine vm4 ?_
  refine vm5 ?_
  refine zst ?_
  refine m6 (Gh.sub 10 4 np Z Z Z) (a8 ⟨(k+1),?_,?_,⟨⟨_,Z,by rfl⟩,Z,trivial⟩,⟨⟨_,Z,by exact congrArg (λz=>Row.nest _ _ z []) (b0V Z)⟩,Z,Z,trivial⟩,Z,Z,Z⟩)
  ·omega
  omega
 try rw [h2]
 try simp only [rfb] at h2
 refine zgn ?_
 refine zgn ?_
 refine g8 (m5 Z Z Z Z (a7 (b8 Z ?_) (a7 (b8 Z ?_) (a7 (b8 Z ?_) (a7 (t8 Z ?_) (a7 (p5 ?_) d5))))))
 all_goals exact b6f
theorem a6d (m:Mach) (s:MStep) (hn:m.cp.length<=1048576):Ctr Tryz.prog 134 [.agg [.lst 2 (m.rs.map n6),.lst 1 (m.en.map e7),.lst 1 (m.ra.map e7),.nst none 4 (m.cp.map (r3 154 183))],.v (a0R s)] (.one (.v (.bool (s4 m.cp.length s)))):=by
 exact b93
theorem L8 {x:Cur} {n:Int} (h:okC n x) (hn:n<=870000000000):CtrX (α:=Mach×Cur) Tryz.prog 122 [.ptr 0 0] [.box [.lst 1 (x.c.map B9),.v (.int .i64 x.a),.v (.int .u64 x.s)]] (λy=>(DrM y.1)/\okC (n+2000) y.2) (λy=>.shp true [some 4] [.fr 118 2 (y.1.rs.map n6),.fr 4 1 (y.1.en.map e7),.fr 4 1 (y.1.ra.map e7),.ne 113 4 (y.1.cp.map (r3 154 183))]) (λy=>[some (.box [.lst 1 (y.2.c.map B9),.v (.int .i64 y.2.a),.v (.int .u64 y.2.s)])]):=by
 refine CtrX.of (n:=114) (k:=1) G Tryz.func122 Z a6 Z Z Z Z (λ_=>Z) Z Z (λw0 _ hpin=>?_)
 refine zgo ?_
 refine vm7 ?_
 refine zgo ?_
 refine b5 Z (c9 2 [0] Z Z Z (p6 h J (2)) Z (RowsIn.cons Z RowsIn.nil) Z (λ_=>Z) Z (λx1 ⟨hv1,hc1⟩=>?_))
 refine m3 ?_
 refine b2k ?_
 refine zgo ?_
 refine f6 [0,2,3] [1] (λ(z:Nat×Cur×List Route)=>[(4,.own 2),(5,.v (.int .i64 (z.1:Int)))]) (λ(z:Nat×Cur×List Route)=>[(0,some (.box [.lst 1 (z.2.1.c.map B9),.v (.int .i64 z.2.1.a),.v (.int .u64 z.2.1.s)])),(2,some (.row 118 2 (z.2.2.map n6)))]) (λ(z:Nat×Cur×List Route)=>z.1<=8/\z.2.2.length=z.1/\b28 (1+x1.1) z.2.2/\okC (n+2+4 * z.1) z.2.1) (λ(z:Nat×Cur×List Route)=>8 - z.1) (0,x1.2,[]) Z Z ?_ ?_ ?_ ?_
 ·exact ⟨Nat.zero_le _,Z,(λr hr=>by cases hr),hc1.mono (by simp)⟩
 ·exact b6J
 ·exact b0c
 intro z hinv
 obtain ⟨hz1,hz2,hz3,hz⟩:=hinv
 refine vm2 ?_
 refine zcd (λh1=>?_) (λh1=>?_)
 ·refine zgo ?_
  refine b5 Z (c9 3 [0] Z Z Z (p6 hz J (10)) Z (RowsIn.cons Z RowsIn.nil) Z (λ_=>Z) Z (λx2 ⟨hv2,hc2⟩=>?_))
  refine zgo ?_
  refine b5 Z (c9 3 [0] Z Z Z (p6 hc2 J (1+x1.1)) Z (RowsIn.cons Z RowsIn.nil) Z (λ_=>Z) Z (λx3 ⟨hv3,hc3⟩=>?_))
  refine m3 ?_
  refine b3t ?_
  refine b7P ?_
  refine ⟨(z.1+1,x3.2,z.2.2++[⟨x2.1,x3.1⟩]),?_,?_,⟨⟨_,Z,by (first | rfl | (congr 2;simp;omega))⟩,Z,⟨⟨_,Z,by (first | rfl | (congr 2;simp;omega))⟩,Z,trivial⟩⟩,⟨⟨_,Z,by (first | rfl | (exact congrArg (Row.row _ _) a0u))⟩,Z,Z,⟨⟨_,Z,by (first | rfl | (exact congrArg (Row.row _ _) a0u))⟩,Z,Z,trivial⟩⟩,Z,Z,Z⟩
  ·exact ⟨by show z.1+1<=8;omega,by show (z.2.2++[_]).length=z.1+1;simp;omega,b5X hz3 ⟨by dsimp only;omega,by dsimp only;omega⟩,hc3.mono g0⟩
  (show 8 - (z.1+1) < 8 - z.1;omega)
 have hok:okRts z.2.2 (1+x1.1)=true:=c1B hz3 J J
 have cN:=a06 z.2.2 (1+x1.1) J
 rw [a5f hok] at cN
 dsimp only at cN
 have hM0:MaG (a6M z.2.2 (1+x1.1).toNat):=c1C (by rw [Int.toNat_of_nonneg J];exact hok)
 generalize a6M z.2.2 (1+x1.1).toNat=m0 at cN hM0
 have h0e:=hM0.en
 have h0a:=hM0.ra
 refine m3 ?_
 refine c4 7 Z Z Z (ArgsOK.of Z) cN Z Z ?_
 refine m3 ?_
 refine b1g ?_
 refine zgo ?_
 refine f6 [0,2,6] [1] (λ(u:Nat×Cur×List Bool×List Bool)=>[(8,.v (.int .i64 (u.1:Int)))]) (λ(u:Nat×Cur×List Bool×List Bool)=>[(0,some (.box [.lst 1 (u.2.1.c.map B9),.v (.int .i64 u.2.1.a),.v (.int .u64 u.2.1.s)])),(3,some (.row 118 2 (m0.rs.map n6))),(4,some (.row 4 1 (u.2.2.1.map e7))),(5,some (.row 4 1 (u.2.2.2.map e7))),(6,some (.nest 113 4 (m0.cp.map (r3 154 183)) [])),(7,some (.box [.own 3,.own 4,.own 5,.own 6]))]) (λ(u:Nat×Cur×List Bool×List Bool)=>u.1<=8/\u.2.2.1.length=8/\u.2.2.2.length=8/\okC (n+40+4 * u.1) u.2.1) (λ(u:Nat×Cur×List Bool×List Bool)=>8 - u.1) (0,z.2.1,m0.en,m0.ra) Z Z ?_ ?_ ?_ ?_
 ·exact ⟨Nat.zero_le _,hM0.en,hM0.ra,hz.mono g0⟩
 ·exact b1o
 ·exact b71
 intro u hinv
 obtain ⟨hu1,hu2,hu3,hu⟩:=hinv
 refine vm2 ?_
 refine zcd (λh2=>?_) (λh2=>?_)
 ·refine zgn ?_
  refine p7 (r7 (p7 (d7 8 [1,3,5,6,7] mixed a6 Z Z (λr0=>?_) (λ_ h=>h))))
  refine C5 ?_
  refine b6 (rs:=[4]) a6 Z (AllB.cons ?_ AllB.nil)
  refine c8 [1,3,5,6,7] Z Z (c9 8 [0] Z Z Z (a73 hu J (4)) Z (RowsIn.cons Z RowsIn.nil) Z (λ_=>Z) Z (λx4 ⟨hv4,hc4⟩=>a8 ⟨Z,?_⟩))
  refine zsa 5 ?_
  refine b6 (rs:=[6]) a6 Z (AllB.cons ?_ AllB.nil)
  refine c8 [1,3,5,6,7] Z Z (b7 Z Z (c6 G Z Z Z Z Z J O4) (a8 ⟨Z,?_⟩))
  refine b6 (rs:=[7]) a6 Z (AllB.cons ?_ AllB.nil)
  first | refine c7 [1,3,5,6,7] Z Z (d6 G Z Z Z Z Z (C7 J J) Z Z Z Z Z (Nat.le_of_ble_eq_true Z) Z (a8 ⟨Z,?_⟩)) | refine c7 [1,3,5,6,7] Z Z (d6 G Z Z Z Z Z (w9 J J) Z Z Z Z Z (Nat.le_of_ble_eq_true Z) Z (a8 ⟨Z,?_⟩))
  refine vm6 ?_
  refine d7 7 [1,3,4,6,7] mixed a6 Z Z (λr0=>?_) (λ_ h=>h)
  refine C5 ?_
  refine b6 (rs:=[4]) a6 Z (AllB.cons ?_ AllB.nil)
  refine c8 [1,3,4,6,7] Z Z (c9 8 [0] Z Z Z (a73 hc4 J (2)) Z (RowsIn.cons Z RowsIn.nil) Z (λ_=>Z) Z (λx5 ⟨hv5,hc5⟩=>a8 ⟨Z,?_⟩))
  refine b6 (rs:=[5]) a6 Z (AllB.cons ?_ AllB.nil)
  refine c8 [1,3,4,6,7] Z Z (b7 Z Z (c6 G Z Z Z Z Z J O4) (a8 ⟨Z,?_⟩))
  refine b6 (rs:=[6]) a6 Z (AllB.cons ?_ AllB.nil)
  first | refine c7 [1,3,4,6,7] Z Z (d6 G Z Z Z Z Z (C7 J J) Z Z Z Z Z (Nat.le_of_ble_eq_true Z) Z (a8 ⟨Z,?_⟩)) | refine c7 [1,3,4,6,7] Z Z (d6 G Z Z Z Z Z (w9 J J) Z Z Z Z Z (Nat.le_of_ble_eq_true Z) Z (a8 ⟨Z,?_⟩))
  refine vm6 ?_
  refine zgo ?_
  refine ⟨(u.1+1,x5.2,u.2.2.1.set u.1 (!x4.1),u.2.2.2.set u.1 x5.1),?_,?_,⟨⟨_,Z,by (first | rfl | (congr 2;simp;omega))⟩,Z,trivial⟩,⟨⟨_,Z,by (first | rfl | (exact congrArg (Row.row _ _) a3b))⟩,Z,Z,⟨⟨_,Z,by (first | rfl | (exact congrArg (Row.row _ _) a3b))⟩,Z,Z,⟨⟨_,Z,by (first | rfl | (exact congrArg (Row.row _ _) a3b))⟩,Z,Z,⟨⟨_,Z,by (first | rfl | (exact congrArg (Row.row _ _) a3b))⟩,Z,Z,⟨⟨_,Z,by (first | rfl | (exact congrArg (Row.row _ _) a3b))⟩,Z,Z,⟨⟨_,Z,by (first | rfl | (exact congrArg (Row.row _ _) a3b))⟩,Z,Z,trivial⟩⟩⟩⟩⟩⟩,Z,Z,Z⟩
  ·exact ⟨by show u.1+1<=8;omega,by show (u.2.2.1.set _ _).length=8;rw [List.length_set];exact hu2,by show (u.2.2.2.set _ _).length=8;rw [List.length_set];exact hu3,hc5.mono g0⟩
  (show 8 - (u.1+1) < 8 - u.1;omega)
 refine zgo ?_
 refine b5 Z (c9 8 [0] Z Z Z (p6 hu J (14)) Z (RowsIn.cons Z RowsIn.nil) Z (λ_=>Z) Z (λx6 ⟨hv6,hc6⟩=>?_))
 refine zgo ?_
 refine f6 [0,2,6] [1] (λ(v:Nat×Cur×Mach)=>[(9,.v (.int .i64 (x6.1 - v.1)))]) (λ(v:Nat×Cur×Mach)=>[(0,some (.box [.lst 1 (v.2.1.c.map B9),.v (.int .i64 v.2.1.a),.v (.int .u64 v.2.1.s)])),(3,some (.row 118 2 (v.2.2.rs.map n6))),(4,some (.row 4 1 (v.2.2.en.map e7))),(5,some (.row 4 1 (v.2.2.ra.map e7))),(6,some (.nest 113 4 (v.2.2.cp.map (r3 154 183)) [])),(7,some (.box [.own 3,.own 4,.own 5,.own 6]))]) (λ(v:Nat×Cur×Mach)=>(v.1:Int)<=x6.1/\MaG v.2.2/\okC (n+100+20 * v.1) v.2.1) (λ(v:Nat×Cur×Mach)=>x6.1.toNat - v.1) (0,x6.2,⟨m0.rs,u.2.2.1,u.2.2.2,m0.cp⟩) Z Z ?_ ?_ ?_ ?_
 ·exact ⟨hv6.1,hM0.lines hu2 hu3,hc6.mono g0⟩
 ·exact b1o
 ·exact b71
 intro v hinv
 obtain ⟨hv1,hV,hv⟩:=hinv
 have hVn:=hV.n
 have hVr:=hV.rn
 have hVa:=hV.ra
 have hVs:=hV.small
 refine vm2 ?_
 refine zcd (λh3=>?_) (λh3=>?_)
 ·refine zgo ?_
  refine b5 Z (c9 8 [0,3,4,5,6] Z Z Z (T8 hv J v.2.2 J) Z (RowsIn.cons Z (RowsIn.cons Z (RowsIn.cons Z (RowsIn.cons Z (RowsIn.cons Z RowsIn.nil))))) Z (λ_=>Z) Z (λx7 ⟨hv7,hc7⟩=>?_))
  refine vm4 ?_
  refine b0a ?_
  refine zcl (a6d v.2.2 x7.1 J) ?_
  refine zcd (λh4=>?_) (λh4=>?_)
  ·have hst:=h4
   refine p7 ?_
   by_cases hno:a7U v.2.2 x7.1
   ·refine m3 ?_
    refine c4 13 Z Z Z (ArgsOK.of Z) (S5 v.2.2 x7.1.k x7.1.q x7.1.c x7.1.v hV hst hno) Z Z ?_
    refine m3 ?_
    refine g9 G 14 Z Z Z Z Z ?_
    refine zwf ?_
    exact c3Y
   refine m3 ?_
   refine c4 13 Z Z Z (ArgsOK.of Z) (a0z v.2.2 x7.1.k x7.1.q x7.1.c x7.1.v hV hst hno) Z Z ?_
   refine m3 ?_
   refine g9 G 14 Z Z Z Z Z ?_
   refine zcd (λh5=>?_) (λh5=>?_)
   ·refine zgn ?_
    refine X3 ?_
    refine m6 (Gh.sub 9 3 w3 Z Z Z) (m6 (Gh.sub 10 4 w3 Z Z Z) (m6 (Gh.sub 11 5 w3 Z Z Z) (m6 (Gh.sub 12 6 w3 Z Z Z) (a8 ⟨(v.1+1,x7.2,(stM v.2.2 x7.1).1),?_,?_,⟨⟨_,Z,by (first | rfl | exact congrArg (λv=>AV.v (.int .i64 v)) b6l)⟩,Z,trivial⟩,⟨⟨_,Z,by rfl⟩,Z,Z,⟨⟨_,Z,by rfl⟩,Z,Z,⟨⟨_,Z,by rfl⟩,Z,Z,⟨⟨_,Z,by rfl⟩,Z,Z,⟨⟨_,Z,by rfl⟩,Z,Z,⟨⟨_,Z,by rfl⟩,Z,Z,trivial⟩⟩⟩⟩⟩⟩,Z,Z,Z⟩))))
    ·exact b6E
    (show x6.1.toNat - (v.1+1) < x6.1.toNat - v.1;omega)
   refine zgo ?_
   refine ⟨(v.1+1,x7.2,v.2.2),?_,?_,⟨⟨_,Z,by (first | rfl | exact congrArg (λv=>AV.v (.int .i64 v)) b6l)⟩,Z,trivial⟩,⟨⟨_,Z,by rfl⟩,Z,Z,⟨⟨_,Z,by rfl⟩,Z,Z,⟨⟨_,Z,by rfl⟩,Z,Z,⟨⟨_,Z,by rfl⟩,Z,Z,⟨⟨_,Z,by rfl⟩,Z,Z,⟨⟨_,Z,by rfl⟩,Z,Z,trivial⟩⟩⟩⟩⟩⟩,Z,Z,Z⟩
   ·exact b6E
   (show x6.1.toNat - (v.1+1) < x6.1.toNat - v.1;omega)
  exact c3Y
 refine zgo ?_
 refine b5 Z (c9 8 [0] Z Z Z (p6 hv J (24)) Z (RowsIn.cons Z RowsIn.nil) Z (λ_=>Z) Z (λx8 ⟨hv8,hc8⟩=>?_))
 refine zcd (λh6=>?_) (λh6=>?_)
 ·refine d7 12 [1,4,5,6,7] mixed a6 Z Z (λr0=>?_) (λ_ h=>h)
  refine a32 ?_
  refine zsa 4 ?_
  refine zsa 7 ?_
  refine b6 (rs:=[3,5]) a6 Z (AllB.cons ?_ (AllB.cons ?_ AllB.nil))
  ·refine c8 [1,4,5,6,7] Z Z (c9 8 [0] Z Z Z (p6 hc8 J (8)) Z (RowsIn.cons Z RowsIn.nil) Z (λ_=>Z) Z (λx9 ⟨hv9,hc9⟩=>a8 ⟨Z,?_⟩))
   refine b6 (rs:=[5]) a6 Z (AllB.cons ?_ AllB.nil)
   refine c8 [1,4,5,6,7] Z Z (p4 G 9 Z Z Z Z Z Z Z Z (a8 ⟨Z,?_⟩))
   refine b6 (rs:=[6]) a6 Z (AllB.cons ?_ AllB.nil)
   refine c8 [1,4,5,6,7] Z Z (c9 9 [0,8] Z Z Z (F0 hc9 J [3,16] (3) (16) (by decide) (by decide)) Z (RowsIn.cons Z (RowsIn.cons Z RowsIn.nil)) Z (λ_=>Z) Z (λx10 ⟨hv10,hc10⟩=>a8 ⟨Z,?_⟩))
   refine b6 (rs:=[8]) a6 Z (AllB.cons ?_ AllB.nil)
   refine c8 [1,4,5,6,7] Z Z (c9 9 [0] Z Z Z (p6 hc10 J (3)) Z (RowsIn.cons Z RowsIn.nil) Z (λ_=>Z) Z (λx11 ⟨hv11,hc11⟩=>a8 ⟨Z,?_⟩))
   refine zsa 9 ?_
   refine b6 (rs:=[10]) a6 Z (AllB.cons ?_ AllB.nil)
   refine c8 [1,4,5,6,7] Z Z (b7 Z Z (c6 G Z Z Z Z Z J O4) (a8 ⟨Z,?_⟩))
   refine b6 (rs:=[11]) a6 Z (AllB.cons ?_ AllB.nil)
   first | refine c7 [1,4,5,6,7] Z Z (d6 G Z Z Z Z Z (C7 J J) Z Z Z Z Z (Nat.le_of_ble_eq_true Z) Z (a8 ⟨Z,?_⟩)) | refine c7 [1,4,5,6,7] Z Z (d6 G Z Z Z Z Z (w9 J J) Z Z Z Z Z (Nat.le_of_ble_eq_true Z) Z (a8 ⟨Z,?_⟩))
   refine vm6 ?_
   refine zgo ?_
   refine g8 (B6 ((⟨v.2.2.rs.set x9.1.toNat ⟨x10.1,x11.1⟩,v.2.2.en,v.2.2.ra,v.2.2.cp⟩,x11.2)) (p9 Z Z Z Z (a7 (b8 Z ?_) (a7 (b8 Z ?_) (a7 (b8 Z ?_) (a7 (t8 Z ?_) d5)))) Z (AftOK.stays Z ?_ Z AftOK.nil)) (⟨?_,?_⟩))
   all_goals (first | rfl | exact hc11.mono J | (dsimp only;rw [List.map_set];rfl) | (rw [List.map_append];rfl) | exact hV.dr | exact hV.dr.setR | exact hV.dr.addA hV.ra | exact hV.dr.setC b9 | exact hV.dr.addC hV.n.2 b9 | (exact congrArg (λz=>Row.nest _ _ z []) a3b))
  refine c8 [1,4,5,6,7] Z Z (p4 G 9 Z Z Z Z Z Z Z Z (a8 ⟨Z,?_⟩))
  refine b6 (rs:=[3]) a6 Z (AllB.cons ?_ AllB.nil)
  refine c8 [1,4,5,6,7] Z Z (c9 9 [0] Z Z Z (p6 hc8 J (8)) Z (RowsIn.cons Z RowsIn.nil) Z (λ_=>Z) Z (λx12 ⟨hv12,hc12⟩=>a8 ⟨Z,?_⟩))
  refine b6 (rs:=[6]) a6 Z (AllB.cons ?_ AllB.nil)
  refine c8 [1,4,5,6,7] Z Z (c9 9 [0,8] Z Z Z (F0 hc12 J [3,16] (3) (16) (by decide) (by decide)) Z (RowsIn.cons Z (RowsIn.cons Z RowsIn.nil)) Z (λ_=>Z) Z (λx13 ⟨hv13,hc13⟩=>a8 ⟨Z,?_⟩))
  refine b6 (rs:=[8]) a6 Z (AllB.cons ?_ AllB.nil)
  refine c8 [1,4,5,6,7] Z Z (c9 9 [0] Z Z Z (p6 hc13 J (3)) Z (RowsIn.cons Z RowsIn.nil) Z (λ_=>Z) Z (λx14 ⟨hv14,hc14⟩=>a8 ⟨Z,?_⟩))
  refine zsa 9 ?_
  refine b6 (rs:=[10]) a6 Z (AllB.cons ?_ AllB.nil)
  refine c8 [1,4,5,6,7] Z Z (b7 Z Z (c6 G Z Z Z Z Z J O4) (a8 ⟨Z,?_⟩))
  refine b6 (rs:=[11]) a6 Z (AllB.cons ?_ AllB.nil)
  first | refine c7 [1,4,5,6,7] Z Z (d6 G Z Z Z Z Z (C7 J J) Z Z Z Z Z (Nat.le_of_ble_eq_true Z) Z (a8 ⟨Z,?_⟩)) | refine c7 [1,4,5,6,7] Z Z (d6 G Z Z Z Z Z (w9 J J) Z Z Z Z Z (Nat.le_of_ble_eq_true Z) Z (a8 ⟨Z,?_⟩))
  refine vm6 ?_
  refine zgo ?_
  refine g8 (B6 ((⟨v.2.2.rs.set x12.1.toNat ⟨x13.1,x14.1⟩,v.2.2.en,v.2.2.ra,v.2.2.cp⟩,x14.2)) (p9 Z Z Z Z (a7 (b8 Z ?_) (a7 (b8 Z ?_) (a7 (b8 Z ?_) (a7 (t8 Z ?_) d5)))) Z (AftOK.stays Z ?_ Z AftOK.nil)) (⟨?_,?_⟩))
  all_goals (first | rfl | exact hc14.mono J | (dsimp only;rw [List.map_set];rfl) | (rw [List.map_append];rfl) | exact hV.dr | exact hV.dr.setR | exact hV.dr.addA hV.ra | exact hV.dr.setC b9 | exact hV.dr.addC hV.n.2 b9 | (exact congrArg (λz=>Row.nest _ _ z []) a3b))
 refine zcd (λh7=>?_) (λh7=>?_)
 ·refine m3 ?_
  refine b6t ?_
  refine vm4 ?_
  refine v6 (Gh.forget (id:=7) (k:=2) Z Z)<|v6 (Gh.keep [0,1,3,4,5,6,7,8] Z)<|i6 G w3 rfl rfl rfl rfl rfl rfl rfl rfl rfl C0 rfl rfl ?_
  refine zgo ?_
  refine g8 (B6 ((⟨v.2.2.rs,v.2.2.en,v.2.2.ra++[false],v.2.2.cp⟩,x8.2)) (p9 Z Z Z Z (a7 (b8 Z ?_) (a7 (b8 Z ?_) (a7 (b8 Z ?_) (a7 (t8 Z ?_) d5)))) Z (AftOK.stays Z ?_ Z AftOK.nil)) (⟨?_,?_⟩))
  all_goals exact b87
 refine zcd (λh8=>?_) (λh8=>?_)
 ·refine d7 6 [1,3,4,5,7] mixed a6 Z Z (λr0=>?_) (λ_ h=>h)
  refine a32 ?_
  refine b6 (rs:=[3]) a6 Z (AllB.cons ?_ AllB.nil)
  refine c8 [1,3,4,5,7] Z Z (c9 11 [0] Z Z Z (a0B hc8 J) Z (RowsIn.cons Z RowsIn.nil) Z (λ_=>Z) Z (λx15 ⟨hv15,hc15⟩=>a8 ⟨Z,?_⟩))
  refine b6 (rs:=[4]) a6 Z (AllB.cons ?_ AllB.nil)
  refine c8 [1,3,4,5,7] Z Z (b7 Z Z (d8 G Z Z Z Z Z J O4) (a8 ⟨Z,?_⟩))
  refine b6 (rs:=[5]) a6 Z (AllB.cons ?_ AllB.nil)
  first | refine c7 [1,3,4,5,7] Z Z (j6 G Z Z Z Z Z (C7 J J) Z Z (.v Z (.own Z (.own Z (.own Z .nil)))) Z Z Z (Nat.le_of_ble_eq_true Z) (λq h=>by cases h) Z (a8 ⟨Z,?_⟩)) | refine c7 [1,3,4,5,7] Z Z (j6 G Z Z Z Z Z (C9 I1 Z) Z Z (.v Z (.own Z (.own Z (.own Z .nil)))) Z Z Z (Nat.le_of_ble_eq_true Z) (λq h=>by cases h) Z (a8 ⟨Z,?_⟩))
  refine vm6 ?_
  refine zgo ?_
  refine g8 (B6 ((⟨v.2.2.rs,v.2.2.en,v.2.2.ra,v.2.2.cp.set 0 x15.1⟩,x15.2)) (p9 Z Z Z Z (a7 (b8 Z ?_) (a7 (b8 Z ?_) (a7 (b8 Z ?_) (a7 (t8 Z ?_) d5)))) Z (AftOK.stays Z ?_ Z AftOK.nil)) (⟨?_,?_⟩))
  all_goals (first | rfl | exact hc15.mono J | (dsimp only;rw [List.map_set];rfl) | (rw [List.map_append];rfl) | exact hV.dr | exact hV.dr.setR | exact hV.dr.addA hV.ra | exact hV.dr.setC b9 | exact hV.dr.addC hV.n.2 b9 | (exact congrArg (λz=>Row.nest _ _ z []) a3b))
 refine zcd (λh9=>?_) (λh9=>?_)
 ·refine O3 8 [1,3,4,5,6,7] [5,7] mixed a6 Z Z (λr0=>?_) (λ_ h=>h)
  refine s6 0 [1,5,6,7] Z a6 a6 a6 Z Z Z Z (m4 G Z Z Z Z) (s6 1 [5,6,7] Z a6 a6 a6 Z Z Z Z (o9 G Z Z Z Z Z Z Z) (s6 2 [3,4,5,6,7] Z a6 a6 a6 Z Z Z Z (d3 Z Z) (u4 3 a6 (y7 [1,3,4,5,6,7] Z Z (c9 11 [0] Z Z Z (a0B hc8 J) Z (RowsIn.cons Z RowsIn.nil) Z (λ_=>Z) Z (λx16 ⟨hv16,hc16⟩=>a8 ⟨Z,?_⟩))))))
  refine u4 4 a6 (y7 [1,3,4,5,6,7] Z Z (s9 G 12 Z Z Z Z Z Z Z Z (.v Z (.own Z (.own Z (.own Z .nil)))) Z Z Z Z (a8 ⟨Z,?_⟩)))
  refine u4 5 a6 (a4r Z Z a6 (v6 (Gh.forget (id:=7) (k:=3) Z Z)<|v6 (Gh.keep [0,1,3,4,5,6,7,11] Z)<|J2 (tx:=107) 13 rfl rfl rfl rfl rfl<|w5 G G5 rfl rfl rfl rfl rfl rfl rfl rfl rfl rfl C0 rfl rfl (a8 ?_)))
  refine c18 ?_
  refine g8 (B6 ((⟨v.2.2.rs,v.2.2.en,v.2.2.ra,v.2.2.cp++[x16.1]⟩,x16.2)) (p9 Z Z Z Z (a7 (b8 Z ?_) (a7 (b8 Z ?_) (a7 (b8 Z ?_) (a7 (t8 Z ?_) d5)))) Z (AftOK.stays Z ?_ Z AftOK.nil)) (⟨?_,?_⟩))
  all_goals (first | rfl | exact hc16.mono J | (dsimp only;rw [List.map_set];rfl) | (rw [List.map_append];rfl) | exact hV.dr | exact hV.dr.setR | exact hV.dr.addA hV.ra | exact hV.dr.setC b9 | exact hV.dr.addC hV.n.2 b9 | (exact congrArg (λz=>Row.nest _ _ z []) a3b))
 refine zgo ?_
 refine g8 (B6 ((v.2.2,x8.2)) (p9 Z Z Z Z (a7 (b8 Z ?_) (a7 (b8 Z ?_) (a7 (b8 Z ?_) (a7 (t8 Z ?_) d5)))) Z (AftOK.stays Z ?_ Z AftOK.nil)) (⟨?_,?_⟩))
 all_goals exact b87
end Go.Proofs.YtcnodpipinlpcaaGreat
