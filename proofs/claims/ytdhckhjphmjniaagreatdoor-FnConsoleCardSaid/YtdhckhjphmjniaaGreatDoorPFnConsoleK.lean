/- Texts merged into one: G4, G5, V1, Q6, L8, Y1, E. -/
import Derived.Test.YtdhckhjphmjniaaGreatDoorPFnConsoleJ
import Derived.Test.YtdhckhjphmjniaaGreatDoorRows
import Derived.LaidLaws
import Derived.Lib.LaidIn
import Derived.Stop.LaidErr
import Derived.HandedShaped
set_option maxHeartbeats 4000000
set_option linter.unusedSimpArgs false
set_option linter.unusedVariables false
set_option maxRecDepth 20000
namespace Go.Proofs.YtdhckhjphmjniaaGreatDoor
open Go Go.Rf
theorem a44 {x:Cur} {n:Int} (h:okC n x) (hn:n<=850000000000):CtrX (α:=(Mach×Lg)×Cur) Tryz.prog 27 [.ptr 0 0] [.box [.lst 1 (x.c.map B7),.v (.int .i64 x.a),.v (.int .u64 x.s)]] (λy=>(DrC y.1)/\okC (n+3000) y.2) (λy=>.shp true [some 7] [.fr 132 2 (y.1.1.rs.map p8),.fr 4 1 (y.1.1.en.map n7),.fr 4 1 (y.1.1.ra.map n7),.ne 74 4 (y.1.1.cp.map (r4 104 76)),.v (.string y.1.2.d),.v (.string y.1.2.p),.v (.int .i64 y.1.2.n)]) (λy=>[some (.box [.lst 1 (y.2.c.map B7),.v (.int .i64 y.2.a),.v (.int .u64 y.2.s)])]):=by
 refine CtrX.of (n:=32) (k:=1) G Tryz.func27 Z Y Z Z Z Z (λ_=>Z) Z Z (λw0 _ hpin=>?_)
 refine c6 (λK1 hK1=>?_)
 refine b7 (a7 Z (d6 G 2 Z Z Z Z Z (b4 (hK1 _ ?_))))
 clear hK1 K1
 refine c6 (λK2 hK2=>?_)
 refine b7 (a7 Z (b5 Z Z (b8 Z Z) (a7 Z ?_)))
 refine d1 6 [0] Z Z Z (a42 h J) Z (RowsIn.cons Z RowsIn.nil) Z (λ_=>Z) Z (λx1 ⟨hv1,hc1⟩=>?_)
 refine a7 Z (b5 Z Z (w3 G Z Z Z Z) (a7 Z (d6 G 7 Z Z Z Z Z (a7 Z (e9 G Z Z Z Z Z Z Z Z Z Z Z (b4 (hK2 _ ?_)))))))
 clear hK2 K2
 refine c6 (λK3 hK3=>?_)
 refine c6 (λK4 hK4=>?_)
 refine b7 (a7 Z (b5 Z Z (b8 Z Z) (a7 Z ?_)))
 refine d1 7 [0] Z Z Z (p7 hc1 J (7)) Z (RowsIn.cons Z RowsIn.nil) Z (λ_=>Z) Z (λx2 ⟨hv2,hc2⟩=>?_)
 refine a7 Z (b5 Z Z (b9 Z Z) (b4 (hK4 _ ?_)))
 clear hK4 K4
 refine r9 ?_
 refine g9 [0,2,3] [1] (λ(z:Nat×Cur×(Mach×Lg))=>[(4,.v (.int .i64 (x2.1 - z.1)))]) (λ(z:Nat×Cur×(Mach×Lg))=>[(0,some (.box [.lst 1 (z.2.1.c.map B7),.v (.int .i64 z.2.1.a),.v (.int .u64 z.2.1.s)])),(2,some (.row 132 2 ((z.2.2).1.rs.map p8))),(3,some (.row 4 1 ((z.2.2).1.en.map n7))),(4,some (.row 4 1 ((z.2.2).1.ra.map n7))),(5,some (.nest 74 4 ((z.2.2).1.cp.map (r4 104 76)) [])),(6,some (.box [.own 2,.own 3,.own 4,.own 5,.v (.string (z.2.2).2.d),.v (.string (z.2.2).2.p),.v (.int .i64 (z.2.2).2.n)]))]) (λ(z:Nat×Cur×(Mach×Lg))=>(z.1:Int)<=x2.1/\DrC z.2.2/\okC (n+2010+30 * z.1) z.2.1) (λ(z:Nat×Cur×(Mach×Lg))=>x2.1.toNat - z.1) (0,x2.2,(x1.1,lg0)) Z Z ?_ ?_ ?_ ?_
 ·exact ⟨hv2.1,⟨hv1.small,(Nat.zero_le 1048576:lg0.d.size+lg0.p.size<=1048576)⟩,hc2.mono (by simp;omega)⟩
 ·exact b0K
 ·exact c7k
 ·intro z hinv
  obtain ⟨hz1,hzC,hz⟩:=hinv
  have hzm:=hzC.m
  have hzl:=hzC.l
  have hzc:=hzC.cp
  simp only [List.cons_append,List.nil_append]
  refine c6 (λK5 hK5=>?_)
  refine c6 (λK6 hK6=>?_)
  refine b7 (a7 Z (b5 Z Z (b8 Z Z) (a7 Z (b5 Z Z (w4 Z Z Z Z) (a7 Z (b5 Z Z (b8 Z Z) (B2 Z Z Z (λh1=>?_) (λh1=>?_))))))))
  ·try rw [h1]
   try simp only [rfb] at h1
   refine l7 Z Z Z (b5 Z Z (c1 G Z Z Z Z Z Z) (l7 Z Z Z (b5 Z Z (i7 Z (ArgsOK.of Z) (a1K z.2.2.1 z.2.2.2 hzm hzl) Z) (a7 Z (b5 Z Z (u9 Z Z Z) (b4 (hK6 _ ?_)))))))
   clear hK6 K6
   refine l4 Z (λh2=>?_) (λh2=>?_)
   ·try rw [h2]
    try simp only [rfb] at h2
    refine r8 (hK5 _ ?_)
    clear hK5 K5
    refine c6 (λK7 hK7=>?_)
    refine r9 ?_
    refine l1 9 [1] mixed Y Z Z (λr0=>?_) (λ_ h=>h)
    refine d7 1 Z Y Y Z Z Z Z (b8 Z Z) ?_
    refine b6 (rs:=[0,2]) Y Z (AllB.cons ?_ (AllB.cons ?_ AllB.nil))
    ·refine f7 [1] Z Z (b5 Z Z (c1 G Z Z Z Z Z Z) (b4 ⟨Z,?_⟩))
     refine b6 (rs:=[2]) Y Z (AllB.cons ?_ AllB.nil)
     refine f7 [1] Z Z (b5 Z Z (c1 G Z Z Z Z Z Z) (b4 ⟨Z,?_⟩))
     refine b6 (rs:=[3]) Y Z (AllB.cons ?_ AllB.nil)
     refine f7 [1] Z Z (d1 7 [0,2,3,4,5] Z Z Z (D8 hz J z.2.2.1 z.2.2.2 (by assumption)) Z (RowsIn.cons Z (RowsIn.cons Z (RowsIn.cons Z (RowsIn.cons Z (RowsIn.cons Z RowsIn.nil))))) Z (λ_=>Z) Z (λx3 ⟨hv3,hc3⟩=>b4 ⟨Z,?_⟩))
     refine b6 (rs:=[4]) Y Z (AllB.cons ?_ AllB.nil)
     refine f7 [1] Z Z (d3 11 Z Z Z (ArgsOK.of Z) (G8 z.2.2.1 z.2.2.2 _ (by assumption) (by assumption) J) Z Z (b4 ⟨Z,?_⟩))
     refine d7 5 Z Y Y Z Z Z Z (b8 Z Z) (d7 6 Z Y Y Z Z Z Z (f9 Z Z Z) (d7 7 Z Y Y Z Z Z Z (f9 Z Z Z) ?_))
     refine b6 (rs:=[8]) Y Z (AllB.cons ?_ AllB.nil)
     refine f7 [1] Z Z (e9 G Z Z Z Z Z Z Z Z Z Z Z (b4 ⟨Z,?_⟩))
     refine E5 Y (hK7 _ ?_)
     clear hK7 K7
     refine b7 (a7 Z (b5 Z Z (b8 Z Z) (a7 Z ?_)))
     first | refine b5 Z Z (r3 Z Z Z Z J J) ?_ | refine b5 Z Z (t7 Z Z Z Z) ?_
     refine a7 Z (b5 Z Z (b9 Z Z) (s6 (Gh.sub 7 2 (by rw [hpin];decide) Z Z Z) (s6 (Gh.sub 8 3 (by rw [hpin];decide) Z Z Z) (s6 (Gh.sub 9 4 (by rw [hpin];decide) Z Z Z) (s6 (Gh.sub 10 5 (by rw [hpin];decide) Z Z Z) ?_)))))
     refine b4 ⟨(z.1+1,x3.2,((exC z.2.2.1 z.2.2.2 x3.1).1,(exC z.2.2.1 z.2.2.2 x3.1).2.1)),?_,?_,⟨⟨_,Z,by (first | rfl | exact congrArg (λv=>AV.v (.int .i64 v)) (by show x2.1 - (z.1:Int) - 1=x2.1 - ((z.1+1:Nat):Int);omega))⟩,Z,trivial⟩,⟨⟨_,Z,by rfl⟩,Z,Z,⟨⟨_,Z,by rfl⟩,Z,Z,⟨⟨_,Z,by rfl⟩,Z,Z,⟨⟨_,Z,by rfl⟩,Z,Z,⟨⟨_,Z,by rfl⟩,Z,Z,⟨⟨_,Z,by rfl⟩,Z,Z,trivial⟩⟩⟩⟩⟩⟩,Z,Z,Z⟩
     ·exact ⟨by show ((z.1+1:Nat):Int)<=x2.1;omega,hzC.next,hc3.mono (by simp;omega)⟩
     ·exact c0N
    ·refine f7 [1] Z Z (b5 Z Z (c1 G Z Z Z Z Z Z) (b4 ⟨Z,?_⟩))
     refine b6 (rs:=[0,3]) Y Z (AllB.cons ?_ (AllB.cons ?_ AllB.nil))
     ·refine f7 [1] Z Z (b5 Z Z (c1 G Z Z Z Z Z Z) (b4 ⟨Z,?_⟩))
      refine b6 (rs:=[3]) Y Z (AllB.cons ?_ AllB.nil)
      refine f7 [1] Z Z (d1 7 [0,2,3,4,5] Z Z Z (D8 hz J z.2.2.1 z.2.2.2 (by assumption)) Z (RowsIn.cons Z (RowsIn.cons Z (RowsIn.cons Z (RowsIn.cons Z (RowsIn.cons Z RowsIn.nil))))) Z (λ_=>Z) Z (λx4 ⟨hv4,hc4⟩=>b4 ⟨Z,?_⟩))
      refine b6 (rs:=[4]) Y Z (AllB.cons ?_ AllB.nil)
      refine f7 [1] Z Z (d3 11 Z Z Z (ArgsOK.of Z) (G8 z.2.2.1 z.2.2.2 _ (by assumption) (by assumption) J) Z Z (b4 ⟨Z,?_⟩))
      refine d7 5 Z Y Y Z Z Z Z (b8 Z Z) (d7 6 Z Y Y Z Z Z Z (f9 Z Z Z) (d7 7 Z Y Y Z Z Z Z (f9 Z Z Z) ?_))
      refine b6 (rs:=[8]) Y Z (AllB.cons ?_ AllB.nil)
      refine f7 [1] Z Z (e9 G Z Z Z Z Z Z Z Z Z Z Z (b4 ⟨Z,?_⟩))
      refine E5 Y (hK7 _ ?_)
      clear hK7 K7
      refine b7 (a7 Z (b5 Z Z (b8 Z Z) (a7 Z ?_)))
      first | refine b5 Z Z (r3 Z Z Z Z J J) ?_ | refine b5 Z Z (t7 Z Z Z Z) ?_
      refine a7 Z (b5 Z Z (b9 Z Z) (s6 (Gh.sub 7 2 (by rw [hpin];decide) Z Z Z) (s6 (Gh.sub 8 3 (by rw [hpin];decide) Z Z Z) (s6 (Gh.sub 9 4 (by rw [hpin];decide) Z Z Z) (s6 (Gh.sub 10 5 (by rw [hpin];decide) Z Z Z) ?_)))))
      refine b4 ⟨(z.1+1,x4.2,((exC z.2.2.1 z.2.2.2 x4.1).1,(exC z.2.2.1 z.2.2.2 x4.1).2.1)),?_,?_,⟨⟨_,Z,by (first | rfl | exact congrArg (λv=>AV.v (.int .i64 v)) (by show x2.1 - (z.1:Int) - 1=x2.1 - ((z.1+1:Nat):Int);omega))⟩,Z,trivial⟩,⟨⟨_,Z,by rfl⟩,Z,Z,⟨⟨_,Z,by rfl⟩,Z,Z,⟨⟨_,Z,by rfl⟩,Z,Z,⟨⟨_,Z,by rfl⟩,Z,Z,⟨⟨_,Z,by rfl⟩,Z,Z,⟨⟨_,Z,by rfl⟩,Z,Z,trivial⟩⟩⟩⟩⟩⟩,Z,Z,Z⟩
      ·exact ⟨by show ((z.1+1:Nat):Int)<=x2.1;omega,hzC.next,hc4.mono (by simp;omega)⟩
      ·exact c0N
     ·refine f7 [1] Z Z (d1 7 [0,2,3,4,5] Z Z Z (D8 hz J z.2.2.1 z.2.2.2 (by assumption)) Z (RowsIn.cons Z (RowsIn.cons Z (RowsIn.cons Z (RowsIn.cons Z (RowsIn.cons Z RowsIn.nil))))) Z (λ_=>Z) Z (λx5 ⟨hv5,hc5⟩=>b4 ⟨Z,?_⟩))
      refine b6 (rs:=[0]) Y Z (AllB.cons ?_ AllB.nil)
      refine f7 [1] Z Z (b5 Z Z (c1 G Z Z Z Z Z Z) (b4 ⟨Z,?_⟩))
      refine b6 (rs:=[4]) Y Z (AllB.cons ?_ AllB.nil)
      refine f7 [1] Z Z (d3 11 Z Z Z (ArgsOK.of Z) (G8 z.2.2.1 z.2.2.2 _ (by assumption) (by assumption) J) Z Z (b4 ⟨Z,?_⟩))
      refine d7 5 Z Y Y Z Z Z Z (b8 Z Z) (d7 6 Z Y Y Z Z Z Z (f9 Z Z Z) (d7 7 Z Y Y Z Z Z Z (f9 Z Z Z) ?_))
      refine b6 (rs:=[8]) Y Z (AllB.cons ?_ AllB.nil)
      refine f7 [1] Z Z (e9 G Z Z Z Z Z Z Z Z Z Z Z (b4 ⟨Z,?_⟩))
      refine E5 Y (hK7 _ ?_)
      clear hK7 K7
      refine b7 (a7 Z (b5 Z Z (b8 Z Z) (a7 Z ?_)))
      first | refine b5 Z Z (r3 Z Z Z Z J J) ?_ | refine b5 Z Z (t7 Z Z Z Z) ?_
      refine a7 Z (b5 Z Z (b9 Z Z) (s6 (Gh.sub 7 2 (by rw [hpin];decide) Z Z Z) (s6 (Gh.sub 8 3 (by rw [hpin];decide) Z Z Z) (s6 (Gh.sub 9 4 (by rw [hpin];decide) Z Z Z) (s6 (Gh.sub 10 5 (by rw [hpin];decide) Z Z Z) ?_)))))
      refine b4 ⟨(z.1+1,x5.2,((exC z.2.2.1 z.2.2.2 x5.1).1,(exC z.2.2.1 z.2.2.2 x5.1).2.1)),?_,?_,⟨⟨_,Z,by (first | rfl | exact congrArg (λv=>AV.v (.int .i64 v)) (by show x2.1 - (z.1:Int) - 1=x2.1 - ((z.1+1:Nat):Int);omega))⟩,Z,trivial⟩,⟨⟨_,Z,by rfl⟩,Z,Z,⟨⟨_,Z,by rfl⟩,Z,Z,⟨⟨_,Z,by rfl⟩,Z,Z,⟨⟨_,Z,by rfl⟩,Z,Z,⟨⟨_,Z,by rfl⟩,Z,Z,⟨⟨_,Z,by rfl⟩,Z,Z,trivial⟩⟩⟩⟩⟩⟩,Z,Z,Z⟩
      ·exact ⟨by show ((z.1+1:Nat):Int)<=x2.1;omega,hzC.next,hc5.mono (by simp;omega)⟩
      ·exact c0N
   ·try rw [h2]
    try simp only [rfb] at h2
    refine R5 (hK3 _ ?_)
    clear hK5 K5 hK3 K3
    refine c6 (λK8 hK8=>?_)
    refine c6 (λK9 hK9=>?_)
    refine b7 (a7 Z (b5 Z Z (b8 Z Z) (a7 Z ?_)))
    refine d1 7 [0] Z Z Z (a26 hz J (24)) Z (RowsIn.cons Z RowsIn.nil) Z (λ_=>Z) Z (λx6 ⟨hv6,hc6⟩=>?_)
    refine b4 (hK9 _ ?_)
    clear hK9 K9
    refine l4 Z (λh3=>?_) (λh3=>?_)
    ·try rw [h3]
     try simp only [rfb] at h3
     refine b7 (a7 Z (b5 Z Z (b8 Z Z) (a7 Z ?_)))
     refine d1 7 [0] Z Z Z (Z6 hc6 J) Z (RowsIn.cons Z RowsIn.nil) Z (λ_=>Z) Z (λx7 ⟨hv7,hc7⟩=>?_)
     refine a7 Z (b5 Z Z (d5 G Z Z Z Z) (a7 Z (e9 G Z Z Z Z Z Z Z Z Z Z Z (b4 (hK8 _ ?_)))))
     clear hK8 K8
     refine c6 (λK10 hK10=>?_)
     refine b7 (a7 Z (b5 Z Z (c1 G Z Z Z Z Z Z) (a7 Z (e9 G Z Z Z Z Z Z Z Z Z Z Z (b4 (hK10 _ ?_))))))
     clear hK10 K10
     refine d8 (z8 (((z.2.2.1,x7.1),x7.2)) (u6 Z Z Z Z (b3 (c7 Z ?_) (b3 (c7 Z ?_) (b3 (c7 Z ?_) (b3 (A1 Z ?_) (b3 (j4 ?_) (b3 (j4 ?_) (b3 (j4 ?_) d9))))))) Z (AftOK.stays Z ?_ Z AftOK.nil)) (⟨?_,?_⟩))
     all_goals (first | rfl | exact hc7.mono J | exact hzC | exact ⟨hzm,hv7⟩)
    ·try rw [h3]
     try simp only [rfb] at h3
     refine r8 (hK8 _ ?_)
     clear hK8 K8
     refine c6 (λK11 hK11=>?_)
     refine b7 (a7 Z (b5 Z Z (c1 G Z Z Z Z Z Z) (a7 Z (e9 G Z Z Z Z Z Z Z Z Z Z Z (b4 (hK11 _ ?_))))))
     clear hK11 K11
     refine d8 (z8 ((z.2.2,x6.2)) (u6 Z Z Z Z (b3 (c7 Z ?_) (b3 (c7 Z ?_) (b3 (c7 Z ?_) (b3 (A1 Z ?_) (b3 (j4 ?_) (b3 (j4 ?_) (b3 (j4 ?_) d9))))))) Z (AftOK.stays Z ?_ Z AftOK.nil)) (⟨?_,?_⟩))
     all_goals (first | rfl | exact hc6.mono J | exact hzC | exact ⟨hzm,hv6⟩)
  ·try rw [h1]
   try simp only [rfb] at h1
   refine l9 Z Z Z Z Z Z (l9 Z Z Z Z Z Z (a7 Z (b5 Z Z (B4 Z Z Z) (b4 (hK6 _ ?_)))))
   clear hK6 K6
   refine a0Y Z (R5 (hK3 _ ?_))
   clear hK5 K5 hK3 K3
   refine c6 (λK12 hK12=>?_)
   refine c6 (λK13 hK13=>?_)
   refine b7 (a7 Z (b5 Z Z (b8 Z Z) (a7 Z ?_)))
   refine d1 7 [0] Z Z Z (a26 hz J (24)) Z (RowsIn.cons Z RowsIn.nil) Z (λ_=>Z) Z (λx8 ⟨hv8,hc8⟩=>?_)
   refine b4 (hK13 _ ?_)
   clear hK13 K13
   refine l4 Z (λh4=>?_) (λh4=>?_)
   ·try rw [h4]
    try simp only [rfb] at h4
    refine b7 (a7 Z (b5 Z Z (b8 Z Z) (a7 Z ?_)))
    refine d1 7 [0] Z Z Z (Z6 hc8 J) Z (RowsIn.cons Z RowsIn.nil) Z (λ_=>Z) Z (λx9 ⟨hv9,hc9⟩=>?_)
    refine a7 Z (b5 Z Z (d5 G Z Z Z Z) (a7 Z (e9 G Z Z Z Z Z Z Z Z Z Z Z (b4 (hK12 _ ?_)))))
    clear hK12 K12
    refine c6 (λK14 hK14=>?_)
    refine b7 (a7 Z (b5 Z Z (c1 G Z Z Z Z Z Z) (a7 Z (e9 G Z Z Z Z Z Z Z Z Z Z Z (b4 (hK14 _ ?_))))))
    clear hK14 K14
    refine d8 (z8 (((z.2.2.1,x9.1),x9.2)) (u6 Z Z Z Z (b3 (c7 Z ?_) (b3 (c7 Z ?_) (b3 (c7 Z ?_) (b3 (A1 Z ?_) (b3 (j4 ?_) (b3 (j4 ?_) (b3 (j4 ?_) d9))))))) Z (AftOK.stays Z ?_ Z AftOK.nil)) (⟨?_,?_⟩))
    all_goals (first | rfl | exact hc9.mono J | exact hzC | exact ⟨hzm,hv9⟩)
   ·try rw [h4]
    try simp only [rfb] at h4
    refine r8 (hK12 _ ?_)
    clear hK12 K12
    refine c6 (λK15 hK15=>?_)
    refine b7 (a7 Z (b5 Z Z (c1 G Z Z Z Z Z Z) (a7 Z (e9 G Z Z Z Z Z Z Z Z Z Z Z (b4 (hK15 _ ?_))))))
    clear hK15 K15
    refine d8 (z8 ((z.2.2,x8.2)) (u6 Z Z Z Z (b3 (c7 Z ?_) (b3 (c7 Z ?_) (b3 (c7 Z ?_) (b3 (A1 Z ?_) (b3 (j4 ?_) (b3 (j4 ?_) (b3 (j4 ?_) d9))))))) Z (AftOK.stays Z ?_ Z AftOK.nil)) (⟨?_,?_⟩))
    all_goals (first | rfl | exact hc8.mono J | exact hzC | exact ⟨hzm,hv8⟩)
theorem a1O (l:List Int) (hl:X1 l):CtrX (α:=(Mach×Lg)×ByteArray) Tryz.prog 13 [.lst 1 (l.map B7)] [] (λy=>(DrC y.1/\y.2.size<=1000)/\True) (λy=>.shp false [some 7,none] [.fr 132 2 (y.1.1.rs.map p8),.fr 4 1 (y.1.1.en.map n7),.fr 4 1 (y.1.1.ra.map n7),.ne 74 4 (y.1.1.cp.map (r4 104 76)),.v (.string y.1.2.d),.v (.string y.1.2.p),.v (.int .i64 y.1.2.n),.v (.string y.2)]) (λy=>[]):=by
 have h:okC 0 (⟨l,0,0⟩:Cur):=⟨hl,Int.le_refl _,Int.le_refl _⟩
 refine CtrX.of (n:=42) (k:=0) G Tryz.func13 Z Y Z Z Z Z (λ_=>Z) Z Z (λw0 _ hpin=>?_)
 refine c6 (λK1 hK1=>?_)
 refine b7 (a7 Z (d6 G 1 Z Z Z Z Z (a7 Z (b5 Z Z (b9 Z Z) (b4 (hK1 _ ?_))))))
 clear hK1 K1
 refine b8p (t:=0) Z (λy=>?_)
 refine c6 (λK2 hK2=>?_)
 refine b7 (a7 Z (b5 Z Z (b8 Z Z) (a7 Z (b5 Z Z (w3 G Z Z Z Z) (a7 Z (B1 2 Z Z Z Z Z Z Z (a7 Z (b5 Z Z (b9 Z Z) (b4 (hK2 _ ?_))))))))))
 clear hK2 K2
 refine a9C (id:=1) Z ?_
 refine c6 (λK3 hK3=>?_)
 refine b7 (a7 Z (b5 Z Z (b8 Z Z) (a7 Z ?_)))
 refine d1 6 [1] Z Z Z (a44 h J) Z (RowsIn.cons Z RowsIn.nil) Z (λ_=>Z) Z (λx1 ⟨hv1,hc1⟩=>?_)
 have hcm:=hv1.cp
 refine a7 Z (d6 G 7 Z Z Z Z Z (a7 Z (e9 G Z Z Z Z Z Z Z Z Z Z Z (b4 (hK3 _ ?_)))))
 clear hK3 K3
 refine c6 (λK4 hK4=>?_)
 refine c6 (λK5 hK5=>?_)
 refine b7 (a7 Z (b5 Z Z (b8 Z Z) (a7 Z ?_)))
 refine d1 7 [1] Z Z Z (a26 hc1 J (40)) Z (RowsIn.cons Z RowsIn.nil) Z (λ_=>Z) Z (λx2 ⟨hv2,hc2⟩=>?_)
 refine b4 (hK5 _ ?_)
 clear hK5 K5
 refine l4 Z (λh1=>?_) (λh1=>?_)
 ·try rw [h1]
  try simp only [rfb] at h1
  refine c6 (λK6 hK6=>?_)
  refine b7 (a7 Z (b5 Z Z (w3 G Z Z Z Z) (a7 Z (d6 G 8 Z Z Z Z Z (a7 Z (e9 G Z Z Z Z Z Z Z Z Z Z Z (b4 (hK6 _ ?_))))))))
  clear hK6 K6
  refine c6 (λK7 hK7=>?_)
  refine c6 (λK8 hK8=>?_)
  refine b7 (a7 Z (b5 Z Z (b8 Z Z) (a7 Z ?_)))
  refine d1 8 [1] Z Z Z (p7 hc2 J (2)) Z (RowsIn.cons Z RowsIn.nil) Z (λ_=>Z) Z (λx3 ⟨hv3,hc3⟩=>?_)
  refine a7 Z ?_
  first | refine b5 Z Z (r3 Z Z Z Z J J) ?_ | refine b5 Z Z (t7 Z Z Z Z) ?_
  refine a7 Z (b5 Z Z (b9 Z Z) (b4 (hK8 _ ?_)))
  clear hK8 K8
  refine r9 ?_
  refine g9 [2,4,5,6] [0,1,2,3,4,5,6] (λ(u:Nat×Lg)=>[(7,.v (.int .i64 (59+x3.1 - u.1)))]) (λ(u:Nat×Lg)=>[(7,some (.box [.v (.string u.2.d),.v (.string u.2.p),.v (.int .i64 u.2.n)]))]) (λ(u:Nat×Lg)=>(u.1:Int)<=59+x3.1/\u.2.d.size+u.2.p.size<=1048576) (λ(u:Nat×Lg)=>(59+x3.1).toNat - u.1) (0,lg0) Z Z ?_ ?_ ?_ ?_
  ·exact ⟨by show (0:Int)<=59+x3.1;omega,(Nat.zero_le 1048576:lg0.d.size+lg0.p.size<=1048576)⟩
  ·exact b0K
  ·exact a1M
  ·intro u hinv
   obtain ⟨hu1,hu2⟩:=hinv
   simp only [List.cons_append,List.nil_append]
   refine c6 (λK9 hK9=>?_)
   refine c6 (λK10 hK10=>?_)
   refine b7 (a7 Z (b5 Z Z (b8 Z Z) (a7 Z (b5 Z Z (w4 Z Z Z Z) (b4 (hK10 _ ?_))))))
   clear hK10 K10
   refine l4 Z (λh2=>?_) (λh2=>?_)
   ·try rw [h2]
    try simp only [rfb] at h2
    refine r8 (hK9 _ ?_)
    clear hK9 K9
    refine c6 (λK11 hK11=>?_)
    refine r9 (b7 (a7 Z (b5 Z Z (c1 G Z Z Z Z Z Z) (a7 Z (b5 Z Z (w3 G Z Z Z Z) (a7 Z (b5 Z Z (i7 Z (ArgsOK.of Z) (t8 u.2 (⟨⟨#[120]⟩,⟨#[]⟩⟩:Rec) hu2 (by decide)) Z) (a7 Z (b5 Z Z (b8 Z Z) (a7 Z (b5 Z Z (f9 Z Z Z) (a7 Z (b5 Z Z (f9 Z Z Z) (a7 Z (e9 G Z Z Z Z Z Z Z Z Z Z Z (b4 (hK11 _ ?_)))))))))))))))))
    clear hK11 K11
    refine b7 (a7 Z (b5 Z Z (b8 Z Z) (a7 Z ?_)))
    first | refine b5 Z Z (r3 Z Z Z Z J J) ?_ | refine b5 Z Z (t7 Z Z Z Z) ?_
    refine a7 Z (b5 Z Z (b9 Z Z) ?_)
    refine b4 ⟨(u.1+1,apE u.2 (⟨⟨#[120]⟩,⟨#[]⟩⟩:Rec)),?_,?_,⟨⟨_,Z,by (first | rfl | exact congrArg (λv=>AV.v (.int .i64 v)) (by show 59+x3.1 - (u.1:Int) - 1=59+x3.1 - ((u.1+1:Nat):Int);omega))⟩,Z,trivial⟩,⟨⟨_,Z,by rfl⟩,Z,Z,trivial⟩,Z,Z,Z⟩
    ·exact ⟨by show ((u.1+1:Nat):Int)<=59+x3.1;omega,c3d hu2⟩
    ·(show (59+x3.1).toNat - (u.1+1) < (59+x3.1).toNat - u.1;omega)
   ·try rw [h2]
    try simp only [rfb] at h2
    refine R5 (hK7 _ ?_)
    clear hK9 K9 hK7 K7
    refine b7 (a7 Z (b5 Z Z (c1 G Z Z Z Z Z Z) (a7 Z (b5 Z Z (d5 G Z Z Z Z) (a7 Z (e9 G Z Z Z Z Z Z Z Z Z Z Z (b4 (hK4 _ ?_))))))))
    clear hK4 K4
    refine c6 (λK12 hK12=>?_)
    refine b7 (a7 Z (b5 Z Z (b8 Z Z) (a7 Z (b5 Z Z (c1 G Z Z Z Z Z Z) (a7 Z ?_)))))
    refine d1 8 [1,2,3,4,5] Z Z Z (D8 hc3 J x1.1.1 u.2 (by assumption)) Z (RowsIn.cons Z (RowsIn.cons Z (RowsIn.cons Z (RowsIn.cons Z (RowsIn.cons Z RowsIn.nil))))) Z (λ_=>Z) Z (λx4 ⟨hv4,hc4⟩=>?_)
    refine a7 Z (b5 Z Z (b9 Z Z) (b4 (hK12 _ ?_)))
    clear hK12 K12
    refine c6 (λK13 hK13=>?_)
    refine c6 (λK14 hK14=>?_)
    refine b7 (a7 Z (b5 Z Z (b8 Z Z) (a7 Z ?_)))
    refine d1 8 [1] Z Z Z (a26 hc4 J (8)) Z (RowsIn.cons Z RowsIn.nil) Z (λ_=>Z) Z (λx5 ⟨hv5,hc5⟩=>?_)
    refine b4 (hK14 _ ?_)
    clear hK14 K14
    refine l4 Z (λh3=>?_) (λh3=>?_)
    ·try rw [h3]
     try simp only [rfb] at h3
     refine b7 (a7 Z (b5 Z Z (b8 Z Z) (a7 Z (b5 Z Z (b8 Z Z) (a7 Z ?_)))))
     refine d1 8 [1] Z Z Z (N6 hc5 J x4.1 ⟨#[32,48,49,97,64,35,44]⟩ J (by decide)) Z (RowsIn.cons Z RowsIn.nil) Z (λ_=>Z) Z (λx6 ⟨hv6,hc6⟩=>?_)
     refine a7 Z (b5 Z Z (b9 Z Z) (b4 (hK13 _ ?_)))
     clear hK13 K13
     refine c6 (λK15 hK15=>?_)
     refine b7 (a7 Z (b5 Z Z (c1 G Z Z Z Z Z Z) (a7 Z (b5 Z Z (b8 Z Z) (a7 Z (e9 G Z Z Z Z Z Z Z Z Z Z Z (a7 Z (b5 Z Z (b9 Z Z) (b4 (hK15 _ ?_))))))))))
     clear hK15 K15
     refine d8 (z8 (((x1.1.1,u.2),x6.1)) (u6 Z Z Z Z (b3 (c7 Z ?_) (b3 (c7 Z ?_) (b3 (c7 Z ?_) (b3 (A1 Z ?_) (b3 (j4 ?_) (b3 (j4 ?_) (b3 (j4 ?_) (b3 (j4 ?_) d9)))))))) Z AftOK.nil) (⟨?_,?_⟩))
     all_goals (first | rfl | trivial | assumption | exact ⟨hv1,by dsimp only;omega⟩ | exact ⟨⟨hv1.m,hu2⟩,by dsimp only;omega⟩)
    ·try rw [h3]
     try simp only [rfb] at h3
     refine r8 (hK13 _ ?_)
     clear hK13 K13
     refine c6 (λK16 hK16=>?_)
     refine b7 (a7 Z (b5 Z Z (c1 G Z Z Z Z Z Z) (a7 Z (b5 Z Z (b8 Z Z) (a7 Z (e9 G Z Z Z Z Z Z Z Z Z Z Z (a7 Z (b5 Z Z (b9 Z Z) (b4 (hK16 _ ?_))))))))))
     clear hK16 K16
     refine d8 (z8 (((x1.1.1,u.2),x4.1)) (u6 Z Z Z Z (b3 (c7 Z ?_) (b3 (c7 Z ?_) (b3 (c7 Z ?_) (b3 (A1 Z ?_) (b3 (j4 ?_) (b3 (j4 ?_) (b3 (j4 ?_) (b3 (j4 ?_) d9)))))))) Z AftOK.nil) (⟨?_,?_⟩))
     all_goals (first | rfl | trivial | assumption | exact ⟨hv1,by dsimp only;omega⟩ | exact ⟨⟨hv1.m,hu2⟩,by dsimp only;omega⟩)
 ·try rw [h1]
  try simp only [rfb] at h1
  refine r8 (hK4 _ ?_)
  clear hK4 K4
  refine c6 (λK17 hK17=>?_)
  refine b7 (a7 Z (b5 Z Z (b8 Z Z) (a7 Z (b5 Z Z (c1 G Z Z Z Z Z Z) (a7 Z ?_)))))
  refine d1 7 [1,2,3,4,5] Z Z Z (D8 hc2 J x1.1.1 x1.1.2 (by assumption)) Z (RowsIn.cons Z (RowsIn.cons Z (RowsIn.cons Z (RowsIn.cons Z (RowsIn.cons Z RowsIn.nil))))) Z (λ_=>Z) Z (λx7 ⟨hv7,hc7⟩=>?_)
  refine a7 Z (b5 Z Z (b9 Z Z) (b4 (hK17 _ ?_)))
  clear hK17 K17
  refine c6 (λK18 hK18=>?_)
  refine c6 (λK19 hK19=>?_)
  refine b7 (a7 Z (b5 Z Z (b8 Z Z) (a7 Z ?_)))
  refine d1 7 [1] Z Z Z (a26 hc7 J (8)) Z (RowsIn.cons Z RowsIn.nil) Z (λ_=>Z) Z (λx8 ⟨hv8,hc8⟩=>?_)
  refine b4 (hK19 _ ?_)
  clear hK19 K19
  refine l4 Z (λh4=>?_) (λh4=>?_)
  ·try rw [h4]
   try simp only [rfb] at h4
   refine b7 (a7 Z (b5 Z Z (b8 Z Z) (a7 Z (b5 Z Z (b8 Z Z) (a7 Z ?_)))))
   refine d1 7 [1] Z Z Z (N6 hc8 J x7.1 ⟨#[32,48,49,97,64,35,44]⟩ J (by decide)) Z (RowsIn.cons Z RowsIn.nil) Z (λ_=>Z) Z (λx9 ⟨hv9,hc9⟩=>?_)
   refine a7 Z (b5 Z Z (b9 Z Z) (b4 (hK18 _ ?_)))
   clear hK18 K18
   refine c6 (λK20 hK20=>?_)
   refine b7 (a7 Z (b5 Z Z (c1 G Z Z Z Z Z Z) (a7 Z (b5 Z Z (b8 Z Z) (a7 Z (e9 G Z Z Z Z Z Z Z Z Z Z Z (a7 Z (b5 Z Z (b9 Z Z) (b4 (hK20 _ ?_))))))))))
   clear hK20 K20
   refine d8 (z8 ((x1.1,x9.1)) (u6 Z Z Z Z (b3 (c7 Z ?_) (b3 (c7 Z ?_) (b3 (c7 Z ?_) (b3 (A1 Z ?_) (b3 (j4 ?_) (b3 (j4 ?_) (b3 (j4 ?_) (b3 (j4 ?_) d9)))))))) Z AftOK.nil) (⟨?_,?_⟩))
   all_goals (first | rfl | trivial | assumption | exact ⟨hv1,by dsimp only;omega⟩ | exact ⟨⟨hv1.m,hu2⟩,by dsimp only;omega⟩)
  ·try rw [h4]
   try simp only [rfb] at h4
   refine r8 (hK18 _ ?_)
   clear hK18 K18
   refine c6 (λK21 hK21=>?_)
   refine b7 (a7 Z (b5 Z Z (c1 G Z Z Z Z Z Z) (a7 Z (b5 Z Z (b8 Z Z) (a7 Z (e9 G Z Z Z Z Z Z Z Z Z Z Z (a7 Z (b5 Z Z (b9 Z Z) (b4 (hK21 _ ?_))))))))))
   clear hK21 K21
   refine d8 (z8 ((x1.1,x7.1)) (u6 Z Z Z Z (b3 (c7 Z ?_) (b3 (c7 Z ?_) (b3 (c7 Z ?_) (b3 (A1 Z ?_) (b3 (j4 ?_) (b3 (j4 ?_) (b3 (j4 ?_) (b3 (j4 ?_) d9)))))))) Z AftOK.nil) (⟨?_,?_⟩))
   all_goals (first | rfl | trivial | assumption | exact ⟨hv1,by dsimp only;omega⟩ | exact ⟨⟨hv1.m,hu2⟩,by dsimp only;omega⟩)
theorem b0Y:J5 Tryz.prog 30 [.str,.str,.int .i64]=true:=by kernel_rfl
theorem b0Z:J5 Tryz.prog 76 [.int .i64,.int .i64]=true:=by kernel_rfl
theorem a9v:J5 Tryz.prog 104 [.int .i64,.int .i64,.int .i64]=true:=by kernel_rfl
theorem a9w:J5 Tryz.prog 132 [.int .i64,.int .i64]=true:=by kernel_rfl
theorem b4V (l:List Int) (hl:l.length<=9223372036854775807):Ctr Tryz.prog 6 [.lst 1 (l.map B7)] (.one (.v (.bool (decide (65536 < l.length))))):=by
 refine Ctr.of (n:=6) G Tryz.func6 Z a8 Z Z Z (λw0=>?_)
 refine zf1 ?_
 all_goals (first | rfl | (simp;done) | (simp;omega))
theorem b3B (xs ys:List Int) (he:xs=ys) (hn:xs.length<=9223372036854775807):Ctr Tryz.prog 129 [.lst 1 (xs.map Rf.r5),.lst 1 (ys.map Rf.r5)] (.one (.v (.bool true))):=by
 subst he
 refine Ctr.of (n:=26) G Tryz.func129 Z a8 Z Z Z (λw0=>?_)
 refine c0v ?_
 refine zgn ?_
 refine r9 (g9 [0,1] [] (λ(i:Nat)=>[(5,.v (.int .i64 (i:Int)))]) (λ(i:Nat)=>[]) (λ(i:Nat)=>i<=xs.length) (λ(i:Nat)=>xs.length - i) 0 Z Z ?_ ?_ ?_ ?_)
 ·exact R3
 ·exact B0
 ·exact trivial
 intro i hinv
 refine vm2 ?_
 refine zgn ?_
 refine l4 Z (λh1=>?_) (λh1=>?_)
 ·try rw [h1]
  try simp only [rfb] at h1
  refine b72 ?_
  refine l2 Z Z (a2C (v':=.bool false) (w4 Z Z Z Z) b4H) ?_
  exact b2n
 try rw [h1]
 try simp only [rfb] at h1
 refine zgn ?_
 refine a6o ?_
 all_goals (rfl)
theorem a5X (xs ys:List Bool) (he:xs=ys) (hn:xs.length<=9223372036854775807):Ctr Tryz.prog 87 [.lst 1 (xs.map n7),.lst 1 (ys.map n7)] (.one (.v (.bool true))):=by
 subst he
 refine Ctr.of (n:=26) G Tryz.func87 Z a8 Z Z Z (λw0=>?_)
 refine c0v ?_
 refine zgn ?_
 refine r9 (g9 [0,1] [] (λ(i:Nat)=>[(5,.v (.int .i64 (i:Int)))]) (λ(i:Nat)=>[]) (λ(i:Nat)=>i<=xs.length) (λ(i:Nat)=>xs.length - i) 0 Z Z ?_ ?_ ?_ ?_)
 ·exact R3
 ·exact B0
 ·exact trivial
 intro i hinv
 refine vm2 ?_
 refine zgn ?_
 refine l4 Z (λh1=>?_) (λh1=>?_)
 ·try rw [h1]
  try simp only [rfb] at h1
  refine b72 ?_
  refine l2 Z Z (a2C (v':=.bool false) (c2N (G 4 _ Z).1 Z Z Z) b4H) ?_
  exact b2n
 try rw [h1]
 try simp only [rfb] at h1
 refine zgn ?_
 refine a6o ?_
 all_goals (rfl)
theorem b00 (xs ys:List Route) (he:xs=ys) (hn:xs.length<=9223372036854775807):Ctr Tryz.prog 86 [.lst 2 (xs.map p8),.lst 2 (ys.map p8)] (.one (.v (.bool true))):=by
 subst he
 refine Ctr.of (n:=26) G Tryz.func86 Z a8 Z Z Z (λw0=>?_)
 refine c0v ?_
 refine zgn ?_
 refine r9 (g9 [0,1] [] (λ(i:Nat)=>[(5,.v (.int .i64 (i:Int)))]) (λ(i:Nat)=>[]) (λ(i:Nat)=>i<=xs.length) (λ(i:Nat)=>xs.length - i) 0 Z Z ?_ ?_ ?_ ?_)
 ·exact R3
 ·exact B0
 ·exact trivial
 intro i hinv
 refine vm2 ?_
 refine zgn ?_
 refine l4 Z (λh1=>?_) (λh1=>?_)
 ·try rw [h1]
  try simp only [rfb] at h1
  refine b72 ?_
  refine l2 Z Z (a2C (v':=.bool false) (b3U [.int .i64,.int .i64] Z Z Z Z Z Z Z (.inl Z) (.inl Z) a9w ⟨_,_,Z,⟨_,Z⟩,_,_,Z,⟨_,Z⟩,Z⟩ ⟨_,_,Z,⟨_,Z⟩,_,_,Z,⟨_,Z⟩,Z⟩) b4H) ?_
  exact b2n
 try rw [h1]
 try simp only [rfb] at h1
 refine zgn ?_
 refine a6o ?_
 all_goals (rfl)
theorem b1m (xs ys:List Slot) (he:xs=ys) (hn:xs.length<=9223372036854775807):Ctr Tryz.prog 187 [.lst 3 (xs.map g8),.lst 3 (ys.map g8)] (.one (.v (.bool true))):=by
 subst he
 refine Ctr.of (n:=26) G Tryz.func187 Z a8 Z Z Z (λw0=>?_)
 refine c0v ?_
 refine zgn ?_
 refine r9 (g9 [0,1] [] (λ(i:Nat)=>[(5,.v (.int .i64 (i:Int)))]) (λ(i:Nat)=>[]) (λ(i:Nat)=>i<=xs.length) (λ(i:Nat)=>xs.length - i) 0 Z Z ?_ ?_ ?_ ?_)
 ·exact R3
 ·exact B0
 ·exact trivial
 intro i hinv
 refine vm2 ?_
 refine zgn ?_
 refine l4 Z (λh1=>?_) (λh1=>?_)
 ·try rw [h1]
  try simp only [rfb] at h1
  refine b72 ?_
  refine l2 Z Z (a2C (v':=.bool false) (b3U [.int .i64,.int .i64,.int .i64] Z Z Z Z Z Z Z (.inl Z) (.inl Z) a9v ⟨_,_,Z,⟨_,Z⟩,_,_,Z,⟨_,Z⟩,_,_,Z,⟨_,Z⟩,Z⟩ ⟨_,_,Z,⟨_,Z⟩,_,_,Z,⟨_,Z⟩,_,_,Z,⟨_,Z⟩,Z⟩) b4H) ?_
  exact b2n
 try rw [h1]
 try simp only [rfb] at h1
 refine zgn ?_
 refine a6o ?_
 all_goals (rfl)
theorem a9x (xs ys:List Wtr) (he:xs=ys) (hn:xs.length<=9223372036854775807):Ctr Tryz.prog 188 [.lst 2 (xs.map j6),.lst 2 (ys.map j6)] (.one (.v (.bool true))):=by
 subst he
 refine Ctr.of (n:=26) G Tryz.func188 Z a8 Z Z Z (λw0=>?_)
 refine c0v ?_
 refine zgn ?_
 refine r9 (g9 [0,1] [] (λ(i:Nat)=>[(5,.v (.int .i64 (i:Int)))]) (λ(i:Nat)=>[]) (λ(i:Nat)=>i<=xs.length) (λ(i:Nat)=>xs.length - i) 0 Z Z ?_ ?_ ?_ ?_)
 ·exact R3
 ·exact B0
 ·exact trivial
 intro i hinv
 refine vm2 ?_
 refine zgn ?_
 refine l4 Z (λh1=>?_) (λh1=>?_)
 ·try rw [h1]
  try simp only [rfb] at h1
  refine b72 ?_
  refine l2 Z Z (a2C (v':=.bool false) (b3U [.int .i64,.int .i64] Z Z Z Z Z Z Z (.inl Z) (.inl Z) b0Z ⟨_,_,Z,⟨_,Z⟩,_,_,Z,⟨_,Z⟩,Z⟩ ⟨_,_,Z,⟨_,Z⟩,_,_,Z,⟨_,Z⟩,Z⟩) b4H) ?_
  exact b2n
 try rw [h1]
 try simp only [rfb] at h1
 refine zgn ?_
 refine a6o ?_
 all_goals (rfl)
theorem b1n (q r:Que) (he:q=r) (h1:q.sl.length<=9223372036854775807) (h2:q.wa.length<=9223372036854775807):Ctr Tryz.prog 130 [.agg [.lst 3 (q.sl.map g8),.lst 2 (q.wa.map j6)],.agg [.lst 3 (r.sl.map g8),.lst 2 (r.wa.map j6)]] (.one (.v (.bool true))):=by
 subst he
 refine Ctr.of (n:=17) G Tryz.func130 Z a8 Z Z Z (λw0=>?_)
 refine m7 0 Z (λ_=>Z) (λu0=>?_)
 refine m7 1 Z (λ_=>Z) (λu1=>?_)
 refine vm1 ?_
 refine b5W ?_
 refine zcl (b1m _ _ Z h1) ?_
 refine zcl (a9x _ _ Z h2) ?_
 exact a8Y
theorem b3C (x y:Ifc) (he:x=y) (hb:BigI x):Ctr Tryz.prog 88 [.agg [.v (.int .i64 x.ma),.lst 1 (x.st.map Rf.r5),.lst 3 (x.qu.sl.map g8),.lst 2 (x.qu.wa.map j6)],.agg [.v (.int .i64 y.ma),.lst 1 (y.st.map Rf.r5),.lst 3 (y.qu.sl.map g8),.lst 2 (y.qu.wa.map j6)]] (.one (.v (.bool true))):=by
 subst he
 refine Ctr.of (n:=24) G Tryz.func88 Z a8 Z Z Z (λw0=>?_)
 refine m7 0 Z (λ_=>Z) (λu0=>?_)
 refine m7 1 Z (λ_=>Z) (λu1=>?_)
 refine s5 ?_
 refine b1b ?_
 refine b5W ?_
 refine zgn ?_
 refine a33 ?_
 iterate 4 refine zst ?_
 refine p6 ?_
 refine b5 Z Z (a2C (v':=.bool true) (w4 Z Z Z Z) c0s) ?_
 iterate 5 refine zst ?_
 refine W8 ?_
 refine b5 Z Z (i7 Z (ArgsOK.of Z) (b3B _ _ Z hb.st) Z) ?_
 iterate 6 refine zst ?_
 refine W8 ?_
 refine b5 Z Z (i7 Z (ArgsOK.of Z) (b1n x.qu _ Z hb.sl hb.wa) Z) ?_
 refine zgn ?_
 exact b4P
theorem a9y (x y:Mach) (he:x=y) (hb:BigM x):Ctr Tryz.prog 49 [.agg [.lst 2 (x.rs.map p8),.lst 1 (x.en.map n7),.lst 1 (x.ra.map n7),.nst none 4 (x.cp.map (r4 104 76))],.agg [.lst 2 (y.rs.map p8),.lst 1 (y.en.map n7),.lst 1 (y.ra.map n7),.nst none 4 (y.cp.map (r4 104 76))]] (.one (.v (.bool true))):=by
 subst he
 have hb4:=hb.cp
 refine Ctr.of (n:=56) G Tryz.func49 Z a8 Z Z Z (λw0=>?_)
 refine m7 0 Z (λ_=>Z) (λu0=>?_)
 refine m7 1 Z (λ_=>Z) (λu1=>?_)
 refine s5 ?_
 refine b1b ?_
 refine b5W ?_
 refine zgn ?_
 refine s5 ?_
 refine a33 ?_
 iterate 4 refine zst ?_
 refine p6 ?_
 refine b5 Z Z (i7 Z (ArgsOK.of Z) (b00 _ _ Z hb.rs) Z) ?_
 iterate 6 refine zst ?_
 refine W8 ?_
 refine b5 Z Z (i7 Z (ArgsOK.of Z) (a5X _ _ Z hb.en) Z) ?_
 iterate 7 refine zst ?_
 refine W8 ?_
 refine b5 Z Z (i7 Z (ArgsOK.of Z) (a5X _ _ Z hb.ra) Z) ?_
 iterate 9 refine zst ?_
 refine W8 ?_
 refine b5 Z Z (a2C (v':=.bool false) (w4 Z Z Z Z) c0s) ?_
 refine zgn ?_
 refine a0Y Z ?_
 refine zgn ?_
 refine zgn ?_
 refine r9 (g9 [2,3] [0,1] (λ(i:Nat)=>[(5,.v (.int .i64 (i:Int)))]) (λ(i:Nat)=>[]) (λ(i:Nat)=>i<=x.cp.length) (λ(i:Nat)=>x.cp.length - i) 0 Z Z ?_ ?_ ?_ ?_)
 ·exact R3
 ·exact B0
 ·exact trivial
 intro i hinv
 refine vm2 ?_
 refine zgn ?_
 refine l4 Z (λh1=>?_) (λh1=>?_)
 ·try rw [h1]
  try simp only [rfb] at h1
  refine zgn ?_
  refine s5 (r9 ?_)
  refine c0x ?_
  iterate 10 refine zst ?_
  refine d4 Z (l2 Z Z (i7 Z (ArgsOK.of Z) (b3C _ _ Z (hb.all i J)) Z) ?_)
  exact b2n
 try rw [h1]
 try simp only [rfb] at h1
 refine zgn ?_
 refine a6o ?_
 all_goals (rfl)
theorem a3Z (m w:Mach) (lg kg:Lg) (he:m=w) (hg:lg=kg) (hb:BigM m):Ctr Tryz.prog 16 [.agg [.lst 2 (m.rs.map p8),.lst 1 (m.en.map n7),.lst 1 (m.ra.map n7),.nst none 4 (m.cp.map (r4 104 76)),.v (.string lg.d),.v (.string lg.p),.v (.int .i64 lg.n)],.agg [.lst 2 (w.rs.map p8),.lst 1 (w.en.map n7),.lst 1 (w.ra.map n7),.nst none 4 (w.cp.map (r4 104 76)),.v (.string kg.d),.v (.string kg.p),.v (.int .i64 kg.n)]] (.one (.v (.bool true))):=by
 subst he
 subst hg
 refine Ctr.of (n:=17) G Tryz.func16 Z Y Z Z Z (λw0=>?_)
 refine m7 0 Z (λ_=>Z) (λu0=>?_)
 refine m7 1 Z (λ_=>Z) (λu1=>?_)
 refine c6 (λK1 hK1=>?_)
 refine b7 (a7 Z (B1 1 Z Z Z Z Z Z Z (a7 Z (B1 2 Z Z Z Z Z Z Z (a7 Z (b5 Z Z (b9 Z Z) (b4 (hK1 _ ?_))))))))
 clear hK1 K1
 refine c6 (λK2 hK2=>?_)
 refine b7 (a7 Z (b5 Z Z (d5 G Z Z Z Z) (a7 Z (b5 Z Z (c1 G Z Z Z Z Z Z) (a7 Z (b5 Z Z (d5 G Z Z Z Z) (a7 Z (b5 Z Z (c1 G Z Z Z Z Z Z) (a7 Z (b5 Z Z (i7 Z (ArgsOK.of Z) (a9y _ _ Z hb) Z) (a7 Z (b5 Z Z (b8 Z Z) (l7 Z Z Z (b5 Z Z (d5 G Z Z Z Z) (l7 Z Z Z (b5 Z Z (c1 G Z Z Z Z Z Z) (l7 Z Z Z (b5 Z Z (d5 G Z Z Z Z) (l7 Z Z Z (b5 Z Z (c1 G Z Z Z Z Z Z) (l7 Z Z Z (b5 Z Z (a2C (v':=.bool true) (b56 [.str,.str,.int .i64] Z Z Z Z Z Z Z (.inl Z) (.inl Z) b0Y ⟨_,_,Z,⟨_,Z⟩,_,_,Z,⟨_,Z⟩,_,_,Z,⟨_,Z⟩,Z⟩ ⟨_,_,Z,⟨_,Z⟩,_,_,Z,⟨_,Z⟩,_,_,Z,⟨_,Z⟩,Z⟩) (by first | rfl | (simp;done) | (simp [B3,X2];done))) (a7 Z (b5 Z Z (u9 Z Z Z) (a7 Z (b5 Z Z (b9 Z Z) (b4 (hK2 _ ?_))))))))))))))))))))))))))))
 clear hK2 K2
 exact b4P
theorem a38 (m:Mach) (x:Lg) (s:ByteArray) (hs:SmallM m) (hx:x.d.size+x.p.size<=1048576) (hz:s.size<=1048576):Ctr Tryz.prog 14 [.agg [.lst 2 (m.rs.map p8),.lst 1 (m.en.map n7),.lst 1 (m.ra.map n7),.nst none 4 (m.cp.map (r4 104 76)),.v (.string x.d),.v (.string x.p),.v (.int .i64 x.n)],.v (.string s)] (.shp false [some 7,none] [.fr 132 2 ((exC m x s).1.rs.map p8),.fr 4 1 ((exC m x s).1.en.map n7),.fr 4 1 ((exC m x s).1.ra.map n7),.ne 74 4 ((exC m x s).1.cp.map (a3I 104 76)),.v (.string (exC m x s).2.1.d),.v (.string (exC m x s).2.1.p),.v (.int .i64 (exC m x s).2.1.n),.v (.string (exC m x s).2.2)]):=by
 refine Ctr.of (n:=53) G Tryz.func14 Z Y Z Z Z (λw0=>?_)
 refine m7 0 Z (λ_=>Z) (λu0=>?_)
 refine zgo ?_
 refine a7 Z (B1 1 Z Z Z Z Z Z Z (a7 Z (d6 G 2 Z Z Z Z Z ?_)))
 refine zcl (N9 m x hs hx) ?_
 refine zcd (λh1=>?_) (λh1=>?_)
 ·have hO:=b92 (s:=s) h1
  exact c0R
 obtain ⟨hM,hLg⟩:=b3d h1
 refine zgo ?_
 refine a7 Z (b5 Z Z (i7 Z (ArgsOK.of Z) (P9 ⟨s,⟨#[]⟩⟩ ⟨by show s.size<=_;omega,P7 (by decide)⟩) Z) ?_)
 refine zcd (λh2=>?_) (λh2=>?_)
 ·have hO:=b93 h1 h2
  exact c0R
 refine zcd (λh3=>?_) (λh3=>?_)
 ·have hO:=b94 h1 h2 h3
  exact c0R
 refine zgo ?_
 refine a7 Z (d3 6 Z Z Z (ArgsOK.of Z) (Ctr.shpTo (a19 m x hs hx) (.cons .s (.cons .s (.cons .s (.cons (.n flM) (.cons .s (.cons .s (.cons .s .nil)))))))) Z Z (a7 Z (d6 G 7 Z Z Z Z Z ?_)))
 refine zgo ?_
 refine a7 Z (a17 (n:=88) G Z Z Z Tryz.func44 Z Y Z Z Z Z ?_)
 intro b hen hpin
 have hwn:1<=(j7 s 32).length/\(j7 s 32).length<=s.size+1:=a0e
 have hml:((j7 s 32).map a4r).length=(j7 s 32).length:=List.length_map _
 refine zgo ?_
 refine a7 Z (d3 8 Z Z Z (ArgsOK.of Z) (b8e s hz) Z Z ?_)
 refine zgo ?_
 refine a7 Z ?_
 first | refine b5 Z Z (c8 G Z Z Z Z Z J (by rw [List.length_map];omega)) ?_ | refine b5 Z Z (c8 G Z Z Z Z Z J J) ?_
 refine a7 Z ?_
 first | refine b5 Z Z (j9 G Z Z Z Z Z (c15 J) Z) ?_ | refine b5 Z Z (j9 G Z Z Z Z Z (B6 J J) Z) ?_
 refine zcl (a6x (wrd s 0)) ?_
 refine zcd (λh101=>?_) (λh101=>?_)
 ·refine zgo ?_
  refine d8 ⟨.inr Z,_,Z,Z,?_⟩
  have hO:=O5 h1 h2 h3 (a6m (b9Y h101))
  refine zwt ?_
  exact b2m
 refine zgo ?_
 refine a7 Z (o8 G 9 Z Z Z Z Z Z Z Z ?_)
 refine zgo ?_
 refine a7 Z (b5 Z Z (a5a G Z Z Z Z Z Z J (by first | omega | (simp;done) | (simp;omega)) (by first | omega | (simp;done) | (simp;omega))) ?_)
 refine zgo ?_
 refine g9 [0,6,29,30] [0,1,2,3,4,5,6,7] (λ(i:Nat)=>[(7,.own 8),(31,.v (.int .i64 (i:Int)))]) (λ(i:Nat)=>[(8,some (.row 3 1 ((E6 s i).map Rf.r5)))]) (λ(i:Nat)=>i<=(j7 s 32).length - 1/\∀j,j < i→nmK (wrd s (j+1))=true) (λ(i:Nat)=>(j7 s 32).length - 1 - i) 0 Z Z ?_ ?_ ?_ ?_
 ·exact S9
 ·exact Y2
 ·exact a1M
 intro i hinv
 have hnl:=@a4L s i
 simp only [List.cons_append,List.nil_append]
 refine zcd (λh102=>?_) (λh102=>?_)
 ·refine zgo ?_
  refine a7 Z (b5 Z Z (b3G G Z Z Z Z Z J J) (a7 Z ?_))
  first | refine b5 Z Z (j9 G Z Z Z Z Z (c15 J) Z) ?_ | refine b5 Z Z (j9 G Z Z Z Z Z (B6 J J) Z) ?_
  refine zcl (a9s (wrd s (i+1)) (by have:=@b9V s (i+1);omega)) ?_
  refine zcd (λh103=>?_) (λh103=>?_)
  ·refine zgo ?_
   refine d8 ⟨.inr Z,_,Z,Z,?_⟩
   have hO:=O5 h1 h2 h3 (a6m (b9Z (b9W h103 (by show i < (j7 s 32).length - 1;omega))))
   refine zwt ?_
   exact b2m
  refine zgo ?_
  refine a7 Z (o8 G 10 Z Z Z Z Z Z Z Z (a7 Z (j8 G (by rw [hpin];decide) Z Z Z Z Z Z Z Z Z (by first | (simp only [List.length_map,List.length_cons,List.length_nil];omega) | (simp;omega)) Z Z ?_)))
  exact c4a
 obtain rfl:i=(j7 s 32).length - 1:=J
 have hNK:H0 s=true:=b9X hinv.2 (Nat.le_refl _)
 have hal:a2p (m9 (wrd s 0))=(C2 s).length:=(by rw [b7V];show _=(((j7 s 32).length - 1:Nat):Int);omega)
 refine zgo ?_
 refine a7 Z ?_
 first | refine b5 Z Z (c8 G Z Z Z Z Z J (by rw [List.length_map];omega)) ?_ | refine b5 Z Z (c8 G Z Z Z Z Z J J) ?_
 refine a7 Z ?_
 first | refine b5 Z Z (j9 G Z Z Z Z Z (c15 J) Z) ?_ | refine b5 Z Z (j9 G Z Z Z Z Z (B6 J J) Z) ?_
 refine zcl (b1k (wrd s 0) (C2 s) hal) ?_
 refine zgo ?_
 refine a7 Z (d6 G 10 Z Z Z Z Z ?_)
 refine zcd (λh104=>?_) (λh104=>?_)
 ·have cA:=b3A m (wrd s 0) (C2 s) hs hM hal h104
  have hC:=b90 (m:=m) h101 hNK h104
  generalize a4K m (m9 (wrd s 0)) (C2 s)=ra at cA hC
  obtain ⟨r,ok⟩:=ra
  dsimp only at cA
  refine zgd ?_
  refine zgo ?_
  refine d4 Z (l2 Z Z (s9 Z Z) ?_)
  refine zgo ?_
  refine d4 Z ?_
  first | refine l2 Z Z (c8 G Z Z Z Z Z J (by rw [List.length_map];omega)) ?_ | refine l2 Z Z (c8 G Z Z Z Z Z J J) ?_
  refine d4 Z ?_
  first | refine l2 Z Z (j9 G Z Z Z Z Z (c15 J) Z) ?_ | refine l2 Z Z (j9 G Z Z Z Z Z (B6 J J) Z) ?_
  refine zcl (Ctr.argsTo cA (λw vs h=>c8h flM vs h)) ?_
  refine zgo ?_
  refine d8 ⟨.inr Z,_,Z,Z,?_⟩
  refine zcd (λh105=>?_) (λh105=>?_)
  ·have hO:=O5 h1 h2 h3 (a6m (hC.trans (by rw [h105])))
   exact b2m
  have hO:=O5 h1 h2 h3 (b3h (hC.trans (by rw [h105])))
  exact b2m
 have hD:=b91 (m:=m) h101 hNK h104
 have hir:=@a4M m (a0E (m9 (wrd s 0)) (C2 s)).1
 have cS:=a6A m (a0E (m9 (wrd s 0)) (C2 s)).1.k (a0E (m9 (wrd s 0)) (C2 s)).1.q (a0E (m9 (wrd s 0)) (C2 s)).1.c (a0E (m9 (wrd s 0)) (C2 s)).1.v hs
 have est:(⟨(a0E (m9 (wrd s 0)) (C2 s)).1.k,(a0E (m9 (wrd s 0)) (C2 s)).1.q,(a0E (m9 (wrd s 0)) (C2 s)).1.c,(a0E (m9 (wrd s 0)) (C2 s)).1.v⟩:MStep)=(a0E (m9 (wrd s 0)) (C2 s)).1:=rfl
 rw [est] at cS
 unfold a8U at hD
 generalize smT m (a0E (m9 (wrd s 0)) (C2 s)).1=sr at cS hD hir
 obtain ⟨m1,ir,ok⟩:=sr
 dsimp only at cS hD hir
 refine zgn ?_
 refine s5 (l1 14 [0,1,2,3,4,5,6,7,8,9] mixed Y Z Z (λr0=>?_) (λ_ h=>h))
 refine zsa 0 ?_
 refine zsa 4 ?_
 refine A4 (N:=11) Z (s7 (fuel:=11) [⟨10,14,10,true,.box (avR [.slice none 0 0,.slice none 0 0,.slice none 0 0,.slice none 0 0] [])⟩] (AllVOK.cons (VOK.boxS G Z Z Z Z Z) (AllVOK.nil)) (λhok=>?_))
 refine n6 [(1,[])] Y Y (λe he=>hok e he) Y (AllVS.cons ?_ AllVS.nil)
 refine VStep.mk0 [0,1,2,3,4,5,6,7,8,9] Z Z (λb1 _ hbn=>b5 Z Z (s9 Z Z) (b4 Z)) Y Y Y Y (v8 2 Z Y Z Z Z Z (d5 G Z Z Z Z) Y Y Y (v8 3 Z Y Z Z Z Z (c1 G Z Z Z Z Z Z) Y Y Y (n6 [(5,[])] Y Y (λe he=>hok e he) Y (AllVS.cons ?_ AllVS.nil))))
 refine VStep.mk0 [0,1,2,3,4,5,6,7,8,9] Z Z (λb1 _ hbn=>d3 15 Z Z Z (ArgsOK.of Z) (Ctr.argsTo cS (λw vs h=>c8h flM vs h)) Z Z (b4 Z)) Y Y Y Y (v8 6 Z Y Z Z Z Z (b8 Z Z) Y Y Y (v8 7 Z Y Z Z Z Z (f9 Z Z Z) Y Y Y (v8 8 Z Y Z Z Z Z (f9 Z Z Z) Y Y Y (v8 9 Z Y Z Z Z Z (f9 Z Z Z) Y Y Y (n6 [(11,[10])] Y Y (λe he=>hok e he) Y (AllVS.cons ?_ AllVS.nil))))))
 refine VStep.mk1 [0,1,2,3,4,5,6,7,8,9] 14 (.ptr 10 0) 10 (.box (avR [.slice none 0 0,.slice none 0 0,.slice none 0 0,.slice none 0 0] [])) [] Z Z Z Z Z (λb1 _ hbn=>e9 G Z Z Z Z Z Z Z Z Z Z Z (b4 Z)) Y Y Y Y (G7 ?_)
 clear hok
 refine zsa 12 ?_
 refine zsa 13 ?_
 refine E5 Y ?_
 refine znk ?_
 refine zcd (λh105=>?_) (λh105=>?_)
 ·refine zgo ?_
  refine d8 ⟨.inr Z,_,Z,Z,?_⟩
  have hO:=O5 h1 h2 h3 (a6m (hD.trans (by rw [h105];rfl)))
  refine zwt ?_
  exact b2m
 refine zgo ?_
 refine a7 Z (b5 Z Z (s9 Z Z) ?_)
 refine zcd (λh106=>?_) (λh106=>?_)
 ·refine zcl (D0 ir J J) ?_
  refine zgo ?_
  refine d8 ⟨.inr Z,_,Z,Z,?_⟩
  have hO:=O5 h1 h2 h3 (b3h (hD.trans (by rw [h105,if_pos Z,if_neg h106])))
  refine zwf ?_
  exact b2m
 refine zgo ?_
 refine d8 ⟨.inr Z,_,Z,Z,?_⟩
 have hO:=O5 h1 h2 h3 (b3h (hD.trans (by rw [h105,if_pos Z,if_pos h106])))
 refine zwf ?_
 refine zgo ?_
 refine a7 Z (b5 Z Z (q9 G Z Z Z) ?_)
 refine zcd (λh110=>?_) (λh110=>?_)
 ·try rw [b3i J] at hO
  exact c0P
 try rw [a2r J] at hO
 have hrs:=h110
 refine zgo ?_
 refine a7 Z (b5 Z Z (i7 Z (ArgsOK.of Z) (a0W x ⟨s,_⟩ hx ⟨by show s.size<=_;omega,by first | exact P7 (by decide) | exact N5 J | exact N5 (Int.ofNat_le.1 hrs)⟩) Z) ?_)
 refine zgo ?_
 refine d8 (p4 Z Z Z Z (b3 (c7 Z ?_) (b3 (c7 Z ?_) (b3 (c7 Z ?_) (b3 (A1 Z ?_) (b3 (j4 ?_) (b3 (j4 ?_) (b3 (j4 ?_) (b3 (j4 ?_) d9)))))))))
 all_goals (first | (rw [hO];done) | (rw [hO];rfl))
theorem a7U (x:Lg) (hx:x.d.size+x.p.size<=1048576):Ctr Tryz.prog 19 [.v (a97 x)] (.many [.fr 48 2 ((lrT x).map a4o),.v (.bool (okLg x))]):=by
 have hap:(x.d++x.p).size=x.d.size+x.p.size:=ByteArray.size_append
 refine Ctr.of (n:=19) G Tryz.func19 Z a8 Z Z Z (λw0=>?_)
 refine vm1 ?_
 refine zcl (Y7 _ a1A) ?_
 refine zcd (λh1=>?_) (λh1=>?_)
 ·have hO:=c95 h1
  refine zgo ?_
  refine d8 (s1 Z Z Z Z (b3 (I0 ?_) (b3 (j4 ?_) d9)))
  all_goals (first | (rw [hO.1];rfl) | (rw [hO.1];done) | (rw [hO.2];done) | (rw [hO.2];rfl))
 have hO:=c18 h1
 refine vm3 ?_
 refine b4I ?_
 refine p6 ?_
 refine d3 3 Z Z Z (ArgsOK.of Z) (a1F (x.d++x.p) J) Z Z ?_
 refine zgo ?_
 refine d8 (s1 Z Z Z Z (b3 (c7 Z ?_) (b3 (j4 ?_) d9)))
 all_goals (first | (rw [hO.1];rfl) | (rw [hO.1];done) | (rw [hO.2];done) | (rw [hO.2];rfl))
theorem a2x:J5 Tryz.prog 30 [.str,.str,.int .i64]=true:=by kernel_rfl
theorem a2y:J5 Tryz.prog 48 [.str,.str]=true:=by kernel_rfl
theorem a39 (m:Mach) (x:Lg) (hs:SmallM m) (hx:x.d.size+x.p.size<=1048576):Ctr Tryz.prog 18 [.agg [.lst 2 (m.rs.map p8),.lst 1 (m.en.map n7),.lst 1 (m.ra.map n7),.nst none 4 (m.cp.map (r4 104 76)),.v (.string x.d),.v (.string x.p),.v (.int .i64 x.n)]] (.one (.v (.bool (okCo m x)))):=by
 refine Ctr.of (n:=5) G Tryz.func18 Z a8 Z Z Z (λw0=>?_)
 refine m7 0 Z (λ_=>Z) (λu0=>?_)
 refine vm1 ?_
 refine zcl (a1K m x hs hx) ?_
 exact c0G
theorem a8D (l:List Int) (h0:l.length<=9223372036854775807) (hb:∀j,0<=l.getD j default/\l.getD j default<=255):Ctr Tryz.prog 4 [.lst 1 (l.map B7)] (.one (.v (.bool true))):=by
 refine Ctr.of (n:=98) G Tryz.func4 Z Y Z Z Z (λw0=>?_)
 refine c6 (λK1 hK1=>?_)
 refine b7 (a7 Z (b5 Z Z (b9 Z Z) (b4 (hK1 _ ?_))))
 clear hK1 K1
 refine c6 (λK2 hK2=>?_)
 refine c6 (λK3 hK3=>?_)
 refine b7 (a7 Z (b5 Z Z (b8 Z Z) (a7 Z (b5 Z Z (i7 Z (ArgsOK.of Z) (b4V _ (by first | assumption | omega)) Z) (b4 (hK3 _ ?_))))))
 clear hK3 K3
 refine l4 Z (λh1=>?_) (λh1=>?_)
 ·try rw [h1]
  try simp only [rfb] at h1
  refine c6 (λK4 hK4=>?_)
  refine b7 (a7 Z (b5 Z Z (b9 Z Z) (b4 (hK4 _ ?_))))
  clear hK4 K4
  refine d8 (O2 Z (j4 ?_))
  all_goals clear hK2 K2
  all_goals (first | rfl | (rw [hE2];rfl) | (simp_all;done))
 ·try rw [h1]
  try simp only [rfb] at h1
  have hl:X1 l:=⟨by omega,hb⟩
  refine r8 (hK2 _ ?_)
  clear hK2 K2
  refine c6 (λK5 hK5=>?_)
  refine b7 (a7 Z (b5 Z Z (b8 Z Z) (a7 Z ?_)))
  refine d1 4 [] Z Z Z (a1O l hl) Z RowsIn.nil Z (λ_=>Z) Z (λx1 ⟨hv1,hc1⟩=>?_)
  refine a7 Z (b5 Z Z (b8 Z Z) (a7 Z (b5 Z Z (f9 Z Z Z) (a7 Z (b5 Z Z (f9 Z Z Z) (a7 Z (d6 G 5 Z Z Z Z Z (a7 Z (e9 G Z Z Z Z Z Z Z Z Z Z Z (a7 Z (b5 Z Z (b9 Z Z) (b4 (hK5 _ ?_)))))))))))))
  clear hK5 K5
  refine c6 (λK6 hK6=>?_)
  refine b7 (a7 Z (b5 Z Z (c1 G Z Z Z Z Z Z) (a7 Z (b5 Z Z (b8 Z Z) (a7 Z (d3 9 Z Z Z (ArgsOK.of Z) (a38 x1.1.1 x1.1.2 x1.2 hv1.1.m hv1.1.l J) Z Z (a7 Z (b5 Z Z (b8 Z Z) (a7 Z (b5 Z Z (f9 Z Z Z) (a7 Z (b5 Z Z (f9 Z Z Z) (a7 Z (d6 G 10 Z Z Z Z Z (a7 Z (e9 G Z Z Z Z Z Z Z Z Z Z Z (a7 Z (b5 Z Z (b9 Z Z) (b4 (hK6 _ ?_))))))))))))))))))))
  clear hK6 K6
  refine c6 (λK7 hK7=>?_)
  refine b7 (a7 Z (b5 Z Z (c1 G Z Z Z Z Z Z) (a7 Z (b5 Z Z (b8 Z Z) (a7 Z (d3 14 Z Z Z (ArgsOK.of Z) (G8 x1.1.1 x1.1.2 x1.2 hv1.1.m hv1.1.l J) Z Z (a7 Z (b5 Z Z (b8 Z Z) (a7 Z (b5 Z Z (f9 Z Z Z) (a7 Z (b5 Z Z (f9 Z Z Z) (a7 Z (d6 G 15 Z Z Z Z Z (a7 Z (e9 G Z Z Z Z Z Z Z Z Z Z Z (a7 Z (b5 Z Z (b9 Z Z) (b4 (hK7 _ ?_))))))))))))))))))))
  clear hK7 K7
  refine c6 (λK8 hK8=>?_)
  refine c6 (λK9 hK9=>?_)
  refine O0 mixed Y (d4 Z (l2 Z Z (b8 Z Z) (d4 Z (l2 Z Z (b8 Z Z) (d4 Z (l2 Z Z (a2C (v':=.bool false) (w5 Z Z Z Z) (by first | rfl | (simp;done))) (d4 Z (l2 Z Z (b8 Z Z) (O8 Z Z Z (l2 Z Z (c1 G Z Z Z Z Z Z) (O8 Z Z Z (l2 Z Z (c1 G Z Z Z Z Z Z) (O8 Z Z Z (l2 Z Z (i7 Z (ArgsOK.of Z) (Ctr.argsTo (a3Z _ _ _ _ Z Z (a0n hv1.1.m hv1.1.l).1.big) (λw vs h=>c6k flM vs h)) Z) (O8 Z Z Z (l2 Z Z (b50 Z Z) (d4 Z (l2 Z Z (B4 Z Z Z) (d4 Z (l2 Z Z (b8 Z Z) (O8 Z Z Z (l2 Z Z (c1 G Z Z Z Z Z Z) (O8 Z Z Z (l2 Z Z (i7 Z (ArgsOK.of Z) (N9 x1.1.1 x1.1.2 hv1.1.m hv1.1.l) Z) (O8 Z Z Z (l2 Z Z (c1 G Z Z Z Z Z Z) (O8 Z Z Z (l2 Z Z (i7 Z (ArgsOK.of Z) (a39 x1.1.1 x1.1.2 hv1.1.m hv1.1.l) Z) (O8 Z Z Z (l2 Z Z (a2C (v':=.bool false) (c2N (G 4 _ Z).1 Z Z Z) (by first | rfl | (simp;done))) (d4 Z (l2 Z Z (B4 Z Z Z) (Z7 (hK9 _ ?_))))))))))))))))))))))))))))))))))
  clear hK9 K9
  refine a0Y Z (r8 (hK8 _ ?_))
  clear hK8 K8
  refine c6 (λK10 hK10=>?_)
  refine c6 (λK11 hK11=>?_)
  refine b7 (a7 Z (b5 Z Z (d5 G Z Z Z Z) (a7 Z (b5 Z Z (c1 G Z Z Z Z Z Z) (a7 Z (b5 Z Z (d5 G Z Z Z Z) (a7 Z (b5 Z Z (c1 G Z Z Z Z Z Z) (a7 Z (b5 Z Z (b56 [.str,.str,.int .i64] Z Z Z Z Z Z Z (.inl Z) (.inl Z) a2x ⟨_,_,Z,⟨_,Z⟩,_,_,Z,⟨_,Z⟩,_,_,Z,⟨_,Z⟩,Z⟩ ⟨_,_,Z,⟨_,Z⟩,_,_,Z,⟨_,Z⟩,_,_,Z,⟨_,Z⟩,Z⟩) (b4 (hK11 _ ?_))))))))))))
  clear hK11 K11
  refine l4 Z (λh2=>?_) (λh2=>?_)
  ·try rw [h2]
   try simp only [rfb] at h2
   rw [c3p] at h2
   have hE:=c2i h2
   refine c6 (λK12 hK12=>?_)
   refine b7 (a7 Z (b5 Z Z (c1 G Z Z Z Z Z Z) (a7 Z (b5 Z Z (c1 G Z Z Z Z Z Z) (a7 Z (b5 Z Z (i7 Z (ArgsOK.of Z) (Ctr.argsTo (a3Z _ _ _ _ hE.1.1 hE.1.2 (a0n hv1.1.m hv1.1.l).1.big) (λw vs h=>c6k flM vs h)) Z) ?_))))))
   refine a7 Z (b5 Z Z (b8 Z Z) (l7 Z Z Z (b5 Z Z (b8 Z Z) (l7 Z Z Z (b5 Z Z (w5 Z Z Z Z) (l7 Z Z Z (b5 Z Z (b8 Z Z) (B2 Z Z Z (λh3=>?_) (λh3=>?_)))))))))
   ·try rw [h3]
    try simp only [rfb] at h3
    refine l9 Z Z Z Z Z Z (l9 Z Z Z Z Z Z (l7 Z Z Z (b5 Z Z (u9 Z Z Z) (l7 Z Z Z (b5 Z Z (b8 Z Z) (l9 Z Z Z Z Z Z (l9 Z Z Z Z Z Z (l7 Z Z Z (b5 Z Z (u9 Z Z Z) (a7 Z (b5 Z Z (u9 Z Z Z) (a7 Z (b5 Z Z (b9 Z Z) ?_)))))))))))))
    exact c0J
   ·try rw [h3]
    try simp only [rfb] at h3
    refine l7 Z Z Z (b5 Z Z (b8 Z Z) (l7 Z Z Z (b5 Z Z (w5 Z Z Z Z) (l7 Z Z Z (b5 Z Z (B4 Z Z Z) (l7 Z Z Z (b5 Z Z (b8 Z Z) (B2 Z Z Z (λh4=>?_) (λh4=>?_)))))))))
    ·try rw [h4]
     try simp only [rfb] at h4
     refine l9 Z Z Z Z Z Z (l9 Z Z Z Z Z Z (l7 Z Z Z (b5 Z Z (u9 Z Z Z) (a7 Z (b5 Z Z (u9 Z Z Z) (a7 Z (b5 Z Z (b9 Z Z) ?_)))))))
     exact c0J
    ·try rw [h4]
     try simp only [rfb] at h4
     have hE2:=(hE.2.resolve_left (λe=>h3 (by rw [e]))).resolve_left (λe=>h4 (by rw [e]))
     refine l7 Z Z Z (b5 Z Z (b8 Z Z) (l7 Z Z Z (b5 Z Z (w5 Z Z Z Z) (l7 Z Z Z (b5 Z Z (B4 Z Z Z) (a7 Z (b5 Z Z (u9 Z Z Z) (a7 Z (b5 Z Z (b9 Z Z) ?_)))))))))
     exact c0J
  ·try rw [h2]
   try simp only [rfb] at h2
   rw [c3p] at h2
   have hE:=c2j h2
   have hlen:=hE.len
   have hlo:=a5v (b3d hE.co).2
   have cL:=a7U (exC x1.1.1 x1.1.2 x1.2).2.1 (a0n hv1.1.m hv1.1.l).2
   rw [hE.lg] at cL
   have hlast:(lrT (exC x1.1.1 x1.1.2 x1.2).2.1).getD (((lrT (exC x1.1.1 x1.1.2 x1.2).2.1).length:Int) - 1).toNat default=⟨x1.2,(exC x1.1.1 x1.1.2 x1.2).2.2⟩:=(by rw [show (((lrT (exC x1.1.1 x1.1.2 x1.2).2.1).length:Int) - 1).toNat=(lrT (exC x1.1.1 x1.1.2 x1.2).2.1).length - 1 by omega];exact hE.last)
   refine r8 (hK10 _ ?_)
   clear hK10 K10
   refine c6 (λK13 hK13=>?_)
   refine b7 (a7 Z (b5 Z Z (d5 G Z Z Z Z) (a7 Z (b5 Z Z (c1 G Z Z Z Z Z Z) (a7 Z (d3 16 Z Z Z (ArgsOK.of Z) cL Z Z (a7 Z (b5 Z Z (b8 Z Z) (a7 Z (b5 Z Z (f9 Z Z Z) (a7 Z (b5 Z Z (f9 Z Z Z) (a7 Z (b5 Z Z (b9 Z Z) (a7 Z (b5 Z Z (b9 Z Z) (b4 (hK13 _ ?_))))))))))))))))))
   clear hK13 K13
   refine c6 (λK14 hK14=>?_)
   refine b7 (a7 Z (b5 Z Z (b8 Z Z) (a7 Z (b5 Z Z (b8 Z Z) (l7 Z Z Z (b5 Z Z (c1 G Z Z Z Z Z Z) (l7 Z Z Z (b5 Z Z (i7 Z (ArgsOK.of Z) (Ctr.bool (Ctr.argsTo (N9 (exC x1.1.1 x1.1.2 x1.2).1 (exC x1.1.1 x1.1.2 x1.2).2.1 (a0n hv1.1.m hv1.1.l).1 (a0n hv1.1.m hv1.1.l).2) (λw vs h=>c6k flM vs h)) hE.ok) Z) (a7 Z (b5 Z Z (u9 Z Z Z) (a7 Z (b5 Z Z (b8 Z Z) (l7 Z Z Z (b5 Z Z (b8 Z Z) (l7 Z Z Z ?_)))))))))))))))
   first | refine b5 Z Z (R6 G Z Z Z Z (List.length_map _)) ?_ | refine b5 Z Z (a0T G Z Z Z Z) ?_
   refine l7 Z Z Z (b5 Z Z (d5 G Z Z Z Z) (l7 Z Z Z (b5 Z Z (d5 G Z Z Z Z) (l7 Z Z Z (b5 Z Z (i8 G Z Z Z Z Z Z Z) (l7 Z Z Z ?_))))))
   first | refine b5 Z Z (r3 Z Z Z Z J J) ?_ | refine b5 Z Z (t7 Z Z Z Z) ?_
   refine l7 Z Z Z (b5 Z Z (a2C (v':=.bool true) (w4 Z Z Z Z) (by first | (rw [hE.len];simp;done) | (rw [hlast];simp [B3,X2,a4o];done) | (simp only [hlast];simp [B3,X2];done))) (a7 Z (b5 Z Z (u9 Z Z Z) (a7 Z (b5 Z Z (b8 Z Z) (l7 Z Z Z (b5 Z Z (b8 Z Z) (l7 Z Z Z (b5 Z Z (b8 Z Z) (l7 Z Z Z ?_))))))))))
   first | refine b5 Z Z (R6 G Z Z Z Z (List.length_map _)) ?_ | refine b5 Z Z (a0T G Z Z Z Z) ?_
   refine l7 Z Z Z ?_
   first | refine b5 Z Z (r3 Z Z Z Z J J) ?_ | refine b5 Z Z (t7 Z Z Z Z) ?_
   refine l7 Z Z Z (b5 Z Z (c8 G Z Z Z Z Z J (by rw [List.length_map];omega)) (l7 Z Z Z ?_))
   first | refine b5 Z Z (f6 G Z Z Z Z (a2D J) Z) ?_ | refine b5 Z Z (f6 G Z Z Z Z (F9 J J) Z) ?_
   refine l7 Z Z Z (b5 Z Z (b8 Z Z) (l7 Z Z Z (b5 Z Z (b8 Z Z) (l7 Z Z Z (b5 Z Z (w3 G Z Z Z Z) (l7 Z Z Z (b5 Z Z (a2C (v':=.bool true) (b56 [.str,.str] Z Z Z Z Z Z Z (.inl Z) (.inl Z) a2y ⟨_,_,Z,⟨_,Z⟩,_,_,Z,⟨_,Z⟩,Z⟩ ⟨_,_,Z,⟨_,Z⟩,_,_,Z,⟨_,Z⟩,Z⟩) (by first | (rw [hE.len];simp;done) | (rw [hlast];simp [B3,X2,a4o];done) | (simp only [hlast];simp [B3,X2];done))) (a7 Z (b5 Z Z (u9 Z Z Z) (a7 Z (b5 Z Z (b9 Z Z) (b4 (hK14 _ ?_)))))))))))))
   clear hK14 K14
   refine d8 (O2 Z (j4 ?_))
   all_goals (first | rfl | (rw [hE2];rfl) | (simp_all;done))
end Go.Proofs.YtdhckhjphmjniaaGreatDoor
namespace Go.Proofs.YtdhckhjphmjniaaGreatDoor
open Go Go.ChangeShapes Go.WideShapes Go.ChangeAt Go.RowKit Go.Rf
theorem a45 {H:Type} {enc:TypeId×Value→H} {a:Assume} {C:Checked} {os:Os} {f:FuncId} {fn:Func} {s:ChangeSpec} {conds:List PathCond} {apart fresh handsOn again:Bool} {X:World→Array Value→Prop}
 (hX:∀(w w':World) (args:Array Value),w.heap=w'.heap→X w args→X w' args)
 (own:ownKnob C.prog.godebug=none) (started:os.Started) (noInit:C.prog.inits.idxOf? f=none) (hfn:C.prog.funcs[f]?=some fn)
 (witness:∃(w:World) (tape:Tape) (i:Input),w.os=os/\(w.forCall tape i).Shaped C.prog/\i.vars=[]/\Input.okWide C.prog (w.forCall tape i) .any w.heap.size f i /\
  ((s.pre enc C.prog fn conds apart (w.forCall tape i).memory i.args/\X (w.forCall tape i).memory i.args)/\sizedMet enc C.prog fn (OpenSpec.ofChange s) apart (w.forCall tape i).memory i.args)/\a.holds C.prog (lone (Frame.enter C.prog f i.args .normal) [] (w.forCall tape i)))
 (contract:∀(W:World) (base:Nat) (args:Array Value) (ds gs:List (DataW H)) (before:List MemPlace),
  (∀(j:Nat) t v,fn.params[j]?=some t→args[j]?=some v→Value.okWide C.prog W .any base t v) →
  DataW.Whole enc C.prog fn.params.toList s.vars apart W args.toList ds gs before →
  W.ShapedOpen C.prog→X W args →
  Calls C.prog f args W λe W'=>∃v,e=.returned v/\s.post enc C.prog fn apart fresh handsOn again W args v W') :
 ReturnsInHanded a C os f .any (λw args=>(s.pre enc C.prog fn conds apart w args/\X w args)/\sizedMet enc C.prog fn (OpenSpec.ofChange s) apart w args) (s.post enc C.prog fn apart fresh handsOn again):=by
 refine returnsInHanded_of_calls own started noInit witness ?_
 intro w tape i _ hsh _ hok hpre hholds
 obtain ⟨_,_,_,fn',hfn',_,_,_,_,hval⟩:=hok
 have e:fn'=fn:=Option.some.inj (hfn'.symm.trans hfn)
 subst e
 obtain ⟨⟨⟨ds,gs,before,hw,hc⟩,hx⟩,hz⟩:=hpre
 have hw':=DataW.Whole.of_heap (w':=w.forCall tape i) (by rfl) hw
 refine (contract (w.forCall tape i) w.heap.size i.args ds gs before hval hw' hsh (hX _ _ _ (by rfl) hx)).mono λe W' ⟨v,he,hp⟩=>?_
 subst he
 exact ChangeSpec.post_blind hp
theorem own:ownKnob Tryz.prog.godebug=Option.none:=by kernel_rfl
theorem c2J:laidOutB Tryz.prog=true:=by kernel_rfl
abbrev a7V:List (String×DataW Unit):=[("math/bits.deBruijn32tab",Rows.laid_math_bits_deBruijn32tab),("math/bits.deBruijn64tab",Rows.laid_math_bits_deBruijn64tab),("internal/strconv.uint64pow10",Rows.laid_internal_strconv_uint64pow10),("unicode/utf8.acceptRanges",Rows.laid_unicode_utf8_acceptRanges),("strconv.ErrRange",Rows.laid_strconv_ErrRange),("strconv.ErrSyntax",Rows.laid_strconv_ErrSyntax),("unicode/utf8.first",Rows.laid_unicode_utf8_first)]
abbrev c97:ByteArray:={ data:=#[105,110,118,97,108,105,100,32,115,121,110,116,97,120] }
abbrev c98:ByteArray:={ data:=#[118,97,108,117,101,32,111,117,116,32,111,102,32,114,97,110,103,101] }
noncomputable def low:Nat:=(World.holding Tryz.prog default ⟨#[],#[],[]⟩).heap.size
noncomputable def b2q (os:Os):World :=
 let w0:=World.holding Tryz.prog os ⟨#[.cells #[.string c97] 295,.cells #[.string c98] 295],#[],[]⟩
 let put (h:Array Obj) (g:Nat) (cs:Array Value):Array Obj:=h.modify g fun
  | .cells _ t frozen=>.cells cs t frozen
  | o=>o
 let h1:=put w0.heap 6 #[.int .u8 0,.int .u8 1,.int .u8 28,.int .u8 2,.int .u8 29,.int .u8 14,.int .u8 24,.int .u8 3,.int .u8 30,.int .u8 22,.int .u8 20,.int .u8 15,.int .u8 25,.int .u8 17,.int .u8 4,.int .u8 8,.int .u8 31,.int .u8 27,.int .u8 13,.int .u8 23,.int .u8 21,.int .u8 19,.int .u8 16,.int .u8 7,.int .u8 26,.int .u8 12,.int .u8 18,.int .u8 6,.int .u8 11,.int .u8 5,.int .u8 10,.int .u8 9]
 let h2:=put h1 7 #[.int .u8 0,.int .u8 1,.int .u8 56,.int .u8 2,.int .u8 57,.int .u8 49,.int .u8 28,.int .u8 3,.int .u8 61,.int .u8 58,.int .u8 42,.int .u8 50,.int .u8 38,.int .u8 29,.int .u8 17,.int .u8 4,.int .u8 62,.int .u8 47,.int .u8 59,.int .u8 36,.int .u8 45,.int .u8 43,.int .u8 51,.int .u8 22,.int .u8 53,.int .u8 39,.int .u8 33,.int .u8 30,.int .u8 24,.int .u8 18,.int .u8 12,.int .u8 5,.int .u8 63,.int .u8 55,.int .u8 48,.int .u8 27,.int .u8 60,.int .u8 41,.int .u8 37,.int .u8 16,.int .u8 46,.int .u8 35,.int .u8 44,.int .u8 21,.int .u8 52,.int .u8 32,.int .u8 23,.int .u8 11,.int .u8 54,.int .u8 26,.int .u8 40,.int .u8 15,.int .u8 34,.int .u8 20,.int .u8 31,.int .u8 10,.int .u8 25,.int .u8 14,.int .u8 19,.int .u8 9,.int .u8 13,.int .u8 8,.int .u8 7,.int .u8 6]
 let h3:=put h2 1 #[.int .u64 1,.int .u64 10,.int .u64 100,.int .u64 1000,.int .u64 10000,.int .u64 100000,.int .u64 1000000,.int .u64 10000000,.int .u64 100000000,.int .u64 1000000000,.int .u64 10000000000,.int .u64 100000000000,.int .u64 1000000000000,.int .u64 10000000000000,.int .u64 100000000000000,.int .u64 1000000000000000,.int .u64 10000000000000000,.int .u64 100000000000000000,.int .u64 1000000000000000000,.int .u64 10000000000000000000]
 let h4:=put h3 3 #[.int .u8 128,.int .u8 191,.int .u8 160,.int .u8 191,.int .u8 128,.int .u8 159,.int .u8 144,.int .u8 191,.int .u8 128,.int .u8 143,.int .u8 0,.int .u8 0,.int .u8 0,.int .u8 0,.int .u8 0,.int .u8 0,.int .u8 0,.int .u8 0,.int .u8 0,.int .u8 0,.int .u8 0,.int .u8 0,.int .u8 0,.int .u8 0,.int .u8 0,.int .u8 0,.int .u8 0,.int .u8 0,.int .u8 0,.int .u8 0,.int .u8 0,.int .u8 0]
 let h5:=put h4 5 #[.iface 293 (.pointer (some ⟨low+1,0,none⟩))]
 let h6:=put h5 4 #[.iface 293 (.pointer (some ⟨low,0,none⟩))]
 let h7:=put h6 2 (Go.Pinned.utf8FirstZ.map (λ(n:Nat)=>Value.int .u8 (n:Int))).toArray
 { w0 with heap:=h7 }
theorem c0U (os:Os) (args:Array Value):laidMet Tryz.prog a7V ((b2q os).forCall (λ_ _=>0) ⟨#[],args,[]⟩).memory :=
 (LaidIn.of_run [6,7,1,3,5,low+1,4,low,2] 8 Y Y Y Y).met
theorem gP:Tryz.prog.globalNamed "internal/strconv.uint64pow10" = some 1:=by kernel_rfl
theorem c7o:(Tryz.prog.globals[1]?).map (·.type)=some 224:=by kernel_rfl
theorem c7p:Tryz.prog.cellsOf 59=1:=by kernel_rfl
theorem c7q:Tryz.prog.cellsOf 224=20:=by kernel_rfl
theorem c99:(Rows.laid_internal_strconv_uint64pow10:DataW Unit)=Lib.tabData .u64 Lib.pow10Tab:=by kernel_rfl
theorem c7r {W:World} (h:laidMet Tryz.prog a7V W):Lib.TabIs Tryz.prog W "internal/strconv.uint64pow10" .u64 Lib.pow10Tab:=by
 have h2:=h.tail.tail
 rw [c99] at h2
 exact Lib.tabIs_of_head gP c7o Tryz.underlying224 Tryz.underlying59 c7p c7q h2
theorem gES:Tryz.prog.globalNamed "strconv.ErrSyntax" = some 4:=by kernel_rfl
theorem c2K:(Tryz.prog.globals[4]?).map (·.type)=some 149:=by kernel_rfl
theorem c0V:Tryz.prog.cellsOf 295=1:=by kernel_rfl
theorem c7s:Tryz.prog.cellsOf 9=1:=by kernel_rfl
theorem c9O : "*" ++ "errors.errorString" = "*errors.errorString" := by decide
theorem c7t (u:TypeId) (h:Tryz.prog.typeName? 3 u=some "*errors.errorString"):u=293 :=
 typeName_ptr_named (nm := "errors.errorString") (by rw [c9O];kernel_rfl) Y (by decide) u (by rw [c9O];exact h)
theorem c7u {W:World} (h:laidMet Tryz.prog a7V W):∃ev:Value,W.cell? ⟨4,0,none⟩=some ev/\(ev=.nilIface∨∃te pe,ev=.iface te pe):=by
 obtain ⟨a0,s0,hv0,-,-,-⟩:=laid_sentinel h.tail.tail.tail.tail.tail gES c2K Tryz.underlying149 c7t Tryz.underlying293 Tryz.underlying295 Z Z Tryz.underlying9 c0V c7s
 exact ⟨_,by have h0:=World.var?_cell gES hv0 0;simpa using h0,.inr ⟨_,_,Z⟩⟩
theorem c7v {W:World} (h:laidMet Tryz.prog a7V W) (hsh:W.ShapedOpen Tryz.prog):Env.E Tryz.prog W:=⟨c7r h,c7u h,b8d W hsh⟩
end Go.Proofs.YtdhckhjphmjniaaGreatDoor
