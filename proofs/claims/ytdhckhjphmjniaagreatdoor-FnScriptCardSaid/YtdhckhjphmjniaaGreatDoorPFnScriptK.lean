/- Texts merged into one: G4, G6, G8, V1, Q6, R4, R5, F2, Y3, E. -/
import Derived.Test.YtdhckhjphmjniaaGreatDoorPFnScriptJ
import Derived.Test.YtdhckhjphmjniaaGreatDoorRows
import Derived.LaidLaws
import Derived.Lib.LaidIn
import Derived.Stop.LaidErr
import Derived.HandedShaped
set_option maxHeartbeats 4000000
set_option linter.unusedSimpArgs false
set_option linter.unusedVariables false
set_option maxRecDepth 20000
namespace Go.Proofs.YtdhckhjphmjniaaGreatDoor
open Go Go.Rf
theorem a4O {x:Cur} {n:Int} (h:okC n x) (hn:n<=850000000000):CtrX (α:=(Mach×Lg)×Cur) Tryz.prog 27 [.ptr 0 0] [.box [.lst 1 (x.c.map B4),.v (.int .i64 x.a),.v (.int .u64 x.s)]] (λy=>(DrC y.1)/\okC (n+3000) y.2) (λy=>.shp true [some 7] [.fr 132 2 (y.1.1.rs.map q9),.fr 4 1 (y.1.1.en.map m8),.fr 4 1 (y.1.1.ra.map m8),.ne 74 4 (y.1.1.cp.map (r6 104 76)),.v (.string y.1.2.d),.v (.string y.1.2.p),.v (.int .i64 y.1.2.n)]) (λy=>[some (.box [.lst 1 (y.2.c.map B4),.v (.int .i64 y.2.a),.v (.int .u64 y.2.s)])]):=by
 refine CtrX.of (n:=32) (k:=1) G Tryz.func27 Z Y Z Z Z Z (λ_=>Z) Z Z (λw0 _ hpin=>?_)
 refine c1 (λK1 hK1=>?_)
 refine b6 (a7 Z (d7 G 2 Z Z Z Z Z (b4 (hK1 _ ?_))))
 clear hK1 K1
 refine c1 (λK2 hK2=>?_)
 refine b6 (a7 Z (b5 Z Z (b9 Z Z) (a7 Z ?_)))
 refine d6 6 [0] Z Z Z (a4M h J) Z (RowsIn.cons Z RowsIn.nil) Z (λ_=>Z) Z (λx1 ⟨hv1,hc1⟩=>?_)
 refine a7 Z (b5 Z Z (w9 G Z Z Z Z) (a7 Z (d7 G 7 Z Z Z Z Z (a7 Z (e9 G Z Z Z Z Z Z Z Z Z Z Z (b4 (hK2 _ ?_)))))))
 clear hK2 K2
 refine c1 (λK3 hK3=>?_)
 refine c1 (λK4 hK4=>?_)
 refine b6 (a7 Z (b5 Z Z (b9 Z Z) (a7 Z ?_)))
 refine d6 7 [0] Z Z Z (p9 hc1 J (7)) Z (RowsIn.cons Z RowsIn.nil) Z (λ_=>Z) Z (λx2 ⟨hv2,hc2⟩=>?_)
 refine a7 Z (b5 Z Z (b8 Z Z) (b4 (hK4 _ ?_)))
 clear hK4 K4
 refine o7 ?_
 refine i7 [0,2,3] [1] (λ(z:Nat×Cur×(Mach×Lg))=>[(4,.v (.int .i64 (x2.1 - z.1)))]) (λ(z:Nat×Cur×(Mach×Lg))=>[(0,some (.box [.lst 1 (z.2.1.c.map B4),.v (.int .i64 z.2.1.a),.v (.int .u64 z.2.1.s)])),(2,some (.row 132 2 ((z.2.2).1.rs.map q9))),(3,some (.row 4 1 ((z.2.2).1.en.map m8))),(4,some (.row 4 1 ((z.2.2).1.ra.map m8))),(5,some (.nest 74 4 ((z.2.2).1.cp.map (r6 104 76)) [])),(6,some (.box [.own 2,.own 3,.own 4,.own 5,.v (.string (z.2.2).2.d),.v (.string (z.2.2).2.p),.v (.int .i64 (z.2.2).2.n)]))]) (λ(z:Nat×Cur×(Mach×Lg))=>(z.1:Int)<=x2.1/\DrC z.2.2/\okC (n+2010+30 * z.1) z.2.1) (λ(z:Nat×Cur×(Mach×Lg))=>x2.1.toNat - z.1) (0,x2.2,(x1.1,lg0)) Z Z ?_ ?_ ?_ ?_
 ·exact ⟨hv2.1,⟨hv1.small,(Nat.zero_le 1048576:lg0.d.size+lg0.p.size<=1048576)⟩,hc2.mono (by simp;omega)⟩
 ·exact b19
 ·exact c6U
 ·intro z hinv
  obtain ⟨hz1,hzC,hz⟩:=hinv
  have hzm:=hzC.m
  have hzl:=hzC.l
  have hzc:=hzC.cp
  simp only [List.cons_append,List.nil_append]
  refine c1 (λK5 hK5=>?_)
  refine c1 (λK6 hK6=>?_)
  refine b6 (a7 Z (b5 Z Z (b9 Z Z) (a7 Z (b5 Z Z (t8 Z Z Z Z) (a7 Z (b5 Z Z (b9 Z Z) (A5 Z Z Z (λh1=>?_) (λh1=>?_))))))))
  ·try rw [h1]
   try simp only [rfb] at h1
   refine o9 Z Z Z (b5 Z Z (d1 G Z Z Z Z Z Z) (o9 Z Z Z (b5 Z Z (j4 Z (ArgsOK.of Z) (Y8 z.2.2.1 z.2.2.2 hzm hzl) Z) (a7 Z (b5 Z Z (w5 Z Z Z) (b4 (hK6 _ ?_)))))))
   clear hK6 K6
   refine l4 Z (λh2=>?_) (λh2=>?_)
   ·try rw [h2]
    try simp only [rfb] at h2
    refine p8 (hK5 _ ?_)
    clear hK5 K5
    refine c1 (λK7 hK7=>?_)
    refine o7 ?_
    refine l2 9 [1] mixed Y Z Z (λr0=>?_) (λ_ h=>h)
    refine d5 1 Z Y Y Z Z Z Z (b9 Z Z) ?_
    refine b7 (rs:=[0,2]) Y Z (AllB.cons ?_ (AllB.cons ?_ AllB.nil))
    ·refine f9 [1] Z Z (b5 Z Z (d1 G Z Z Z Z Z Z) (b4 ⟨Z,?_⟩))
     refine b7 (rs:=[2]) Y Z (AllB.cons ?_ AllB.nil)
     refine f9 [1] Z Z (b5 Z Z (d1 G Z Z Z Z Z Z) (b4 ⟨Z,?_⟩))
     refine b7 (rs:=[3]) Y Z (AllB.cons ?_ AllB.nil)
     refine f9 [1] Z Z (d6 7 [0,2,3,4,5] Z Z Z (C8 hz J z.2.2.1 z.2.2.2 (by assumption)) Z (RowsIn.cons Z (RowsIn.cons Z (RowsIn.cons Z (RowsIn.cons Z (RowsIn.cons Z RowsIn.nil))))) Z (λ_=>Z) Z (λx3 ⟨hv3,hc3⟩=>b4 ⟨Z,?_⟩))
     refine b7 (rs:=[4]) Y Z (AllB.cons ?_ AllB.nil)
     refine f9 [1] Z Z (d4 11 Z Z Z (ArgsOK.of Z) (B6 z.2.2.1 z.2.2.2 _ (by assumption) (by assumption) J) Z Z (b4 ⟨Z,?_⟩))
     refine d5 5 Z Y Y Z Z Z Z (b9 Z Z) (d5 6 Z Y Y Z Z Z Z (i1 Z Z Z) (d5 7 Z Y Y Z Z Z Z (i1 Z Z Z) ?_))
     refine b7 (rs:=[8]) Y Z (AllB.cons ?_ AllB.nil)
     refine f9 [1] Z Z (e9 G Z Z Z Z Z Z Z Z Z Z Z (b4 ⟨Z,?_⟩))
     refine C3 Y (hK7 _ ?_)
     clear hK7 K7
     refine b6 (a7 Z (b5 Z Z (b9 Z Z) (a7 Z ?_)))
     first | refine b5 Z Z (p5 Z Z Z Z J J) ?_ | refine b5 Z Z (s3 Z Z Z Z) ?_
     refine a7 Z (b5 Z Z (b8 Z Z) (r9 (Gh.sub 7 2 (by rw [hpin];decide) Z Z Z) (r9 (Gh.sub 8 3 (by rw [hpin];decide) Z Z Z) (r9 (Gh.sub 9 4 (by rw [hpin];decide) Z Z Z) (r9 (Gh.sub 10 5 (by rw [hpin];decide) Z Z Z) ?_)))))
     refine b4 ⟨(z.1+1,x3.2,((exC z.2.2.1 z.2.2.2 x3.1).1,(exC z.2.2.1 z.2.2.2 x3.1).2.1)),?_,?_,⟨⟨_,Z,by (first | rfl | exact congrArg (λv=>AV.v (.int .i64 v)) (by show x2.1 - (z.1:Int) - 1=x2.1 - ((z.1+1:Nat):Int);omega))⟩,Z,trivial⟩,⟨⟨_,Z,by rfl⟩,Z,Z,⟨⟨_,Z,by rfl⟩,Z,Z,⟨⟨_,Z,by rfl⟩,Z,Z,⟨⟨_,Z,by rfl⟩,Z,Z,⟨⟨_,Z,by rfl⟩,Z,Z,⟨⟨_,Z,by rfl⟩,Z,Z,trivial⟩⟩⟩⟩⟩⟩,Z,Z,Z⟩
     ·exact ⟨by show ((z.1+1:Nat):Int)<=x2.1;omega,hzC.next,hc3.mono (by simp;omega)⟩
     ·exact c0p
    ·refine f9 [1] Z Z (b5 Z Z (d1 G Z Z Z Z Z Z) (b4 ⟨Z,?_⟩))
     refine b7 (rs:=[0,3]) Y Z (AllB.cons ?_ (AllB.cons ?_ AllB.nil))
     ·refine f9 [1] Z Z (b5 Z Z (d1 G Z Z Z Z Z Z) (b4 ⟨Z,?_⟩))
      refine b7 (rs:=[3]) Y Z (AllB.cons ?_ AllB.nil)
      refine f9 [1] Z Z (d6 7 [0,2,3,4,5] Z Z Z (C8 hz J z.2.2.1 z.2.2.2 (by assumption)) Z (RowsIn.cons Z (RowsIn.cons Z (RowsIn.cons Z (RowsIn.cons Z (RowsIn.cons Z RowsIn.nil))))) Z (λ_=>Z) Z (λx4 ⟨hv4,hc4⟩=>b4 ⟨Z,?_⟩))
      refine b7 (rs:=[4]) Y Z (AllB.cons ?_ AllB.nil)
      refine f9 [1] Z Z (d4 11 Z Z Z (ArgsOK.of Z) (B6 z.2.2.1 z.2.2.2 _ (by assumption) (by assumption) J) Z Z (b4 ⟨Z,?_⟩))
      refine d5 5 Z Y Y Z Z Z Z (b9 Z Z) (d5 6 Z Y Y Z Z Z Z (i1 Z Z Z) (d5 7 Z Y Y Z Z Z Z (i1 Z Z Z) ?_))
      refine b7 (rs:=[8]) Y Z (AllB.cons ?_ AllB.nil)
      refine f9 [1] Z Z (e9 G Z Z Z Z Z Z Z Z Z Z Z (b4 ⟨Z,?_⟩))
      refine C3 Y (hK7 _ ?_)
      clear hK7 K7
      refine b6 (a7 Z (b5 Z Z (b9 Z Z) (a7 Z ?_)))
      first | refine b5 Z Z (p5 Z Z Z Z J J) ?_ | refine b5 Z Z (s3 Z Z Z Z) ?_
      refine a7 Z (b5 Z Z (b8 Z Z) (r9 (Gh.sub 7 2 (by rw [hpin];decide) Z Z Z) (r9 (Gh.sub 8 3 (by rw [hpin];decide) Z Z Z) (r9 (Gh.sub 9 4 (by rw [hpin];decide) Z Z Z) (r9 (Gh.sub 10 5 (by rw [hpin];decide) Z Z Z) ?_)))))
      refine b4 ⟨(z.1+1,x4.2,((exC z.2.2.1 z.2.2.2 x4.1).1,(exC z.2.2.1 z.2.2.2 x4.1).2.1)),?_,?_,⟨⟨_,Z,by (first | rfl | exact congrArg (λv=>AV.v (.int .i64 v)) (by show x2.1 - (z.1:Int) - 1=x2.1 - ((z.1+1:Nat):Int);omega))⟩,Z,trivial⟩,⟨⟨_,Z,by rfl⟩,Z,Z,⟨⟨_,Z,by rfl⟩,Z,Z,⟨⟨_,Z,by rfl⟩,Z,Z,⟨⟨_,Z,by rfl⟩,Z,Z,⟨⟨_,Z,by rfl⟩,Z,Z,⟨⟨_,Z,by rfl⟩,Z,Z,trivial⟩⟩⟩⟩⟩⟩,Z,Z,Z⟩
      ·exact ⟨by show ((z.1+1:Nat):Int)<=x2.1;omega,hzC.next,hc4.mono (by simp;omega)⟩
      ·exact c0p
     ·refine f9 [1] Z Z (d6 7 [0,2,3,4,5] Z Z Z (C8 hz J z.2.2.1 z.2.2.2 (by assumption)) Z (RowsIn.cons Z (RowsIn.cons Z (RowsIn.cons Z (RowsIn.cons Z (RowsIn.cons Z RowsIn.nil))))) Z (λ_=>Z) Z (λx5 ⟨hv5,hc5⟩=>b4 ⟨Z,?_⟩))
      refine b7 (rs:=[0]) Y Z (AllB.cons ?_ AllB.nil)
      refine f9 [1] Z Z (b5 Z Z (d1 G Z Z Z Z Z Z) (b4 ⟨Z,?_⟩))
      refine b7 (rs:=[4]) Y Z (AllB.cons ?_ AllB.nil)
      refine f9 [1] Z Z (d4 11 Z Z Z (ArgsOK.of Z) (B6 z.2.2.1 z.2.2.2 _ (by assumption) (by assumption) J) Z Z (b4 ⟨Z,?_⟩))
      refine d5 5 Z Y Y Z Z Z Z (b9 Z Z) (d5 6 Z Y Y Z Z Z Z (i1 Z Z Z) (d5 7 Z Y Y Z Z Z Z (i1 Z Z Z) ?_))
      refine b7 (rs:=[8]) Y Z (AllB.cons ?_ AllB.nil)
      refine f9 [1] Z Z (e9 G Z Z Z Z Z Z Z Z Z Z Z (b4 ⟨Z,?_⟩))
      refine C3 Y (hK7 _ ?_)
      clear hK7 K7
      refine b6 (a7 Z (b5 Z Z (b9 Z Z) (a7 Z ?_)))
      first | refine b5 Z Z (p5 Z Z Z Z J J) ?_ | refine b5 Z Z (s3 Z Z Z Z) ?_
      refine a7 Z (b5 Z Z (b8 Z Z) (r9 (Gh.sub 7 2 (by rw [hpin];decide) Z Z Z) (r9 (Gh.sub 8 3 (by rw [hpin];decide) Z Z Z) (r9 (Gh.sub 9 4 (by rw [hpin];decide) Z Z Z) (r9 (Gh.sub 10 5 (by rw [hpin];decide) Z Z Z) ?_)))))
      refine b4 ⟨(z.1+1,x5.2,((exC z.2.2.1 z.2.2.2 x5.1).1,(exC z.2.2.1 z.2.2.2 x5.1).2.1)),?_,?_,⟨⟨_,Z,by (first | rfl | exact congrArg (λv=>AV.v (.int .i64 v)) (by show x2.1 - (z.1:Int) - 1=x2.1 - ((z.1+1:Nat):Int);omega))⟩,Z,trivial⟩,⟨⟨_,Z,by rfl⟩,Z,Z,⟨⟨_,Z,by rfl⟩,Z,Z,⟨⟨_,Z,by rfl⟩,Z,Z,⟨⟨_,Z,by rfl⟩,Z,Z,⟨⟨_,Z,by rfl⟩,Z,Z,⟨⟨_,Z,by rfl⟩,Z,Z,trivial⟩⟩⟩⟩⟩⟩,Z,Z,Z⟩
      ·exact ⟨by show ((z.1+1:Nat):Int)<=x2.1;omega,hzC.next,hc5.mono (by simp;omega)⟩
      ·exact c0p
   ·try rw [h2]
    try simp only [rfb] at h2
    refine G2 (hK3 _ ?_)
    clear hK5 K5 hK3 K3
    refine c1 (λK8 hK8=>?_)
    refine c1 (λK9 hK9=>?_)
    refine b6 (a7 Z (b5 Z Z (b9 Z Z) (a7 Z ?_)))
    refine d6 7 [0] Z Z Z (a4B hz J (24)) Z (RowsIn.cons Z RowsIn.nil) Z (λ_=>Z) Z (λx6 ⟨hv6,hc6⟩=>?_)
    refine b4 (hK9 _ ?_)
    clear hK9 K9
    refine l4 Z (λh3=>?_) (λh3=>?_)
    ·try rw [h3]
     try simp only [rfb] at h3
     refine b6 (a7 Z (b5 Z Z (b9 Z Z) (a7 Z ?_)))
     refine d6 7 [0] Z Z Z (Z3 hc6 J) Z (RowsIn.cons Z RowsIn.nil) Z (λ_=>Z) Z (λx7 ⟨hv7,hc7⟩=>?_)
     refine a7 Z (b5 Z Z (d3 G Z Z Z Z) (a7 Z (e9 G Z Z Z Z Z Z Z Z Z Z Z (b4 (hK8 _ ?_)))))
     clear hK8 K8
     refine c1 (λK10 hK10=>?_)
     refine b6 (a7 Z (b5 Z Z (d1 G Z Z Z Z Z Z) (a7 Z (e9 G Z Z Z Z Z Z Z Z Z Z Z (b4 (hK10 _ ?_))))))
     clear hK10 K10
     refine d8 (A2 (((z.2.2.1,x7.1),x7.2)) (v6 Z Z Z Z (b3 (c8 Z ?_) (b3 (c8 Z ?_) (b3 (c8 Z ?_) (b3 (A8 Z ?_) (b3 (j8 ?_) (b3 (j8 ?_) (b3 (j8 ?_) d9))))))) Z (AftOK.stays Z ?_ Z AftOK.nil)) (⟨?_,?_⟩))
     all_goals (first | rfl | exact hc7.mono J | exact hzC | exact ⟨hzm,hv7⟩)
    ·try rw [h3]
     try simp only [rfb] at h3
     refine p8 (hK8 _ ?_)
     clear hK8 K8
     refine c1 (λK11 hK11=>?_)
     refine b6 (a7 Z (b5 Z Z (d1 G Z Z Z Z Z Z) (a7 Z (e9 G Z Z Z Z Z Z Z Z Z Z Z (b4 (hK11 _ ?_))))))
     clear hK11 K11
     refine d8 (A2 ((z.2.2,x6.2)) (v6 Z Z Z Z (b3 (c8 Z ?_) (b3 (c8 Z ?_) (b3 (c8 Z ?_) (b3 (A8 Z ?_) (b3 (j8 ?_) (b3 (j8 ?_) (b3 (j8 ?_) d9))))))) Z (AftOK.stays Z ?_ Z AftOK.nil)) (⟨?_,?_⟩))
     all_goals (first | rfl | exact hc6.mono J | exact hzC | exact ⟨hzm,hv6⟩)
  ·try rw [h1]
   try simp only [rfb] at h1
   refine l7 Z Z Z Z Z Z (l7 Z Z Z Z Z Z (a7 Z (b5 Z Z (A6 Z Z Z) (b4 (hK6 _ ?_)))))
   clear hK6 K6
   refine a27 Z (G2 (hK3 _ ?_))
   clear hK5 K5 hK3 K3
   refine c1 (λK12 hK12=>?_)
   refine c1 (λK13 hK13=>?_)
   refine b6 (a7 Z (b5 Z Z (b9 Z Z) (a7 Z ?_)))
   refine d6 7 [0] Z Z Z (a4B hz J (24)) Z (RowsIn.cons Z RowsIn.nil) Z (λ_=>Z) Z (λx8 ⟨hv8,hc8⟩=>?_)
   refine b4 (hK13 _ ?_)
   clear hK13 K13
   refine l4 Z (λh4=>?_) (λh4=>?_)
   ·try rw [h4]
    try simp only [rfb] at h4
    refine b6 (a7 Z (b5 Z Z (b9 Z Z) (a7 Z ?_)))
    refine d6 7 [0] Z Z Z (Z3 hc8 J) Z (RowsIn.cons Z RowsIn.nil) Z (λ_=>Z) Z (λx9 ⟨hv9,hc9⟩=>?_)
    refine a7 Z (b5 Z Z (d3 G Z Z Z Z) (a7 Z (e9 G Z Z Z Z Z Z Z Z Z Z Z (b4 (hK12 _ ?_)))))
    clear hK12 K12
    refine c1 (λK14 hK14=>?_)
    refine b6 (a7 Z (b5 Z Z (d1 G Z Z Z Z Z Z) (a7 Z (e9 G Z Z Z Z Z Z Z Z Z Z Z (b4 (hK14 _ ?_))))))
    clear hK14 K14
    refine d8 (A2 (((z.2.2.1,x9.1),x9.2)) (v6 Z Z Z Z (b3 (c8 Z ?_) (b3 (c8 Z ?_) (b3 (c8 Z ?_) (b3 (A8 Z ?_) (b3 (j8 ?_) (b3 (j8 ?_) (b3 (j8 ?_) d9))))))) Z (AftOK.stays Z ?_ Z AftOK.nil)) (⟨?_,?_⟩))
    all_goals (first | rfl | exact hc9.mono J | exact hzC | exact ⟨hzm,hv9⟩)
   ·try rw [h4]
    try simp only [rfb] at h4
    refine p8 (hK12 _ ?_)
    clear hK12 K12
    refine c1 (λK15 hK15=>?_)
    refine b6 (a7 Z (b5 Z Z (d1 G Z Z Z Z Z Z) (a7 Z (e9 G Z Z Z Z Z Z Z Z Z Z Z (b4 (hK15 _ ?_))))))
    clear hK15 K15
    refine d8 (A2 ((z.2.2,x8.2)) (v6 Z Z Z Z (b3 (c8 Z ?_) (b3 (c8 Z ?_) (b3 (c8 Z ?_) (b3 (A8 Z ?_) (b3 (j8 ?_) (b3 (j8 ?_) (b3 (j8 ?_) d9))))))) Z (AftOK.stays Z ?_ Z AftOK.nil)) (⟨?_,?_⟩))
    all_goals (first | rfl | exact hc8.mono J | exact hzC | exact ⟨hzm,hv8⟩)
theorem a4P (l:List Int) (hl:X3 l):CtrX (α:=(Mach×Lg)×ByteArray) Tryz.prog 7 [.lst 1 (l.map B4)] [] (λy=>(DrC y.1/\y.2.size<=1000)/\True) (λy=>.shp false [some 7,none] [.fr 132 2 (y.1.1.rs.map q9),.fr 4 1 (y.1.1.en.map m8),.fr 4 1 (y.1.1.ra.map m8),.ne 74 4 (y.1.1.cp.map (r6 104 76)),.v (.string y.1.2.d),.v (.string y.1.2.p),.v (.int .i64 y.1.2.n),.v (.string y.2)]) (λy=>[]):=by
 have h:okC 0 (⟨l,0,0⟩:Cur):=⟨hl,Int.le_refl _,Int.le_refl _⟩
 refine CtrX.of (n:=42) (k:=0) G Tryz.func7 Z Y Z Z Z Z (λ_=>Z) Z Z (λw0 _ hpin=>?_)
 refine c1 (λK1 hK1=>?_)
 refine b6 (a7 Z (d7 G 1 Z Z Z Z Z (a7 Z (b5 Z Z (b8 Z Z) (b4 (hK1 _ ?_))))))
 clear hK1 K1
 refine b7Y (t:=0) Z (λy=>?_)
 refine c1 (λK2 hK2=>?_)
 refine b6 (a7 Z (b5 Z Z (b9 Z Z) (a7 Z (b5 Z Z (w9 G Z Z Z Z) (a7 Z (B3 2 Z Z Z Z Z Z Z (a7 Z (b5 Z Z (b8 Z Z) (b4 (hK2 _ ?_))))))))))
 clear hK2 K2
 refine a9v (id:=1) Z ?_
 refine c1 (λK3 hK3=>?_)
 refine b6 (a7 Z (b5 Z Z (b9 Z Z) (a7 Z ?_)))
 refine d6 6 [1] Z Z Z (a4O h J) Z (RowsIn.cons Z RowsIn.nil) Z (λ_=>Z) Z (λx1 ⟨hv1,hc1⟩=>?_)
 have hcm:=hv1.cp
 refine a7 Z (d7 G 7 Z Z Z Z Z (a7 Z (e9 G Z Z Z Z Z Z Z Z Z Z Z (b4 (hK3 _ ?_)))))
 clear hK3 K3
 refine c1 (λK4 hK4=>?_)
 refine b6 (a7 Z (b5 Z Z (b9 Z Z) (a7 Z (b5 Z Z (d1 G Z Z Z Z Z Z) (a7 Z ?_)))))
 refine d6 7 [1,2,3,4,5] Z Z Z (C8 hc1 J x1.1.1 x1.1.2 (by assumption)) Z (RowsIn.cons Z (RowsIn.cons Z (RowsIn.cons Z (RowsIn.cons Z (RowsIn.cons Z RowsIn.nil))))) Z (λ_=>Z) Z (λx2 ⟨hv2,hc2⟩=>?_)
 refine a7 Z (b5 Z Z (b8 Z Z) (b4 (hK4 _ ?_)))
 clear hK4 K4
 refine c1 (λK5 hK5=>?_)
 refine c1 (λK6 hK6=>?_)
 refine b6 (a7 Z (b5 Z Z (b9 Z Z) (a7 Z ?_)))
 refine d6 7 [1] Z Z Z (p9 hc2 J (5)) Z (RowsIn.cons Z RowsIn.nil) Z (λ_=>Z) Z (λx3 ⟨hv3,hc3⟩=>?_)
 refine a7 Z (b5 Z Z (b8 Z Z) (b4 (hK6 _ ?_)))
 clear hK6 K6
 refine o7 ?_
 refine i7 [2,4,5] [0,2,3,4,5,6] (λ(z:Nat×Cur×ByteArray)=>[(6,.v (.string z.2.2)),(7,.v (.int .i64 (x3.1 - z.1)))]) (λ(z:Nat×Cur×ByteArray)=>[(1,some (.box [.lst 1 (z.2.1.c.map B4),.v (.int .i64 z.2.1.a),.v (.int .u64 z.2.1.s)]))]) (λ(z:Nat×Cur×ByteArray)=>(z.1:Int)<=x3.1/\z.2.2.size<=60+61 * z.1/\okC (5000+20 * z.1) z.2.1) (λ(z:Nat×Cur×ByteArray)=>x3.1.toNat - z.1) (0,x3.2,x2.1) Z Z ?_ ?_ ?_ ?_
 ·exact ⟨hv3.1,by omega,hc3.mono (by simp)⟩
 ·exact b6G
 ·exact a07
 ·intro z hinv
  obtain ⟨hz1,hz2,hz⟩:=hinv
  simp only [List.cons_append,List.nil_append]
  refine c1 (λK7 hK7=>?_)
  refine c1 (λK8 hK8=>?_)
  refine b6 (a7 Z (b5 Z Z (b9 Z Z) (a7 Z (b5 Z Z (t8 Z Z Z Z) (b4 (hK8 _ ?_))))))
  clear hK8 K8
  refine l4 Z (λh1=>?_) (λh1=>?_)
  ·try rw [h1]
   try simp only [rfb] at h1
   refine p8 (hK7 _ ?_)
   clear hK7 K7
   refine c1 (λK9 hK9=>?_)
   refine o7 (b6 (a7 Z (b5 Z Z (b9 Z Z) (a7 Z (b5 Z Z (s6 Z Z Z (by (try simp only [ByteArray.size_append,i8,List.size_toArray,List.length_cons,List.length_nil]);omega)) (a7 Z (b5 Z Z (b9 Z Z) (a7 Z (b5 Z Z (d1 G Z Z Z Z Z Z) (a7 Z ?_))))))))))
   refine d6 7 [1,2,3,4,5] Z Z Z (C8 hz J x1.1.1 x1.1.2 (by assumption)) Z (RowsIn.cons Z (RowsIn.cons Z (RowsIn.cons Z (RowsIn.cons Z (RowsIn.cons Z RowsIn.nil))))) Z (λ_=>Z) Z (λx4 ⟨hv4,hc4⟩=>?_)
   refine a7 Z (b5 Z Z (s6 Z Z Z (by (try simp only [ByteArray.size_append,i8,List.size_toArray,List.length_cons,List.length_nil]);omega)) (a7 Z (b5 Z Z (b8 Z Z) (b4 (hK9 _ ?_)))))
   clear hK9 K9
   refine b6 (a7 Z (b5 Z Z (b9 Z Z) (a7 Z ?_)))
   first | refine b5 Z Z (p5 Z Z Z Z J J) ?_ | refine b5 Z Z (s3 Z Z Z Z) ?_
   refine a7 Z (b5 Z Z (b8 Z Z) ?_)
   refine b4 ⟨(z.1+1,x4.2,z.2.2++⟨#[10]⟩++x4.1),?_,?_,⟨⟨_,Z,by (first | rfl | exact congrArg (λv=>AV.v (.int .i64 v)) (by show x3.1 - (z.1:Int) - 1=x3.1 - ((z.1+1:Nat):Int);omega))⟩,Z,⟨⟨_,Z,by (first | rfl | exact congrArg (λv=>AV.v (.int .i64 v)) (by show x3.1 - (z.1:Int) - 1=x3.1 - ((z.1+1:Nat):Int);omega))⟩,Z,trivial⟩⟩,⟨⟨_,Z,by rfl⟩,Z,Z,trivial⟩,Z,Z,Z⟩
   ·exact ⟨by show ((z.1+1:Nat):Int)<=x3.1;omega,by show ByteArray.size _<=60+61 * (z.1+1);simp only [ByteArray.size_append,i8,List.size_toArray,List.length_cons,List.length_nil];omega,hc4.mono (by simp;omega)⟩
   ·(show x3.1.toNat - (z.1+1) < x3.1.toNat - z.1;omega)
  ·try rw [h1]
   try simp only [rfb] at h1
   refine G2 (hK5 _ ?_)
   clear hK7 K7 hK5 K5
   refine c1 (λK10 hK10=>?_)
   refine c1 (λK11 hK11=>?_)
   refine b6 (a7 Z (b5 Z Z (b9 Z Z) (a7 Z ?_)))
   refine d6 7 [1] Z Z Z (a4B hz J (20)) Z (RowsIn.cons Z RowsIn.nil) Z (λ_=>Z) Z (λx5 ⟨hv5,hc5⟩=>?_)
   refine b4 (hK11 _ ?_)
   clear hK11 K11
   refine l4 Z (λh2=>?_) (λh2=>?_)
   ·try rw [h2]
    try simp only [rfb] at h2
    refine c1 (λK12 hK12=>?_)
    refine b6 (a7 Z (b5 Z Z (b8 Z Z) (b4 (hK12 _ ?_))))
    clear hK12 K12
    refine c1 (λK13 hK13=>?_)
    refine b6 (a7 Z (b5 Z Z (b9 Z Z) (a7 Z ?_)))
    refine d6 7 [1] Z Z Z (p9 hc5 J (2)) Z (RowsIn.cons Z RowsIn.nil) Z (λ_=>Z) Z (λx6 ⟨hv6,hc6⟩=>?_)
    refine a7 Z ?_
    first | refine b5 Z Z (p5 Z Z Z Z J J) ?_ | refine b5 Z Z (s3 Z Z Z Z) ?_
    refine a7 Z (b5 Z Z (b8 Z Z) (b4 (hK13 _ ?_)))
    clear hK13 K13
    refine o7 ?_
    refine i7 [2,5] [0,2,3,4,5,6] (λ(v:Nat×ByteArray)=>[(6,.v (.string v.2)),(8,.v (.int .i64 (29+x6.1 - v.1)))]) (λ(v:Nat×ByteArray)=>[]) (λ(v:Nat×ByteArray)=>(v.1:Int)<=29+x6.1/\v.2.size<=v.1) (λ(v:Nat×ByteArray)=>(29+x6.1).toNat - v.1) (0,⟨#[]⟩) Z Z ?_ ?_ ?_ ?_
    ·exact ⟨by show (0:Int)<=29+x6.1;omega,by decide⟩
    ·exact b6G
    ·exact trivial
    ·intro v hinv
     obtain ⟨hw1,hw2⟩:=hinv
     simp only [List.cons_append,List.nil_append]
     refine c1 (λK14 hK14=>?_)
     refine c1 (λK15 hK15=>?_)
     refine b6 (a7 Z (b5 Z Z (b9 Z Z) (a7 Z (b5 Z Z (t8 Z Z Z Z) (b4 (hK15 _ ?_))))))
     clear hK15 K15
     refine l4 Z (λh3=>?_) (λh3=>?_)
     ·try rw [h3]
      try simp only [rfb] at h3
      refine p8 (hK14 _ ?_)
      clear hK14 K14
      refine c1 (λK16 hK16=>?_)
      refine o7 (b6 (a7 Z (b5 Z Z (b9 Z Z) (a7 Z (b5 Z Z (s6 Z Z Z (by (try simp only [ByteArray.size_append,i8,List.size_toArray,List.length_cons,List.length_nil]);omega)) (a7 Z (b5 Z Z (b8 Z Z) (b4 (hK16 _ ?_)))))))))
      clear hK16 K16
      refine b6 (a7 Z (b5 Z Z (b9 Z Z) (a7 Z ?_)))
      first | refine b5 Z Z (p5 Z Z Z Z J J) ?_ | refine b5 Z Z (s3 Z Z Z Z) ?_
      refine a7 Z (b5 Z Z (b8 Z Z) ?_)
      refine b4 ⟨(v.1+1,v.2++⟨#[10]⟩),?_,?_,⟨⟨_,Z,by (first | rfl | exact congrArg (λq=>AV.v (.int .i64 q)) (by show 29+x6.1 - (v.1:Int) - 1=29+x6.1 - ((v.1+1:Nat):Int);omega))⟩,Z,⟨⟨_,Z,by (first | rfl | exact congrArg (λq=>AV.v (.int .i64 q)) (by show 29+x6.1 - (v.1:Int) - 1=29+x6.1 - ((v.1+1:Nat):Int);omega))⟩,Z,trivial⟩⟩,trivial,Z,Z,Z⟩
      ·exact ⟨by show ((v.1+1:Nat):Int)<=29+x6.1;omega,by show ByteArray.size _<=v.1+1;simp only [ByteArray.size_append,i8,List.size_toArray,List.length_cons,List.length_nil];omega⟩
      ·(show (29+x6.1).toNat - (v.1+1) < (29+x6.1).toNat - v.1;omega)
     ·try rw [h3]
      try simp only [rfb] at h3
      refine G2 (hK10 _ ?_)
      clear hK14 K14 hK10 K10
      refine c1 (λK17 hK17=>?_)
      refine b6 (a7 Z (b5 Z Z (d1 G Z Z Z Z Z Z) (a7 Z (b5 Z Z (b9 Z Z) (a7 Z (e9 G Z Z Z Z Z Z Z Z Z Z Z (a7 Z (b5 Z Z (b8 Z Z) (b4 (hK17 _ ?_))))))))))
      clear hK17 K17
      refine d8 (A2 ((x1.1,v.2)) (v6 Z Z Z Z (b3 (c8 Z ?_) (b3 (c8 Z ?_) (b3 (c8 Z ?_) (b3 (A8 Z ?_) (b3 (j8 ?_) (b3 (j8 ?_) (b3 (j8 ?_) (b3 (j8 ?_) d9)))))))) Z AftOK.nil) (⟨?_,?_⟩))
      all_goals (first | rfl | trivial | assumption | exact ⟨hv1,by omega⟩ | exact ⟨hv1,by show v.2.size<=1000;omega⟩ | exact ⟨hv1,by show z.2.2.size<=1000;omega⟩)
   ·try rw [h2]
    try simp only [rfb] at h2
    refine p8 (hK10 _ ?_)
    clear hK10 K10
    refine c1 (λK18 hK18=>?_)
    refine b6 (a7 Z (b5 Z Z (d1 G Z Z Z Z Z Z) (a7 Z (b5 Z Z (b9 Z Z) (a7 Z (e9 G Z Z Z Z Z Z Z Z Z Z Z (a7 Z (b5 Z Z (b8 Z Z) (b4 (hK18 _ ?_))))))))))
    clear hK18 K18
    refine d8 (A2 ((x1.1,z.2.2)) (v6 Z Z Z Z (b3 (c8 Z ?_) (b3 (c8 Z ?_) (b3 (c8 Z ?_) (b3 (A8 Z ?_) (b3 (j8 ?_) (b3 (j8 ?_) (b3 (j8 ?_) (b3 (j8 ?_) d9)))))))) Z AftOK.nil) (⟨?_,?_⟩))
    all_goals (first | rfl | trivial | assumption | exact ⟨hv1,by omega⟩ | exact ⟨hv1,by show v.2.size<=1000;omega⟩ | exact ⟨hv1,by show z.2.2.size<=1000;omega⟩)
theorem a6w (s:ByteArray) (hz:s.size<=1048576):Ctr Tryz.prog 10 [.v (.string s),.v (.string ⟨#[10]⟩)] (.many [.fr 9 1 ((c6a s).map a0M),.v (.bool (!decide (4000 < s.size)))]):=by
 refine Ctr.of (n:=19) G Tryz.func10 Z Y Z Z Z (λw0=>?_)
 refine c1 (λK1 hK1=>?_)
 refine b6 (a7 Z (b5 Z Z (b8 Z Z) (a7 Z (b5 Z Z (b8 Z Z) (b4 (hK1 _ ?_))))))
 clear hK1 K1
 refine c1 (λK2 hK2=>?_)
 refine c1 (λK3 hK3=>?_)
 refine b6 (a7 Z (b5 Z Z (b9 Z Z) (a7 Z (b5 Z Z (r5 G Z Z Z) (a7 Z (b5 Z Z (a5A (v':=.bool false) (t8 Z Z Z Z) (by first | rfl | (simp;done) | decide)) (a7 Z (b5 Z Z (b9 Z Z) (o9 Z Z Z (b5 Z Z (b9 Z Z) (o9 Z Z Z (b5 Z Z (r5 G Z Z Z) (o9 Z Z Z (b5 Z Z (t8 Z Z Z Z) (a7 Z (b5 Z Z (A6 Z Z Z) (b4 (hK3 _ ?_))))))))))))))))))
 clear hK3 K3
 refine l4 Z (λh1=>?_) (λh1=>?_)
 ·try rw [h1]
  try simp only [rfb] at h1
  have hO:=c6b (s:=s) J
  refine c1 (λK4 hK4=>?_)
  refine b6 (a7 Z (m5 G 1 Z Z Z Z Z Z Z Z (a7 Z (b5 Z Z (b8 Z Z) (a7 Z (b5 Z Z (b8 Z Z) (b4 (hK4 _ ?_))))))))
  clear hK4 K4
  refine d8 (r4 Z Z Z Z (b3 (c8 Z ?_) (b3 (j8 ?_) d9)))
  all_goals clear hK2 K2
  all_goals (first | (rw [hO];done) | (rw [hO];rfl) | (simp;omega))
 ·try rw [h1]
  try simp only [rfb] at h1
  have hO:=b9N (s:=s) J
  refine p8 (hK2 _ ?_)
  clear hK2 K2
  refine c1 (λK5 hK5=>?_)
  refine b6 (a7 Z (b5 Z Z (b9 Z Z) (a7 Z (b5 Z Z (b9 Z Z) (a7 Z (b5 Z Z (O9 G Z Z Z Z J (by decide)) (a7 Z (d4 1 Z Z Z (ArgsOK.of Z) (J0 s 10 hz) Z Z (a7 Z (b5 Z Z (b8 Z Z) (a7 Z (b5 Z Z (b8 Z Z) (b4 (hK5 _ ?_))))))))))))))
  clear hK5 K5
  refine d8 (r4 Z Z Z Z (b3 (c8 Z ?_) (b3 (j8 ?_) d9)))
  all_goals (first | (rw [hO];done) | (rw [hO];rfl) | (simp;omega))
theorem b4z (l:List Int) (hl:l.length<=9223372036854775807):Ctr Tryz.prog 6 [.lst 1 (l.map B4)] (.one (.v (.bool (decide (65536 < l.length))))):=by
 refine Ctr.of (n:=6) G Tryz.func6 Z a8 Z Z Z (λw0=>?_)
 refine zf1 ?_
 all_goals (first | rfl | (simp;done) | (simp;omega))
theorem Z4 (m:Mach) (x:Lg) (s:ByteArray) (hs:SmallM m) (hx:x.d.size+x.p.size<=1048576) (hz:s.size<=1048576):Ctr Tryz.prog 14 [.agg [.lst 2 (m.rs.map q9),.lst 1 (m.en.map m8),.lst 1 (m.ra.map m8),.nst none 4 (m.cp.map (r6 104 76)),.v (.string x.d),.v (.string x.p),.v (.int .i64 x.n)],.v (.string s)] (.shp false [some 7,none] [.fr 132 2 ((exC m x s).1.rs.map q9),.fr 4 1 ((exC m x s).1.en.map m8),.fr 4 1 ((exC m x s).1.ra.map m8),.ne 74 4 ((exC m x s).1.cp.map (a2k 104 76)),.v (.string (exC m x s).2.1.d),.v (.string (exC m x s).2.1.p),.v (.int .i64 (exC m x s).2.1.n),.v (.string (exC m x s).2.2)]):=by
 refine Ctr.of (n:=53) G Tryz.func14 Z Y Z Z Z (λw0=>?_)
 refine n8 0 Z (λ_=>Z) (λu0=>?_)
 refine zgo ?_
 refine a7 Z (B3 1 Z Z Z Z Z Z Z (a7 Z (d7 G 2 Z Z Z Z Z ?_)))
 refine zcl (O1 m x hs hx) ?_
 refine zcd (λh1=>?_) (λh1=>?_)
 ·have hO:=c2I (s:=s) h1
  exact c0u
 obtain ⟨hM,hLg⟩:=a8h h1
 refine zgo ?_
 refine a7 Z (b5 Z Z (j4 Z (ArgsOK.of Z) (Q0 ⟨s,⟨#[]⟩⟩ ⟨by show s.size<=_;omega,P7 (by decide)⟩) Z) ?_)
 refine zcd (λh2=>?_) (λh2=>?_)
 ·have hO:=c2J h1 h2
  exact c0u
 refine zcd (λh3=>?_) (λh3=>?_)
 ·have hO:=c2K h1 h2 h3
  exact c0u
 refine zgo ?_
 refine a7 Z (d4 6 Z Z Z (ArgsOK.of Z) (Ctr.shpTo (a1Z m x hs hx) (.cons .s (.cons .s (.cons .s (.cons (.n flM) (.cons .s (.cons .s (.cons .s .nil)))))))) Z Z (a7 Z (d7 G 7 Z Z Z Z Z ?_)))
 refine zgo ?_
 refine a7 Z (a1W (n:=88) G Z Z Z Tryz.func44 Z Y Z Z Z Z ?_)
 intro b hen hpin
 have hwn:1<=(i6 s 32).length/\(i6 s 32).length<=s.size+1:=F7
 have hml:((i6 s 32).map a0M).length=(i6 s 32).length:=List.length_map _
 refine zgo ?_
 refine a7 Z (d4 8 Z Z Z (ArgsOK.of Z) (b7M s hz) Z Z ?_)
 refine zgo ?_
 refine a7 Z ?_
 first | refine b5 Z Z (c7 G Z Z Z Z Z J (by rw [List.length_map];omega)) ?_ | refine b5 Z Z (c7 G Z Z Z Z Z J J) ?_
 refine a7 Z ?_
 first | refine b5 Z Z (f8 G Z Z Z Z Z (c1F J) Z) ?_ | refine b5 Z Z (f8 G Z Z Z Z Z (A1 J J) Z) ?_
 refine zcl (a6s (wrd s 0)) ?_
 refine zcd (λh101=>?_) (λh101=>?_)
 ·refine zgo ?_
  refine d8 ⟨.inr Z,_,Z,Z,?_⟩
  have hO:=P8 h1 h2 h3 (a6h (b9B h101))
  refine zwt ?_
  exact b2a
 refine zgo ?_
 refine a7 Z (m5 G 9 Z Z Z Z Z Z Z Z ?_)
 refine zgo ?_
 refine a7 Z (b5 Z Z (a4W G Z Z Z Z Z Z J (by first | omega | (simp;done) | (simp;omega)) (by first | omega | (simp;done) | (simp;omega))) ?_)
 refine zgo ?_
 refine i7 [0,6,29,30] [0,1,2,3,4,5,6,7] (λ(i:Nat)=>[(7,.own 8),(31,.v (.int .i64 (i:Int)))]) (λ(i:Nat)=>[(8,some (.row 3 1 ((E3 s i).map Rf.r7)))]) (λ(i:Nat)=>i<=(i6 s 32).length - 1/\∀j,j < i→nmK (wrd s (j+1))=true) (λ(i:Nat)=>(i6 s 32).length - 1 - i) 0 Z Z ?_ ?_ ?_ ?_
 ·exact T7
 ·exact a0O
 ·exact a07
 intro i hinv
 have hnl:=@a4t s i
 simp only [List.cons_append,List.nil_append]
 refine zcd (λh102=>?_) (λh102=>?_)
 ·refine zgo ?_
  refine a7 Z (b5 Z Z (b3n G Z Z Z Z Z J J) (a7 Z ?_))
  first | refine b5 Z Z (f8 G Z Z Z Z Z (c1F J) Z) ?_ | refine b5 Z Z (f8 G Z Z Z Z Z (A1 J J) Z) ?_
  refine zcl (a9o (wrd s (i+1)) (by have:=@b9y s (i+1);omega)) ?_
  refine zcd (λh103=>?_) (λh103=>?_)
  ·refine zgo ?_
   refine d8 ⟨.inr Z,_,Z,Z,?_⟩
   have hO:=P8 h1 h2 h3 (a6h (b9C (b9z h103 (by show i < (i6 s 32).length - 1;omega))))
   refine zwt ?_
   exact b2a
  refine zgo ?_
  refine a7 Z (m5 G 10 Z Z Z Z Z Z Z Z (a7 Z (l1 G (by rw [hpin];decide) Z Z Z Z Z Z Z Z Z (by first | (simp only [List.length_map,List.length_cons,List.length_nil];omega) | (simp;omega)) Z Z ?_)))
  exact c3J
 obtain rfl:i=(i6 s 32).length - 1:=J
 have hNK:G5 s=true:=b9A hinv.2 (Nat.le_refl _)
 have hal:a2j (m9 (wrd s 0))=(B9 s).length:=(by rw [b7u];show _=(((i6 s 32).length - 1:Nat):Int);omega)
 refine zgo ?_
 refine a7 Z ?_
 first | refine b5 Z Z (c7 G Z Z Z Z Z J (by rw [List.length_map];omega)) ?_ | refine b5 Z Z (c7 G Z Z Z Z Z J J) ?_
 refine a7 Z ?_
 first | refine b5 Z Z (f8 G Z Z Z Z Z (c1F J) Z) ?_ | refine b5 Z Z (f8 G Z Z Z Z Z (A1 J J) Z) ?_
 refine zcl (b09 (wrd s 0) (B9 s) hal) ?_
 refine zgo ?_
 refine a7 Z (d7 G 10 Z Z Z Z Z ?_)
 refine zcd (λh104=>?_) (λh104=>?_)
 ·have cA:=b3l m (wrd s 0) (B9 s) hs hM hal h104
  have hC:=b9D (m:=m) h101 hNK h104
  generalize a6e m (m9 (wrd s 0)) (B9 s)=ra at cA hC
  obtain ⟨r,ok⟩:=ra
  dsimp only at cA
  refine zgd ?_
  refine zgo ?_
  refine c6 Z (g8 Z Z (s8 Z Z) ?_)
  refine zgo ?_
  refine c6 Z ?_
  first | refine g8 Z Z (c7 G Z Z Z Z Z J (by rw [List.length_map];omega)) ?_ | refine g8 Z Z (c7 G Z Z Z Z Z J J) ?_
  refine c6 Z ?_
  first | refine g8 Z Z (f8 G Z Z Z Z Z (c1F J) Z) ?_ | refine g8 Z Z (f8 G Z Z Z Z Z (A1 J J) Z) ?_
  refine zcl (Ctr.argsTo cA (λw vs h=>c7T flM vs h)) ?_
  refine zgo ?_
  refine d8 ⟨.inr Z,_,Z,Z,?_⟩
  refine zcd (λh105=>?_) (λh105=>?_)
  ·have hO:=P8 h1 h2 h3 (a6h (hC.trans (by rw [h105])))
   exact b2a
  have hO:=P8 h1 h2 h3 (b22 (hC.trans (by rw [h105])))
  exact b2a
 have hD:=b9E (m:=m) h101 hNK h104
 have hir:=@a4u m (a0D (m9 (wrd s 0)) (B9 s)).1
 have cS:=a6v m (a0D (m9 (wrd s 0)) (B9 s)).1.k (a0D (m9 (wrd s 0)) (B9 s)).1.q (a0D (m9 (wrd s 0)) (B9 s)).1.c (a0D (m9 (wrd s 0)) (B9 s)).1.v hs
 have est:(⟨(a0D (m9 (wrd s 0)) (B9 s)).1.k,(a0D (m9 (wrd s 0)) (B9 s)).1.q,(a0D (m9 (wrd s 0)) (B9 s)).1.c,(a0D (m9 (wrd s 0)) (B9 s)).1.v⟩:MStep)=(a0D (m9 (wrd s 0)) (B9 s)).1:=rfl
 rw [est] at cS
 unfold b4i at hD
 generalize smT m (a0D (m9 (wrd s 0)) (B9 s)).1=sr at cS hD hir
 obtain ⟨m1,ir,ok⟩:=sr
 dsimp only at cS hD hir
 refine zgn ?_
 refine s9 (l2 14 [0,1,2,3,4,5,6,7,8,9] mixed Y Z Z (λr0=>?_) (λ_ h=>h))
 refine zsa 0 ?_
 refine zsa 4 ?_
 refine A9 (N:=11) Z (s7 (fuel:=11) [⟨10,14,10,true,.box (avR [.slice none 0 0,.slice none 0 0,.slice none 0 0,.slice none 0 0] [])⟩] (AllVOK.cons (VOK.boxS G Z Z Z Z Z) (AllVOK.nil)) (λhok=>?_))
 refine n6 [(1,[])] Y Y (λe he=>hok e he) Y (AllVS.cons ?_ AllVS.nil)
 refine VStep.mk0 [0,1,2,3,4,5,6,7,8,9] Z Z (λb1 _ hbn=>b5 Z Z (s8 Z Z) (b4 Z)) Y Y Y Y (v7 2 Z Y Z Z Z Z (d3 G Z Z Z Z) Y Y Y (v7 3 Z Y Z Z Z Z (d1 G Z Z Z Z Z Z) Y Y Y (n6 [(5,[])] Y Y (λe he=>hok e he) Y (AllVS.cons ?_ AllVS.nil))))
 refine VStep.mk0 [0,1,2,3,4,5,6,7,8,9] Z Z (λb1 _ hbn=>d4 15 Z Z Z (ArgsOK.of Z) (Ctr.argsTo cS (λw vs h=>c7T flM vs h)) Z Z (b4 Z)) Y Y Y Y (v7 6 Z Y Z Z Z Z (b9 Z Z) Y Y Y (v7 7 Z Y Z Z Z Z (i1 Z Z Z) Y Y Y (v7 8 Z Y Z Z Z Z (i1 Z Z Z) Y Y Y (v7 9 Z Y Z Z Z Z (i1 Z Z Z) Y Y Y (n6 [(11,[10])] Y Y (λe he=>hok e he) Y (AllVS.cons ?_ AllVS.nil))))))
 refine VStep.mk1 [0,1,2,3,4,5,6,7,8,9] 14 (.ptr 10 0) 10 (.box (avR [.slice none 0 0,.slice none 0 0,.slice none 0 0,.slice none 0 0] [])) [] Z Z Z Z Z (λb1 _ hbn=>e9 G Z Z Z Z Z Z Z Z Z Z Z (b4 Z)) Y Y Y Y (G0 ?_)
 clear hok
 refine zsa 12 ?_
 refine zsa 13 ?_
 refine C3 Y ?_
 refine znk ?_
 refine zcd (λh105=>?_) (λh105=>?_)
 ·refine zgo ?_
  refine d8 ⟨.inr Z,_,Z,Z,?_⟩
  have hO:=P8 h1 h2 h3 (a6h (hD.trans (by rw [h105];rfl)))
  refine zwt ?_
  exact b2a
 refine zgo ?_
 refine a7 Z (b5 Z Z (s8 Z Z) ?_)
 refine zcd (λh106=>?_) (λh106=>?_)
 ·refine zcl (y8 ir J J) ?_
  refine zgo ?_
  refine d8 ⟨.inr Z,_,Z,Z,?_⟩
  have hO:=P8 h1 h2 h3 (b22 (hD.trans (by rw [h105,if_pos Z,if_neg h106])))
  refine zwf ?_
  exact b2a
 refine zgo ?_
 refine d8 ⟨.inr Z,_,Z,Z,?_⟩
 have hO:=P8 h1 h2 h3 (b22 (hD.trans (by rw [h105,if_pos Z,if_pos h106])))
 refine zwf ?_
 refine zgo ?_
 refine a7 Z (b5 Z Z (r5 G Z Z Z) ?_)
 refine zcd (λh110=>?_) (λh110=>?_)
 ·try rw [b23 J] at hO
  exact c0s
 try rw [a2l J] at hO
 have hrs:=h110
 refine zgo ?_
 refine a7 Z (b5 Z Z (j4 Z (ArgsOK.of Z) (a0W x ⟨s,_⟩ hx ⟨by show s.size<=_;omega,by first | exact P7 (by decide) | exact N7 J | exact N7 (Int.ofNat_le.1 hrs)⟩) Z) ?_)
 refine zgo ?_
 refine d8 (o8 Z Z Z Z (b3 (c8 Z ?_) (b3 (c8 Z ?_) (b3 (c8 Z ?_) (b3 (A8 Z ?_) (b3 (j8 ?_) (b3 (j8 ?_) (b3 (j8 ?_) (b3 (j8 ?_) d9)))))))))
 all_goals (first | (rw [hO];done) | (rw [hO];rfl))
theorem a24 (m:Mach) (y:Lg) (t:ByteArray) (hs:SmallM m) (hx:y.d.size+y.p.size<=1048576) (hz:t.size<=1048576):Ctr Tryz.prog 8 [.agg [.lst 2 (m.rs.map q9),.lst 1 (m.en.map m8),.lst 1 (m.ra.map m8),.nst none 4 (m.cp.map (r6 104 76)),.v (.string y.d),.v (.string y.p),.v (.int .i64 y.n)],.v (.string t)] (.many [.fr 9 1 ((scT m y t).1.map a0M),.v (.bool (scT m y t).2)]):=by
 have hsl:=F7 (s:=t) (b:=10)
 refine Ctr.of (n:=45) G Tryz.func8 Z a8 Z Z Z (λw0=>?_)
 refine n8 0 Z (λ_=>Z) (λu0=>?_)
 refine vm1 ?_
 refine zcl (O1 m y hs hx) ?_
 refine zcd (λh1=>?_) (λh1=>?_)
 ·have hO:=b9Q (t:=t) h1
  refine zwt ?_
  exact c0n
 refine zgo ?_
 refine a0k ?_
 refine a4z ?_
 refine zcd (λh2=>?_) (λh2=>?_)
 ·have hO:=b9R (m:=m) (y:=y) (t:=t) J
  exact c0n
 refine vm3 ?_
 refine d4 2 Z Z Z (ArgsOK.of Z) (b7N t hz) Z Z ?_
 refine zcd (λh3=>?_) (λh3=>?_)
 ·have hO:=b9S (m:=m) (y:=y) (t:=t) J
  exact c0n
 refine b4o ?_
 refine zgn ?_
 refine zgn ?_
 refine o7 (J6 (Gh.bump 7 (by decide)) (i7 [2,26,27] [1] (λ(x:Bool×Nat)=>match x.1 with | false=>[(7,.own 2),(28,.v (.int .i64 (x.2:Int)))] | true=>[(7,.own 2),(28,.v (.int .i64 (x.2:Int)))]) (λ(x:Bool×Nat)=>match x.1 with | false=>[(0,some (.box [.pin (u0 0) 2 (m.rs.map q9),.pin (u0 1) 1 (m.en.map m8),.pin (u0 2) 1 (m.ra.map m8),.nst (some (u0 3)) 4 (m.cp.map (r6 104 76)),.v (.string y.d),.v (.string y.p),.v (.int .i64 y.n)])),(2,some (.row 9 1 ((a3Q m y t x.2).map a0M)))] | true=>[(0,some (.box [.own 3,.own 4,.own 5,.own 6,.v (.string (a0j m y (csT t) x.2).2.d),.v (.string (a0j m y (csT t) x.2).2.p),.v (.int .i64 (a0j m y (csT t) x.2).2.n)])),(2,some (.row 9 1 ((a3Q m y t x.2).map a0M))),(3,some (.row 132 2 ((a0j m y (csT t) x.2).1.rs.map q9))),(4,some (.row 4 1 ((a0j m y (csT t) x.2).1.en.map m8))),(5,some (.row 4 1 ((a0j m y (csT t) x.2).1.ra.map m8))),(6,some (.nest 74 4 ((a0j m y (csT t) x.2).1.cp.map (a2k 104 76)) []))]) (λ(x:Bool×Nat)=>x.2<=(i6 t 10).length/\(x.1=false→x.2=0)) (λ(x:Bool×Nat)=>(i6 t 10).length - x.2) (false,0) Z Z ?_ ?_ ?_ ?_))
 ·exact ⟨Nat.zero_le _,λ_=>Z⟩
 ·exact a0O
 ·exact b3e
 intro x hinv
 obtain ⟨ph,i⟩:=x;obtain ⟨hi,hph⟩:=hinv;dsimp only at hi hph;cases ph
 ·obtain rfl:i=0:=hph Z
  have hS:=hs
  have hL:=hx
  have hcs:=@a8q t 0
  have hrl:=@W8 m y t 0
  dsimp only
  refine vm2 ?_
  refine zcd (λh4=>?_) (λh4=>?_)
  ·refine c8I ?_
   refine d4 11 Z Z Z (ArgsOK.of Z) (Z4 m y (csT t 0) hS hL J) Z Z ?_
   refine vm3 ?_
   refine c0a ?_
   refine vm3 ?_
   refine m5 G 13 Z Z Z Z Z Z Z Z ?_
   refine p6 ?_
   refine vm4 ?_
   refine zgn ?_
   refine b6 ?_
   refine a2n ?_
   exact c8Z
  exfalso;omega
 obtain ⟨hS,hL⟩:=a9I (cs:=csT t) hs hx i
 have hcs:=@a8q t i
 have hrl:=@W8 m y t i
 dsimp only
 refine vm2 ?_
 refine zcd (λh5=>?_) (λh5=>?_)
 ·refine c8I ?_
  refine d4 11 Z Z Z (ArgsOK.of Z) (Ctr.argsTo (Z4 (a0j m y (csT t) i).1 (a0j m y (csT t) i).2 (csT t i) hS hL J) (λw vs h=>c9H flM vs h)) Z Z ?_
  refine vm3 ?_
  refine c0a ?_
  refine vm3 ?_
  refine m5 G 13 Z Z Z Z Z Z Z Z ?_
  refine p6 ?_
  refine vm4 ?_
  refine zgn ?_
  refine b6 ?_
  refine a2n ?_
  exact c81
 obtain rfl:i=(i6 t 10).length:=J
 have hO:=b9T (m:=m) (y:=y) (t:=t) h1 J J
 refine zgo ?_
 refine d8 (r4 Z Z Z Z (b3 (c8 Z ?_) (b3 (j8 ?_) d9)))
 all_goals exact b92
theorem a8A (m:Mach) (y:Lg) (t:ByteArray) (hs:SmallM m) (hx:y.d.size+y.p.size<=1048576) (hz:t.size<=1048576):Ctr Tryz.prog 9 [.agg [.lst 2 (m.rs.map q9),.lst 1 (m.en.map m8),.lst 1 (m.ra.map m8),.nst none 4 (m.cp.map (r6 104 76)),.v (.string y.d),.v (.string y.p),.v (.int .i64 y.n)],.v (.string t)] (.many [.fr 9 1 ((scT m y t).1.map a0M),.v (.bool (scT m y t).2)]):=by
 have hsl:=F7 (s:=t) (b:=10)
 refine Ctr.of (n:=47) G Tryz.func9 Z a8 Z Z Z (λw0=>?_)
 refine n8 0 Z (λ_=>Z) (λu0=>?_)
 refine vm1 ?_
 refine vm3 ?_
 refine b3b ?_
 refine vm3 ?_
 refine d4 3 Z Z Z (ArgsOK.of Z) (J0 t 10 hz) Z Z ?_
 refine zcl (Y8 m y hs hx) ?_
 refine zcd (λh1=>?_) (λh1=>?_)
 ·have hO:=b9Q (t:=t) h1
  refine zwt ?_
  exact c0m
 refine zgo ?_
 refine a0k ?_
 refine a4z ?_
 refine zcd (λh2=>?_) (λh2=>?_)
 ·have hO:=b9R (m:=m) (y:=y) (t:=t) J
  refine zwt ?_
  exact c0m
 refine zcd (λh3=>?_) (λh3=>?_)
 ·have hO:=b9S (m:=m) (y:=y) (t:=t) J
  exact c0m
 refine zgn ?_
 refine zgn ?_
 refine zgn ?_
 refine o7 (J6 (Gh.bump 7 (by decide)) (i7 [2,7] [2] (λ(x:Bool×Nat)=>match x.1 with | false=>[(6,.own 1),(9,.v (.int .i64 (x.2:Int)))] | true=>[(6,.own 1),(9,.v (.int .i64 (x.2:Int)))]) (λ(x:Bool×Nat)=>match x.1 with | false=>[(0,some (.box [.pin (u0 0) 2 (m.rs.map q9),.pin (u0 1) 1 (m.en.map m8),.pin (u0 2) 1 (m.ra.map m8),.nst (some (u0 3)) 4 (m.cp.map (r6 104 76)),.v (.string y.d),.v (.string y.p),.v (.int .i64 y.n)])),(1,some (.row 9 1 ((a3Q m y t x.2).map a0M)))] | true=>[(0,some (.box [.own 3,.own 4,.own 5,.own 6,.v (.string (a0j m y (csT t) x.2).2.d),.v (.string (a0j m y (csT t) x.2).2.p),.v (.int .i64 (a0j m y (csT t) x.2).2.n)])),(1,some (.row 9 1 ((a3Q m y t x.2).map a0M))),(3,some (.row 132 2 ((a0j m y (csT t) x.2).1.rs.map q9))),(4,some (.row 4 1 ((a0j m y (csT t) x.2).1.en.map m8))),(5,some (.row 4 1 ((a0j m y (csT t) x.2).1.ra.map m8))),(6,some (.nest 74 4 ((a0j m y (csT t) x.2).1.cp.map (r6 104 76)) []))]) (λ(x:Bool×Nat)=>x.2<=(i6 t 10).length/\(x.1=false→x.2=0)) (λ(x:Bool×Nat)=>(i6 t 10).length - x.2) (false,0) Z Z ?_ ?_ ?_ ?_))
 ·exact ⟨Nat.zero_le _,λ_=>Z⟩
 ·exact a0O
 ·exact b3e
 intro x hinv
 obtain ⟨ph,i⟩:=x;obtain ⟨hi,hph⟩:=hinv;dsimp only at hi hph;cases ph
 ·obtain rfl:i=0:=hph Z
  have hS:=hs
  have hL:=hx
  have hcs:=@a8q t 0
  have hrl:=@W8 m y t 0
  dsimp only
  refine vm2 ?_
  refine zcd (λh4=>?_) (λh4=>?_)
  ·refine zgn ?_
   refine s9 (o7 (s9 (l2 11 [1,2] mixed a8 Z Z (λr0=>?_) (λ_ h=>h))))
   refine c8x ?_
   refine b7 (rs:=[0]) a8 Z (AllB.cons ?_ AllB.nil)
   refine g9 [1,2] Z Z ?_
   refine N8 ?_
   refine b7 (rs:=[5]) a8 Z (AllB.cons ?_ AllB.nil)
   refine g9 [1,2] Z Z (d4 11 Z Z Z (ArgsOK.of Z) (B6 m y (csT t 0) hS hL J) Z Z (b4 ⟨Z,?_⟩))
   refine zsa 6 ?_
   refine zsa 7 ?_
   refine zsa 8 ?_
   refine b7 (rs:=[9]) a8 Z (AllB.cons ?_ AllB.nil)
   refine g9 [1,2] Z Z ?_
   refine N8 ?_
   refine zsa 10 ?_
   refine F3 ?_
   refine vm3 ?_
   refine m5 G 12 Z Z Z Z Z Z Z Z ?_
   refine p6 ?_
   refine vm4 ?_
   refine zgn ?_
   refine a2m ?_
   exact c8Z
  exfalso;omega
 obtain ⟨hS,hL⟩:=a9I (cs:=csT t) hs hx i
 have hcs:=@a8q t i
 have hrl:=@W8 m y t i
 dsimp only
 refine vm2 ?_
 refine zcd (λh5=>?_) (λh5=>?_)
 ·refine zgn ?_
  refine s9 (o7 (s9 (l2 11 [1,2,3,4,5,6] mixed a8 Z Z (λr0=>?_) (λ_ h=>h))))
  refine c8x ?_
  refine b7 (rs:=[0]) a8 Z (AllB.cons ?_ AllB.nil)
  refine g9 [1,2,3,4,5,6] Z Z ?_
  refine N8 ?_
  refine b7 (rs:=[5]) a8 Z (AllB.cons ?_ AllB.nil)
  refine g9 [1,2,3,4,5,6] Z Z (d4 11 Z Z Z (ArgsOK.of Z) (B6 (a0j m y (csT t) i).1 (a0j m y (csT t) i).2 (csT t i) hS hL J) Z Z (b4 ⟨Z,?_⟩))
  refine zsa 6 ?_
  refine zsa 7 ?_
  refine zsa 8 ?_
  refine b7 (rs:=[9]) a8 Z (AllB.cons ?_ AllB.nil)
  refine g9 [1,2,3,4,5,6] Z Z ?_
  refine N8 ?_
  refine zsa 10 ?_
  refine F3 ?_
  refine vm3 ?_
  refine m5 G 12 Z Z Z Z Z Z Z Z ?_
  refine p6 ?_
  refine vm4 ?_
  refine zgn ?_
  refine a2m ?_
  exact c81
 obtain rfl:i=(i6 t 10).length:=J
 have hO:=b9T (m:=m) (y:=y) (t:=t) h1 J J
 refine zgo ?_
 refine d8 (r4 Z Z Z Z (b3 (c8 Z ?_) (b3 (j8 ?_) d9)))
 all_goals exact b92
theorem a4Q (m:Mach) (x:Lg) (hs:SmallM m) (hx:x.d.size+x.p.size<=1048576):Ctr Tryz.prog 12 [.agg [.lst 2 (m.rs.map q9),.lst 1 (m.en.map m8),.lst 1 (m.ra.map m8),.nst none 4 (m.cp.map (r6 104 76)),.v (.string x.d),.v (.string x.p),.v (.int .i64 x.n)]] (.many [.v (.string (b7s m x).1),.v (.bool (b7s m x).2)]):=by
 refine Ctr.of (n:=74) G Tryz.func12 Z Y Z Z Z (λw0=>?_)
 refine n8 0 Z (λ_=>Z) (λu0=>?_)
 refine c1 (λK1 hK1=>?_)
 refine b6 (a7 Z (B3 1 Z Z Z Z Z Z Z (a7 Z (b5 Z Z (b8 Z Z) (a7 Z (b5 Z Z (b8 Z Z) (b4 (hK1 _ ?_))))))))
 clear hK1 K1
 refine c1 (λK2 hK2=>?_)
 refine c1 (λK3 hK3=>?_)
 refine b6 (a7 Z (b5 Z Z (d1 G Z Z Z Z Z Z) (a7 Z (b5 Z Z (j4 Z (ArgsOK.of Z) (Y8 m x hs hx) Z) (a7 Z (b5 Z Z (a1z Z Z) (b4 (hK3 _ ?_))))))))
 clear hK3 K3
 refine l4 Z (λh1=>?_) (λh1=>?_)
 ·exact c9r
 ·try rw [h1]
  try simp only [rfb] at h1
  have hO:=b9i h1
  have hM:=maF (a8h h1).1
  have hlo:=a3F (a8h h1).2
  have hc2:=hM.n
  refine p8 (hK2 _ ?_)
  clear hK2 K2
  refine c1 (λK5 hK5=>?_)
  refine b6 (a7 Z (b5 Z Z (b8 Z Z) (b4 (hK5 _ ?_))))
  clear hK5 K5
  refine c1 (λK6 hK6=>?_)
  refine c1 (λK7 hK7=>?_)
  refine b6 (a7 Z (b5 Z Z (b8 Z Z) (b4 (hK7 _ ?_))))
  clear hK7 K7
  refine o7 ?_
  refine i7 [1] [0] (λ(k:Nat)=>[(4,.v (.string (b0Z m k))),(5,.v (.int .i64 (k:Int)))]) (λ(k:Nat)=>[]) (λ(k:Nat)=>k<=m.cp.length) (λ(k:Nat)=>m.cp.length - k) 0 Z Z ?_ ?_ ?_ ?_
  ·exact R9
  ·exact a0O
  ·exact trivial
  ·intro k hk
   simp only [List.cons_append,List.nil_append]
   refine c1 (λK8 hK8=>?_)
   refine c1 (λK9 hK9=>?_)
   refine b6 (a7 Z (b5 Z Z (b9 Z Z) (a7 Z (b5 Z Z (d3 G Z Z Z Z) (a7 Z (b5 Z Z (d3 G Z Z Z Z) (a7 Z (b5 Z Z (b1v (f7 G Z Z Z Z Z Z Z)) (a7 Z ?_)))))))))
   first | refine b5 Z Z (E1 G Z Z Z Z (List.length_map _)) ?_ | refine b5 Z Z (K0 G Z Z Z Z) ?_
   refine a7 Z (b5 Z Z (t8 Z Z Z Z) (b4 (hK9 _ ?_)))
   clear hK9 K9
   refine l4 Z (λh2=>?_) (λh2=>?_)
   ·try rw [h2]
    try simp only [rfb] at h2
    obtain ⟨hI,_,hma,_⟩:=hM.ok k J
    have hfz:=a2U hM k J
    have n1:=b4g (n:=(k:Int)) ⟨by omega,by omega⟩
    have n2:=b4g (n:=(m.cp.getD k default).ma) ⟨by omega,by omega⟩
    have n3:=a8g hI.qu.sl
    have n4:=b2X hI.qu
    rw [← a1V (Nat.le_refl _)] at n4
    have hwn:=hI.qu.wn
    refine p8 (hK8 _ ?_)
    clear hK8 K8
    refine c1 (λK10 hK10=>?_)
    refine o7 ?_
    refine c1 (λK11 hK11=>?_)
    refine b6 (a7 Z (b5 Z Z (d3 G Z Z Z Z) (a7 Z (b5 Z Z (d3 G Z Z Z Z) (a7 Z (b5 Z Z (b1v (f7 G Z Z Z Z Z Z Z)) (a7 Z (b5 Z Z (b9 Z Z) (a7 Z ?_)))))))))
    first | refine b5 Z Z (y7 G Z Z Z Z J (R1 J) Z) ?_ | refine b5 Z Z (y7 G Z Z Z Z J (A7 J J) Z) ?_ | refine b5 Z Z (y7 G Z Z Z Z J (A1 J J) Z) ?_
    refine a7 Z (b5 Z Z (F5 G Z Z Z Z) (a7 Z (d7 G 2 Z Z Z Z Z (a7 Z (a3H 25 Z (λ_=>Z) λv25=>e9 G Z Z Z Z Z Z Z Z Z Z Z (b4 (hK11 _ ?_)))))))
    clear hK11 K11
    refine c1 (λK12 hK12=>?_)
    refine b6 (a7 Z (m5 G 3 Z Z Z Z Z Z Z Z (a7 Z (b5 Z Z (b8 Z Z) (b4 (hK12 _ ?_))))))
    clear hK12 K12
    refine c1 (λK13 hK13=>?_)
    refine c1 (λK14 hK14=>?_)
    refine b6 (a7 Z (b5 Z Z (b8 Z Z) (b4 (hK14 _ ?_))))
    clear hK14 K14
    refine o7 ?_
    refine i7 [1,4,5,6] [0,1] (λ(i:Nat)=>[(7,.own 2),(8,.v (.int .i64 (i:Int)))]) (λ(i:Nat)=>[(2,some (.row 3 1 ((wqS (m.cp.getD k default).qu i).map Rf.r7)))]) (λ(i:Nat)=>i<=(m.cp.getD k default).qu.wa.length) (λ(i:Nat)=>(m.cp.getD k default).qu.wa.length - i) 0 Z Z ?_ ?_ ?_ ?_
    ·exact R9
    ·exact a0O
    ·exact a07
    ·intro i hi
     have hpl:=@a9F (m.cp.getD k default).qu i
     simp only [List.cons_append,List.nil_append]
     refine c1 (λK15 hK15=>?_)
     refine c1 (λK16 hK16=>?_)
     refine b6 (a7 Z (b5 Z Z (b9 Z Z) (a7 Z (b5 Z Z (d3 G Z Z Z Z) (a7 Z (b5 Z Z (d3 G Z Z Z Z) (a7 Z (b5 Z Z (a1K (f7 G Z Z Z Z Z Z Z)) (a7 Z ?_)))))))))
     first | refine b5 Z Z (E1 G Z Z Z Z (List.length_map _)) ?_ | refine b5 Z Z (K0 G Z Z Z Z) ?_
     refine a7 Z (b5 Z Z (t8 Z Z Z Z) (b4 (hK16 _ ?_)))
     clear hK16 K16
     refine l4 Z (λh3=>?_) (λh3=>?_)
     ·try rw [h3]
      try simp only [rfb] at h3
      refine p8 (hK15 _ ?_)
      clear hK15 K15
      refine c1 (λK17 hK17=>?_)
      refine o7 (b6 (a7 Z (b5 Z Z (b9 Z Z) (a7 Z (b5 Z Z (d3 G Z Z Z Z) (a7 Z (b5 Z Z (d3 G Z Z Z Z) (a7 Z (b5 Z Z (a1K (f7 G Z Z Z Z Z Z Z)) (a7 Z (b5 Z Z (b9 Z Z) (a7 Z ?_))))))))))))
      first | refine b5 Z Z (O8 G Z Z Z Z J (R1 J)) ?_ | refine b5 Z Z (O8 G Z Z Z Z J (A7 J J)) ?_ | refine b5 Z Z (O8 G Z Z Z Z J (A1 J J)) ?_
      refine a7 Z (b5 Z Z (a8B G Z Z Z Z) (a7 Z (b5 Z Z (a5O G Z Z Z Z Z) (a7 Z (m5 G 4 Z Z Z Z Z Z Z Z (a7 Z (l1 G np Z Z Z Z Z Z Z Z Z (by first | (simp only [List.length_map,List.length_cons,List.length_nil];omega) | (simp;omega)) Z Z (a7 Z (b5 Z Z (b8 Z Z) (b4 (hK17 _ ?_)))))))))))
      clear hK17 K17
      refine b6 (a7 Z (b5 Z Z (b9 Z Z) (a7 Z ?_)))
      first | refine b5 Z Z (p5 Z Z Z Z J J) ?_ | refine b5 Z Z (s3 Z Z Z Z) ?_
      refine a7 Z (b5 Z Z (b8 Z Z) ?_)
      exact c3Q
     ·try rw [h3]
      try simp only [rfb] at h3
      obtain rfl:i=(m.cp.getD k default).qu.wa.length:=J
      refine G2 (hK13 _ ?_)
      clear hK15 K15 hK13 K13
      refine I2 mixed Y (c6 Z (g8 Z Z (b9 Z Z) (c6 Z (g8 Z Z (s6 Z Z Z (by (try simp only [ByteArray.size_append,i8,List.size_toArray,List.length_cons,List.length_nil]);omega)) (c6 Z (g8 Z Z (b9 Z Z) (c6 Z (g8 Z Z (j4 Z (ArgsOK.of Z) (u7 (k:Int) J J) Z) (c6 Z (g8 Z Z (s6 Z Z Z (by (try simp only [ByteArray.size_append,i8,List.size_toArray,List.length_cons,List.length_nil]);omega)) (c6 Z (g8 Z Z (s6 Z Z Z (by (try simp only [ByteArray.size_append,i8,List.size_toArray,List.length_cons,List.length_nil]);omega)) (c6 Z (g8 Z Z (d3 G Z Z Z Z) (c6 Z (g8 Z Z (f7 G Z Z Z Z Z Z Z) (c6 Z (g8 Z Z (j4 Z (ArgsOK.of Z) (u7 (m.cp.getD k default).ma J J) Z) (c6 Z (g8 Z Z (s6 Z Z Z (by (try simp only [ByteArray.size_append,i8,List.size_toArray,List.length_cons,List.length_nil]);omega)) (c6 Z (g8 Z Z (s6 Z Z Z (by (try simp only [ByteArray.size_append,i8,List.size_toArray,List.length_cons,List.length_nil]);omega)) (c6 Z (g8 Z Z (d3 G Z Z Z Z) (c6 Z (g8 Z Z (d3 G Z Z Z Z) (c6 Z (g8 Z Z (a1K (f7 G Z Z Z Z Z Z Z)) (c6 Z (g8 Z Z (j4 Z (ArgsOK.of Z) (a5N (m.cp.getD k default).qu.sl hI.qu.sl) Z) (c6 Z (g8 Z Z (s6 Z Z Z (by (try simp only [ByteArray.size_append,i8,List.size_toArray,List.length_cons,List.length_nil]);omega)) (c6 Z (g8 Z Z (s6 Z Z Z (by (try simp only [ByteArray.size_append,i8,List.size_toArray,List.length_cons,List.length_nil]);omega)) (c6 Z (g8 Z Z (b9 Z Z) (c6 Z (g8 Z Z (j4 Z (ArgsOK.of Z) (Y7 (wqS (m.cp.getD k default).qu (m.cp.getD k default).qu.wa.length) (by have:=@a9F (m.cp.getD k default).qu (m.cp.getD k default).qu.wa.length;omega) (by rw [a1V (Nat.le_refl _)];exact b9h hI.qu)) Z) (c6 Z (g8 Z Z (s6 Z Z Z (by (try simp only [ByteArray.size_append,i8,List.size_toArray,List.length_cons,List.length_nil]);omega)) (c6 Z (g8 Z Z (s6 Z Z Z (by (try simp only [ByteArray.size_append,i8,List.size_toArray,List.length_cons,List.length_nil]);omega)) (c6 Z (g8 Z Z (b8 Z Z) (S4 (hK10 _ ?_))))))))))))))))))))))))))))))))))))))))))))))
      clear hK10 K10
      refine b6 (a7 Z (b5 Z Z (b9 Z Z) (a7 Z ?_)))
      first | refine b5 Z Z (p5 Z Z Z Z J J) ?_ | refine b5 Z Z (s3 Z Z Z Z) ?_
      refine a7 Z (b5 Z Z (b8 Z Z) ?_)
      refine b4 ⟨(k+1),?_,?_,⟨⟨_,Z,by (first | rfl | (rw [b1O,← a1V (Nat.le_refl _)];rfl))⟩,Z,⟨⟨_,Z,by (first | rfl | (rw [b1O,← a1V (Nat.le_refl _)];rfl))⟩,Z,trivial⟩⟩,trivial,Z,Z,Z⟩
      ·omega
      ·omega
   ·try rw [h2]
    try simp only [rfb] at h2
    obtain rfl:k=m.cp.length:=J
    have hfz:=a2U hM m.cp.length (Nat.le_refl _)
    have n5:=b4g (n:=x.n) ⟨by omega,by omega⟩
    refine G2 (hK6 _ ?_)
    clear hK8 K8 hK6 K6
    refine c1 (λK18 hK18=>?_)
    refine b6 (a7 Z (b5 Z Z (b9 Z Z) (a7 Z (b5 Z Z (s6 Z Z Z (by (try simp only [ByteArray.size_append,i8,List.size_toArray,List.length_cons,List.length_nil]);omega)) (a7 Z (b5 Z Z (d3 G Z Z Z Z) (a7 Z (b5 Z Z (d3 G Z Z Z Z) (a7 Z (b5 Z Z (f7 G Z Z Z Z Z Z Z) (a7 Z (b5 Z Z (j4 Z (ArgsOK.of Z) (u7 x.n J J) Z) (a7 Z (b5 Z Z (s6 Z Z Z (by (try simp only [ByteArray.size_append,i8,List.size_toArray,List.length_cons,List.length_nil]);omega)) (a7 Z (b5 Z Z (s6 Z Z Z (by (try simp only [ByteArray.size_append,i8,List.size_toArray,List.length_cons,List.length_nil]);omega)) (a7 Z (b5 Z Z (b8 Z Z) (a7 Z (b5 Z Z (b8 Z Z) (b4 (hK18 _ ?_))))))))))))))))))))))
    clear hK18 K18
    exact c6O
theorem a4R (m:Mach) (x:Lg) (hs:SmallM m) (hx:x.d.size+x.p.size<=1048576):Ctr Tryz.prog 11 [.agg [.lst 2 (m.rs.map q9),.lst 1 (m.en.map m8),.lst 1 (m.ra.map m8),.nst none 4 (m.cp.map (r6 104 76)),.v (.string x.d),.v (.string x.p),.v (.int .i64 x.n)]] (.many [.v (.string (b7s m x).1),.v (.bool (b7s m x).2)]):=by
 refine Ctr.of (n:=67) G Tryz.func11 Z Y Z Z Z (λw0=>?_)
 refine n8 0 Z (λ_=>Z) (λu0=>?_)
 refine c1 (λK1 hK1=>?_)
 refine b6 (a7 Z (B3 1 Z Z Z Z Z Z Z (a7 Z (b5 Z Z (b8 Z Z) (a7 Z (b5 Z Z (b8 Z Z) (b4 (hK1 _ ?_))))))))
 clear hK1 K1
 refine c1 (λK2 hK2=>?_)
 refine c1 (λK3 hK3=>?_)
 refine b6 (a7 Z (b5 Z Z (d1 G Z Z Z Z Z Z) (a7 Z (b5 Z Z (j4 Z (ArgsOK.of Z) (O1 m x hs hx) Z) (a7 Z (b5 Z Z (a1z Z Z) (b4 (hK3 _ ?_))))))))
 clear hK3 K3
 refine l4 Z (λh1=>?_) (λh1=>?_)
 ·exact c9r
 ·try rw [h1]
  try simp only [rfb] at h1
  have hO:=b9i h1
  have hM:=maF (a8h h1).1
  have hlo:=a3F (a8h h1).2
  have hc2:=hM.n
  refine p8 (hK2 _ ?_)
  clear hK2 K2
  refine c1 (λK5 hK5=>?_)
  refine b6 (a7 Z (b5 Z Z (b8 Z Z) (b4 (hK5 _ ?_))))
  clear hK5 K5
  refine c1 (λK6 hK6=>?_)
  refine c1 (λK7 hK7=>?_)
  refine b6 (a7 Z (b5 Z Z (d3 G Z Z Z Z) (a7 Z (b5 Z Z (d3 G Z Z Z Z) (a7 Z (b5 Z Z (b1v (f7 G Z Z Z Z Z Z Z)) (a7 Z ?_)))))))
  first | refine b5 Z Z (E1 G Z Z Z Z (List.length_map _)) ?_ | refine b5 Z Z (K0 G Z Z Z Z) ?_
  refine a7 Z (b5 Z Z (b9 Z Z) (b4 (hK7 _ ?_)))
  clear hK7 K7
  refine o7 ?_
  refine i7 [1,15,16] [0] (λ(k:Nat)=>[(4,.v (.string (b0Z m k))),(17,.v (.int .i64 (k:Int)))]) (λ(k:Nat)=>[]) (λ(k:Nat)=>k<=m.cp.length) (λ(k:Nat)=>m.cp.length - k) 0 Z Z ?_ ?_ ?_ ?_
  ·exact R9
  ·exact a0O
  ·exact trivial
  ·intro k hk
   simp only [List.cons_append,List.nil_append]
   refine c1 (λK8 hK8=>?_)
   refine b6 (a7 Z (b5 Z Z (t8 Z Z Z Z) (b4 (hK8 _ ?_))))
   clear hK8 K8
   refine c1 (λK9 hK9=>?_)
   refine l4 Z (λh2=>?_) (λh2=>?_)
   ·try rw [h2]
    try simp only [rfb] at h2
    obtain ⟨hI,_,hma,_⟩:=hM.ok k J
    have hfz:=a2U hM k J
    have n1:=b4g (n:=(k:Int)) ⟨by omega,by omega⟩
    have n2:=b4g (n:=(m.cp.getD k default).ma) ⟨by omega,by omega⟩
    have n3:=a8g hI.qu.sl
    have n4:=b2X hI.qu
    rw [← a1V (Nat.le_refl _)] at n4
    have hwn:=hI.qu.wn
    refine p8 (hK9 _ ?_)
    clear hK9 K9
    refine c1 (λK10 hK10=>?_)
    refine o7 ?_
    refine c1 (λK11 hK11=>?_)
    refine b6 (a7 Z (b5 Z Z (b9 Z Z) (a7 Z ?_)))
    first | refine b5 Z Z (y7 G Z Z Z Z J (R1 J) Z) ?_ | refine b5 Z Z (y7 G Z Z Z Z J (A7 J J) Z) ?_ | refine b5 Z Z (y7 G Z Z Z Z J (A1 J J) Z) ?_
    refine a7 Z (b5 Z Z (F5 G Z Z Z Z) (a7 Z (d7 G 2 Z Z Z Z Z (a7 Z (b5 Z Z (b8 Z Z) (a7 Z (a3H 21 Z (λ_=>Z) λv21=>e9 G Z Z Z Z Z Z Z Z Z Z Z (b4 (hK11 _ ?_)))))))))
    clear hK11 K11
    refine c1 (λK12 hK12=>?_)
    refine b6 (a7 Z (m5 G 3 Z Z Z Z Z Z Z Z (a7 Z (b5 Z Z (b8 Z Z) (b4 (hK12 _ ?_))))))
    clear hK12 K12
    refine c1 (λK13 hK13=>?_)
    refine c1 (λK14 hK14=>?_)
    refine b6 (a7 Z (b5 Z Z (d3 G Z Z Z Z) (a7 Z (b5 Z Z (d3 G Z Z Z Z) (a7 Z (b5 Z Z (a1K (f7 G Z Z Z Z Z Z Z)) (a7 Z ?_)))))))
    first | refine b5 Z Z (E1 G Z Z Z Z (List.length_map _)) ?_ | refine b5 Z Z (K0 G Z Z Z Z) ?_
    refine a7 Z (b5 Z Z (b9 Z Z) (b4 (hK14 _ ?_)))
    clear hK14 K14
    refine o7 ?_
    refine i7 [1,4,5,6,15,16,17,25,26] [0,1] (λ(i:Nat)=>[(7,.own 2),(27,.v (.int .i64 (i:Int)))]) (λ(i:Nat)=>[(2,some (.row 3 1 ((wqS (m.cp.getD k default).qu i).map Rf.r7)))]) (λ(i:Nat)=>i<=(m.cp.getD k default).qu.wa.length) (λ(i:Nat)=>(m.cp.getD k default).qu.wa.length - i) 0 Z Z ?_ ?_ ?_ ?_
    ·exact R9
    ·exact a0O
    ·exact a07
    ·intro i hi
     have hpl:=@a9F (m.cp.getD k default).qu i
     simp only [List.cons_append,List.nil_append]
     refine c1 (λK15 hK15=>?_)
     refine b6 (a7 Z (b5 Z Z (t8 Z Z Z Z) (b4 (hK15 _ ?_))))
     clear hK15 K15
     refine c1 (λK16 hK16=>?_)
     refine l4 Z (λh3=>?_) (λh3=>?_)
     ·try rw [h3]
      try simp only [rfb] at h3
      refine p8 (hK16 _ ?_)
      clear hK16 K16
      refine c1 (λK17 hK17=>?_)
      refine o7 ?_
      refine c1 (λK18 hK18=>?_)
      refine b6 (a7 Z ?_)
      first | refine b5 Z Z (O8 G Z Z Z Z J (R1 J)) ?_ | refine b5 Z Z (O8 G Z Z Z Z J (A7 J J)) ?_ | refine b5 Z Z (O8 G Z Z Z Z J (A1 J J)) ?_
      refine a7 Z (b5 Z Z (a1A G Z Z Z Z) (a7 Z (d7 G 4 Z Z Z Z Z (a7 Z (e9 G Z Z Z Z Z Z Z Z Z Z Z (b4 (hK18 _ ?_)))))))
      clear hK18 K18
      refine b6 (a7 Z (b5 Z Z (b9 Z Z) (a7 Z (b5 Z Z (d3 G Z Z Z Z) (a7 Z (b5 Z Z (f7 G Z Z Z Z Z Z Z) (a7 Z (m5 G 5 Z Z Z Z Z Z Z Z (a7 Z (l1 G np Z Z Z Z Z Z Z Z Z (by first | (simp only [List.length_map,List.length_cons,List.length_nil];omega) | (simp;omega)) Z Z (a7 Z (b5 Z Z (b8 Z Z) (b4 (hK17 _ ?_))))))))))))))
      clear hK17 K17
      refine b6 (a7 Z ?_)
      first | refine b5 Z Z (p5 Z Z Z Z J J) ?_ | refine b5 Z Z (s3 Z Z Z Z) ?_
      refine a7 Z (b5 Z Z (b9 Z Z) ?_)
      exact c3Q
     ·try rw [h3]
      try simp only [rfb] at h3
      obtain rfl:i=(m.cp.getD k default).qu.wa.length:=J
      refine G2 (hK13 _ ?_)
      clear hK16 K16 hK13 K13
      refine I2 mixed Y (c6 Z (g8 Z Z (b9 Z Z) (c6 Z (g8 Z Z (b9 Z Z) (c6 Z (g8 Z Z (j4 Z (ArgsOK.of Z) (y8 (k:Int) J J) Z) (c6 Z (g8 Z Z (s6 Z Z Z (by (try simp only [ByteArray.size_append,i8,List.size_toArray,List.length_cons,List.length_nil]);omega)) (c6 Z (g8 Z Z (s6 Z Z Z (by (try simp only [ByteArray.size_append,i8,List.size_toArray,List.length_cons,List.length_nil]);omega)) (c6 Z (g8 Z Z (d3 G Z Z Z Z) (c6 Z (g8 Z Z (f7 G Z Z Z Z Z Z Z) (c6 Z (g8 Z Z (j4 Z (ArgsOK.of Z) (y8 (m.cp.getD k default).ma J J) Z) (c6 Z (g8 Z Z (s6 Z Z Z (by (try simp only [ByteArray.size_append,i8,List.size_toArray,List.length_cons,List.length_nil]);omega)) (c6 Z (g8 Z Z (s6 Z Z Z (by (try simp only [ByteArray.size_append,i8,List.size_toArray,List.length_cons,List.length_nil]);omega)) (c6 Z (g8 Z Z (d3 G Z Z Z Z) (c6 Z (g8 Z Z (d3 G Z Z Z Z) (c6 Z (g8 Z Z (a1K (f7 G Z Z Z Z Z Z Z)) (c6 Z (g8 Z Z (j4 Z (ArgsOK.of Z) (a23 (m.cp.getD k default).qu.sl hI.qu.sl) Z) (c6 Z (g8 Z Z (s6 Z Z Z (by (try simp only [ByteArray.size_append,i8,List.size_toArray,List.length_cons,List.length_nil]);omega)) (c6 Z (g8 Z Z (s6 Z Z Z (by (try simp only [ByteArray.size_append,i8,List.size_toArray,List.length_cons,List.length_nil]);omega)) (c6 Z (g8 Z Z (b9 Z Z) (c6 Z (g8 Z Z (j4 Z (ArgsOK.of Z) (U3 (wqS (m.cp.getD k default).qu (m.cp.getD k default).qu.wa.length) (by have:=@a9F (m.cp.getD k default).qu (m.cp.getD k default).qu.wa.length;omega) (by rw [a1V (Nat.le_refl _)];exact b9h hI.qu)) Z) (c6 Z (g8 Z Z (s6 Z Z Z (by (try simp only [ByteArray.size_append,i8,List.size_toArray,List.length_cons,List.length_nil]);omega)) (c6 Z (g8 Z Z (s6 Z Z Z (by (try simp only [ByteArray.size_append,i8,List.size_toArray,List.length_cons,List.length_nil]);omega)) (c6 Z (g8 Z Z (s6 Z Z Z (by (try simp only [ByteArray.size_append,i8,List.size_toArray,List.length_cons,List.length_nil]);omega)) (c6 Z (g8 Z Z (b8 Z Z) (S4 (hK10 _ ?_))))))))))))))))))))))))))))))))))))))))))))))
      clear hK10 K10
      refine b6 (a7 Z ?_)
      first | refine b5 Z Z (p5 Z Z Z Z J J) ?_ | refine b5 Z Z (s3 Z Z Z Z) ?_
      refine a7 Z (b5 Z Z (b9 Z Z) ?_)
      refine b4 ⟨(k+1),?_,?_,⟨⟨_,Z,by (first | rfl | (rw [a5k,b0v,← a1V (Nat.le_refl _)];rfl))⟩,Z,⟨⟨_,Z,by (first | rfl | (rw [a5k,b0v,← a1V (Nat.le_refl _)];rfl))⟩,Z,trivial⟩⟩,trivial,Z,Z,Z⟩
      ·omega
      ·omega
   ·try rw [h2]
    try simp only [rfb] at h2
    obtain rfl:k=m.cp.length:=J
    have hfz:=a2U hM m.cp.length (Nat.le_refl _)
    have n5:=b4g (n:=x.n) ⟨by omega,by omega⟩
    refine G2 (hK6 _ ?_)
    clear hK9 K9 hK6 K6
    refine c1 (λK19 hK19=>?_)
    refine b6 (a7 Z (b5 Z Z (b9 Z Z) (a7 Z (b5 Z Z (s6 Z Z Z (by (try simp only [ByteArray.size_append,i8,List.size_toArray,List.length_cons,List.length_nil]);omega)) (a7 Z (b5 Z Z (d3 G Z Z Z Z) (a7 Z (b5 Z Z (d3 G Z Z Z Z) (a7 Z (b5 Z Z (f7 G Z Z Z Z Z Z Z) (a7 Z (b5 Z Z (j4 Z (ArgsOK.of Z) (y8 x.n J J) Z) (a7 Z (b5 Z Z (s6 Z Z Z (by (try simp only [ByteArray.size_append,i8,List.size_toArray,List.length_cons,List.length_nil]);omega)) (a7 Z (b5 Z Z (s6 Z Z Z (by (try simp only [ByteArray.size_append,i8,List.size_toArray,List.length_cons,List.length_nil]);omega)) (a7 Z (b5 Z Z (b8 Z Z) (a7 Z (b5 Z Z (b8 Z Z) (b4 (hK19 _ ?_))))))))))))))))))))))
    clear hK19 K19
    exact c6O
theorem a9r (l:List Int) (h0:l.length<=9223372036854775807) (hb:∀j,0<=l.getD j default/\l.getD j default<=255):Ctr Tryz.prog 3 [.lst 1 (l.map B4)] (.one (.v (.bool true))):=by
 refine Ctr.of (n:=123) G Tryz.func3 Z Y Z Z Z (λw0=>?_)
 refine c1 (λK1 hK1=>?_)
 refine b6 (a7 Z (b5 Z Z (b8 Z Z) (b4 (hK1 _ ?_))))
 clear hK1 K1
 refine c1 (λK2 hK2=>?_)
 refine c1 (λK3 hK3=>?_)
 refine b6 (a7 Z (b5 Z Z (b9 Z Z) (a7 Z (b5 Z Z (j4 Z (ArgsOK.of Z) (b4z _ (by first | assumption | omega)) Z) (b4 (hK3 _ ?_))))))
 clear hK3 K3
 refine l4 Z (λh1=>?_) (λh1=>?_)
 ·try rw [h1]
  try simp only [rfb] at h1
  refine c1 (λK4 hK4=>?_)
  refine b6 (a7 Z (b5 Z Z (b8 Z Z) (b4 (hK4 _ ?_))))
  clear hK4 K4
  refine d8 (O3 Z (j8 ?_))
  all_goals clear hK2 K2
  all_goals (first | rfl | (simp_all;done))
 ·try rw [h1]
  try simp only [rfb] at h1
  have hl:X3 l:=⟨by omega,hb⟩
  refine p8 (hK2 _ ?_)
  clear hK2 K2
  refine c1 (λK5 hK5=>?_)
  refine b6 (a7 Z (b5 Z Z (b9 Z Z) (a7 Z ?_)))
  refine d6 4 [] Z Z Z (a4P l hl) Z RowsIn.nil Z (λ_=>Z) Z (λx1 ⟨hv1,hc1⟩=>?_)
  have cP:=a6w x1.2 J
  rw [b9N J] at cP
  have hscl:=@c6g x1.1.1 x1.1.2 x1.2
  refine a7 Z (b5 Z Z (b9 Z Z) (a7 Z (b5 Z Z (i1 Z Z Z) (a7 Z (b5 Z Z (i1 Z Z Z) (a7 Z (d7 G 5 Z Z Z Z Z (a7 Z (e9 G Z Z Z Z Z Z Z Z Z Z Z (a7 Z (b5 Z Z (b8 Z Z) (b4 (hK5 _ ?_)))))))))))))
  clear hK5 K5
  refine c1 (λK6 hK6=>?_)
  refine b6 (a7 Z (b5 Z Z (d1 G Z Z Z Z Z Z) (a7 Z (b5 Z Z (b9 Z Z) (a7 Z (d4 6 Z Z Z (ArgsOK.of Z) (a24 x1.1.1 x1.1.2 x1.2 hv1.1.m hv1.1.l J) Z Z (a7 Z (b5 Z Z (b9 Z Z) (a7 Z (b5 Z Z (i1 Z Z Z) (a7 Z (b5 Z Z (i1 Z Z Z) (a7 Z (b5 Z Z (b8 Z Z) (a7 Z (b5 Z Z (b8 Z Z) (b4 (hK6 _ ?_))))))))))))))))))
  clear hK6 K6
  refine c1 (λK7 hK7=>?_)
  refine b6 (a7 Z (b5 Z Z (d1 G Z Z Z Z Z Z) (a7 Z (b5 Z Z (b9 Z Z) (a7 Z (d4 7 Z Z Z (ArgsOK.of Z) (a8A x1.1.1 x1.1.2 x1.2 hv1.1.m hv1.1.l J) Z Z (a7 Z (b5 Z Z (b9 Z Z) (a7 Z (b5 Z Z (i1 Z Z Z) (a7 Z (b5 Z Z (i1 Z Z Z) (a7 Z (b5 Z Z (b8 Z Z) (a7 Z (b5 Z Z (b8 Z Z) (b4 (hK7 _ ?_))))))))))))))))))
  clear hK7 K7
  refine c1 (λK8 hK8=>?_)
  refine c1 (λK9 hK9=>?_)
  refine b6 (a7 Z (b5 Z Z (b9 Z Z) (a7 Z (b5 Z Z (b9 Z Z) (a7 Z (b5 Z Z (a5A (v':=.bool false) (c67 (G 4 _ Z).1 Z Z Z) (by first | rfl | (simp;done) | (simp [I3,a3m];done))) (a7 Z (b5 Z Z (b9 Z Z) (o9 Z Z Z (b5 Z Z (b9 Z Z) (o9 Z Z Z ?_)))))))))))
  first | refine b5 Z Z (E1 G Z Z Z Z (List.length_map _)) ?_ | refine b5 Z Z (K0 G Z Z Z Z) ?_
  refine o9 Z Z Z (b5 Z Z (b9 Z Z) (o9 Z Z Z ?_))
  first | refine b5 Z Z (E1 G Z Z Z Z (List.length_map _)) ?_ | refine b5 Z Z (K0 G Z Z Z Z) ?_
  refine o9 Z Z Z (b5 Z Z (a5A (v':=.bool false) (t8 Z Z Z Z) (by first | rfl | (simp;done) | (simp [I3,a3m];done))) (a7 Z (b5 Z Z (A6 Z Z Z) (b4 (hK9 _ ?_)))))
  clear hK9 K9
  refine a27 Z (p8 (hK8 _ ?_))
  clear hK8 K8
  refine c1 (λK10 hK10=>?_)
  refine c1 (λK11 hK11=>?_)
  refine b6 (a7 Z (b5 Z Z (b8 Z Z) (b4 (hK11 _ ?_))))
  clear hK11 K11
  refine o7 ?_
  refine i7 [3,4,5,6,7] [0,1,2,3,4,5,6] (λ(i:Nat)=>[(9,.v (.int .i64 (i:Int)))]) (λ(i:Nat)=>[]) (λ(i:Nat)=>i<=(scT x1.1.1 x1.1.2 x1.2).1.length) (λ(i:Nat)=>(scT x1.1.1 x1.1.2 x1.2).1.length - i) 0 Z Z ?_ ?_ ?_ ?_
  ·exact R9
  ·exact E7
  ·exact trivial
  ·intro i hinv
   have hi:=hinv
   simp only [List.cons_append,List.nil_append]
   refine c1 (λK12 hK12=>?_)
   refine c1 (λK13 hK13=>?_)
   refine b6 (a7 Z (b5 Z Z (b9 Z Z) (a7 Z (b5 Z Z (b9 Z Z) (a7 Z ?_)))))
   first | refine b5 Z Z (E1 G Z Z Z Z (List.length_map _)) ?_ | refine b5 Z Z (K0 G Z Z Z Z) ?_
   refine a7 Z (b5 Z Z (t8 Z Z Z Z) (b4 (hK13 _ ?_)))
   clear hK13 K13
   refine l4 Z (λh2=>?_) (λh2=>?_)
   ·try rw [h2]
    try simp only [rfb] at h2
    refine p8 (hK12 _ ?_)
    clear hK12 K12
    refine c1 (λK14 hK14=>?_)
    refine o7 ?_
    refine c1 (λK15 hK15=>?_)
    refine I2 mixed Y (c6 Z (g8 Z Z (b9 Z Z) (c6 Z (g8 Z Z (b9 Z Z) (c6 Z ?_)))))
    first | refine g8 Z Z (c7 G Z Z Z Z Z J (by rw [List.length_map];omega)) ?_ | refine g8 Z Z (c7 G Z Z Z Z Z J (by simp;done)) ?_
    refine c6 Z ?_
    first | refine g8 Z Z (f8 G Z Z Z Z Z (R1 J) Z) ?_ | refine g8 Z Z (f8 G Z Z Z Z Z (A7 J J) Z) ?_ | refine g8 Z Z (f8 G Z Z Z Z Z (R1 (by simp)) Z) ?_
    refine c6 Z (g8 Z Z (b9 Z Z) (c6 Z (g8 Z Z (b9 Z Z) (c6 Z ?_))))
    first | refine g8 Z Z (c7 G Z Z Z Z Z J (by rw [List.length_map];omega)) ?_ | refine g8 Z Z (c7 G Z Z Z Z Z J (by simp;done)) ?_
    refine c6 Z ?_
    first | refine g8 Z Z (f8 G Z Z Z Z Z (R1 J) Z) ?_ | refine g8 Z Z (f8 G Z Z Z Z Z (A7 J J) Z) ?_ | refine g8 Z Z (f8 G Z Z Z Z Z (R1 (by simp)) Z) ?_
    refine c6 Z (g8 Z Z (a5A (v':=.bool false) (w7 Z Z Z Z) (by first | rfl | (simp;done) | (simp [I3,a3m];done))) (S4 (hK15 _ ?_)))
    clear hK15 K15
    refine a27 Z (p8 (hK14 _ ?_))
    clear hK14 K14
    refine b6 (a7 Z (b5 Z Z (b9 Z Z) (a7 Z ?_)))
    first | refine b5 Z Z (p5 Z Z Z Z J J) ?_ | refine b5 Z Z (s3 Z Z Z Z) ?_
    refine a7 Z (b5 Z Z (b8 Z Z) ?_)
    refine b4 ⟨(i+1),?_,?_,⟨⟨_,Z,by rfl⟩,Z,trivial⟩,trivial,Z,Z,Z⟩
    ·omega
    ·omega
   ·try rw [h2]
    try simp only [rfb] at h2
    refine G2 (hK10 _ ?_)
    clear hK12 K12 hK10 K10
    refine c1 (λK16 hK16=>?_)
    refine b6 (a7 Z (b5 Z Z (b9 Z Z) (a7 Z (d4 8 Z Z Z (ArgsOK.of Z) cP Z Z (a7 Z (b5 Z Z (b9 Z Z) (a7 Z (b5 Z Z (i1 Z Z Z) (a7 Z (b5 Z Z (i1 Z Z Z) (a7 Z (b5 Z Z (b8 Z Z) (a7 Z (b5 Z Z (b8 Z Z) (b4 (hK16 _ ?_))))))))))))))))
    clear hK16 K16
    refine c1 (λK17 hK17=>?_)
    refine c1 (λK18 hK18=>?_)
    refine b6 (a7 Z (b5 Z Z (b9 Z Z) (a7 Z (b5 Z Z (a1z Z Z) (a7 Z (b5 Z Z (b9 Z Z) (A5 Z Z Z (λh3=>?_) (λh3=>?_))))))))
    ·try rw [h3]
     try simp only [rfb] at h3
     refine l7 Z Z Z Z Z Z (l7 Z Z Z Z Z Z (l7 Z Z Z Z Z Z (a7 Z (b5 Z Z (w5 Z Z Z) (b4 (hK18 _ ?_))))))
     clear hK18 K18
     refine J4 Z ?_
     refine c1 (λK19 hK19=>?_)
     refine b6 (a7 Z (b5 Z Z (b9 Z Z) (a7 Z (b5 Z Z (b9 Z Z) (A5 Z Z Z (λh4=>?_) (λh4=>?_))))))
     ·try rw [h4]
      try simp only [rfb] at h4
      refine l7 Z Z Z Z Z Z (l7 Z Z Z Z Z Z (l7 Z Z Z Z Z Z (a7 Z (b5 Z Z (w5 Z Z Z) (a7 Z (b5 Z Z (b8 Z Z) (b4 (hK19 _ ?_))))))))
      clear hK19 K19
      exact b6I
     ·try rw [h4]
      try simp only [rfb] at h4
      refine o9 Z Z Z (b5 Z Z (b9 Z Z) (o9 Z Z Z ?_))
      first | refine b5 Z Z (E1 G Z Z Z Z (List.length_map _)) ?_ | refine b5 Z Z (K0 G Z Z Z Z) ?_
      refine o9 Z Z Z (b5 Z Z (a5A (v':=.bool true) (t8 Z Z Z Z) (by rw [c2U (by assumption)];rfl)) (a7 Z (b5 Z Z (A6 Z Z Z) (a7 Z (b5 Z Z (b8 Z Z) (b4 (hK19 _ ?_)))))))
      clear hK19 K19
      exact b6I
    ·try rw [h3]
     try simp only [rfb] at h3
     have hok:=h3
     have hF:=b9V h3
     have cF:=a24 x1.1.1 x1.1.2 (csT x1.2 0) hv1.1.m hv1.1.l (by have:=@a8q x1.2 0;omega)
     rw [hF.1] at cF
     dsimp only at cF
     have hF2:=hF.2.2.2
     have hsl:=F7 (s:=x1.2) (b:=10)
     refine o9 Z Z Z (b5 Z Z (b9 Z Z) (o9 Z Z Z ?_))
     first | refine b5 Z Z (E1 G Z Z Z Z (List.length_map _)) ?_ | refine b5 Z Z (K0 G Z Z Z Z) ?_
     refine o9 Z Z Z (b5 Z Z (t8 Z Z Z Z) (a7 Z (b5 Z Z (A6 Z Z Z) (b4 (hK18 _ ?_)))))
     clear hK18 K18
     refine l4 Z (λh5=>?_) (λh5=>?_)
     ·try rw [h5]
      try simp only [rfb] at h5
      refine c1 (λK20 hK20=>?_)
      refine b6 (a7 Z (b5 Z Z (b9 Z Z) (a7 Z (b5 Z Z (b9 Z Z) (A5 Z Z Z (λh6=>?_) (λh6=>?_))))))
      ·try rw [h6]
       try simp only [rfb] at h6
       refine l7 Z Z Z Z Z Z (l7 Z Z Z Z Z Z (l7 Z Z Z Z Z Z (a7 Z (b5 Z Z (w5 Z Z Z) (a7 Z (b5 Z Z (b8 Z Z) (b4 (hK20 _ ?_))))))))
       clear hK20 K20
       exact b6I
      ·try rw [h6]
       try simp only [rfb] at h6
       refine o9 Z Z Z (b5 Z Z (b9 Z Z) (o9 Z Z Z ?_))
       first | refine b5 Z Z (E1 G Z Z Z Z (List.length_map _)) ?_ | refine b5 Z Z (K0 G Z Z Z Z) ?_
       refine o9 Z Z Z (b5 Z Z (a5A (v':=.bool true) (t8 Z Z Z Z) (by rw [c2U (by assumption)];rfl)) (a7 Z (b5 Z Z (A6 Z Z Z) (a7 Z (b5 Z Z (b8 Z Z) (b4 (hK20 _ ?_)))))))
       clear hK20 K20
       exact b6I
     ·try rw [h5]
      try simp only [rfb] at h5
      refine p8 (hK17 _ ?_)
      clear hK17 K17
      refine c1 (λK21 hK21=>?_)
      refine l2 10 [0,1,2,3,4,5,6,7] mixed Y Z Z (λr0=>?_) (λ_ h=>h)
      refine d5 0 Z Y Y Z Z Z Z (d1 G Z Z Z Z Z Z) (d5 1 Z Y Y Z Z Z Z (b9 Z Z) ?_)
      first | refine d5 2 Z Y Y Z Z Z Z (c7 G Z Z Z Z Z J (by rw [List.length_map];omega)) ?_ | refine d5 2 Z Y Y Z Z Z Z (c7 G Z Z Z Z Z J (by simp;done)) ?_
      first | refine d5 3 Z Y Y Z Z Z Z (f8 G Z Z Z Z Z (R1 J) Z) ?_ | refine d5 3 Z Y Y Z Z Z Z (f8 G Z Z Z Z Z (A7 J J) Z) ?_ | refine d5 3 Z Y Y Z Z Z Z (f8 G Z Z Z Z Z (R1 (by simp)) Z) ?_
      refine b7 (rs:=[4]) Y Z (AllB.cons ?_ AllB.nil)
      refine f9 [0,1,2,3,4,5,6,7] Z Z (d4 9 Z Z Z (ArgsOK.of Z) cF Z Z (b4 ⟨Z,?_⟩))
      refine d5 5 Z Y Y Z Z Z Z (b9 Z Z) (d5 6 Z Y Y Z Z Z Z (i1 Z Z Z) (d5 7 Z Y Y Z Z Z Z (i1 Z Z Z) (d5 8 Z Y Y Z Z Z Z (b8 Z Z) (d5 9 Z Y Y Z Z Z Z (b8 Z Z) (C3 Y (hK21 _ ?_))))))
      clear hK21 K21
      refine c1 (λK22 hK22=>?_)
      refine b6 (a7 Z (b5 Z Z (d1 G Z Z Z Z Z Z) (a7 Z (b5 Z Z (j4 Z (ArgsOK.of Z) (a4R x1.1.1 x1.1.2 hv1.1.m hv1.1.l) Z) (a7 Z (b5 Z Z (b9 Z Z) (a7 Z (b5 Z Z (i1 Z Z Z) (a7 Z (b5 Z Z (i1 Z Z Z) (a7 Z (b5 Z Z (b8 Z Z) (a7 Z (b5 Z Z (b8 Z Z) (b4 (hK22 _ ?_))))))))))))))))
      clear hK22 K22
      refine c1 (λK23 hK23=>?_)
      refine b6 (a7 Z (b5 Z Z (d1 G Z Z Z Z Z Z) (a7 Z (b5 Z Z (j4 Z (ArgsOK.of Z) (a4Q x1.1.1 x1.1.2 hv1.1.m hv1.1.l) Z) (a7 Z (b5 Z Z (b9 Z Z) (a7 Z (b5 Z Z (i1 Z Z Z) (a7 Z (b5 Z Z (i1 Z Z Z) (a7 Z (b5 Z Z (b8 Z Z) (a7 Z (b5 Z Z (b8 Z Z) (b4 (hK23 _ ?_))))))))))))))))
      clear hK23 K23
      refine c1 (λK24 hK24=>?_)
      refine I2 mixed Y (c6 Z (g8 Z Z (b9 Z Z) (c6 Z (g8 Z Z (b9 Z Z) (E9 Z Z Z (g8 Z Z (b9 Z Z) (E9 Z Z Z ?_)))))))
      first | refine g8 Z Z (E1 G Z Z Z Z (List.length_map _)) ?_ | refine g8 Z Z (K0 G Z Z Z Z) ?_
      refine E9 Z Z Z (g8 Z Z (a5A (v':=.bool true) (t8 Z Z Z Z) (by first | rfl | (simp;done) | (rw [show Int.toNat 0=0 from rfl,hF.2.1];simp;done))) (c6 Z (g8 Z Z (w5 Z Z Z) (c6 Z (g8 Z Z (b9 Z Z) (E9 Z Z Z (g8 Z Z (b9 Z Z) (E9 Z Z Z ?_))))))))
      first | refine g8 Z Z (c7 G Z Z Z Z Z J (by rw [List.length_map];omega)) ?_ | refine g8 Z Z (c7 G Z Z Z Z Z J (by simp;done)) ?_
      refine E9 Z Z Z ?_
      first | refine g8 Z Z (f8 G Z Z Z Z Z (R1 J) Z) ?_ | refine g8 Z Z (f8 G Z Z Z Z Z (A7 J J) Z) ?_ | refine g8 Z Z (f8 G Z Z Z Z Z (R1 (by simp)) Z) ?_
      refine E9 Z Z Z (g8 Z Z (b9 Z Z) (E9 Z Z Z ?_))
      first | refine g8 Z Z (c7 G Z Z Z Z Z J (by rw [List.length_map];omega)) ?_ | refine g8 Z Z (c7 G Z Z Z Z Z J (by simp;done)) ?_
      refine E9 Z Z Z ?_
      first | refine g8 Z Z (f8 G Z Z Z Z Z (R1 J) Z) ?_ | refine g8 Z Z (f8 G Z Z Z Z Z (A7 J J) Z) ?_ | refine g8 Z Z (f8 G Z Z Z Z Z (R1 (by simp)) Z) ?_
      refine E9 Z Z Z (g8 Z Z (a5A (v':=.bool true) (w7 Z Z Z Z) (by first | rfl | (simp;done) | (rw [show Int.toNat 0=0 from rfl,hF.2.1];simp;done))) (c6 Z (g8 Z Z (w5 Z Z Z) (c6 Z (g8 Z Z (b9 Z Z) (E9 Z Z Z (g8 Z Z (b9 Z Z) (E9 Z Z Z (g8 Z Z (b9 Z Z) (E9 Z Z Z (g8 Z Z (a5A (v':=.bool true) (w7 Z Z Z Z) (by first | rfl | (simp;done) | (rw [show Int.toNat 0=0 from rfl,hF.2.1];simp;done))) (c6 Z (g8 Z Z (w5 Z Z Z) (c6 Z (g8 Z Z (b9 Z Z) (E9 Z Z Z (g8 Z Z (b9 Z Z) (E9 Z Z Z (g8 Z Z (b9 Z Z) (E9 Z Z Z (g8 Z Z (a5A (v':=.bool true) (c2h (G 4 _ Z).1 Z Z Z) (by first | rfl | (simp;done) | (rw [show Int.toNat 0=0 from rfl,hF.2.1];simp;done))) (c6 Z (g8 Z Z (w5 Z Z Z) (c6 Z (g8 Z Z (b8 Z Z) (S4 (hK24 _ ?_)))))))))))))))))))))))))))
      clear hK24 K24
      exact b6L
end Go.Proofs.YtdhckhjphmjniaaGreatDoor
namespace Go.Proofs.YtdhckhjphmjniaaGreatDoor
open Go Go.ChangeShapes Go.WideShapes Go.ChangeAt Go.RowKit Go.Rf
theorem a4S {H:Type} {enc:TypeId×Value→H} {a:Assume} {C:Checked} {os:Os} {f:FuncId} {fn:Func} {s:ChangeSpec} {conds:List PathCond} {apart fresh handsOn again:Bool} {X:World→Array Value→Prop}
 (hX:∀(w w':World) (args:Array Value),w.heap=w'.heap→X w args→X w' args)
 (own:ownKnob C.prog.godebug=none) (started:os.Started) (noInit:C.prog.inits.idxOf? f=none) (hfn:C.prog.funcs[f]?=some fn)
 (witness:∃(w:World) (tape:Tape) (i:Input),w.os=os/\(w.forCall tape i).Shaped C.prog/\i.vars=[]/\Input.okWide C.prog (w.forCall tape i) .any w.heap.size f i /\
  ((s.pre enc C.prog fn conds apart (w.forCall tape i).memory i.args/\X (w.forCall tape i).memory i.args)/\sizedMet enc C.prog fn (OpenSpec.ofChange s) apart (w.forCall tape i).memory i.args)/\a.holds C.prog (lone (Frame.enter C.prog f i.args .normal) [] (w.forCall tape i)))
 (contract:∀(W:World) (base:Nat) (args:Array Value) (ds gs:List (DataW H)) (before:List MemPlace),
  (∀(j:Nat) t v,fn.params[j]?=some t→args[j]?=some v→Value.okWide C.prog W .any base t v) →
  DataW.Whole enc C.prog fn.params.toList s.vars apart W args.toList ds gs before →
  W.ShapedOpen C.prog→X W args →
  Calls C.prog f args W λe W'=>∃v,e=.returned v/\s.post enc C.prog fn apart fresh handsOn again W args v W') :
 ReturnsInHanded a C os f .any (λw args=>(s.pre enc C.prog fn conds apart w args/\X w args)/\sizedMet enc C.prog fn (OpenSpec.ofChange s) apart w args) (s.post enc C.prog fn apart fresh handsOn again):=by
 refine returnsInHanded_of_calls own started noInit witness ?_
 intro w tape i _ hsh _ hok hpre hholds
 obtain ⟨_,_,_,fn',hfn',_,_,_,_,hval⟩:=hok
 have e:fn'=fn:=Option.some.inj (hfn'.symm.trans hfn)
 subst e
 obtain ⟨⟨⟨ds,gs,before,hw,hc⟩,hx⟩,hz⟩:=hpre
 have hw':=DataW.Whole.of_heap (w':=w.forCall tape i) (by rfl) hw
 refine (contract (w.forCall tape i) w.heap.size i.args ds gs before hval hw' hsh (hX _ _ _ (by rfl) hx)).mono λe W' ⟨v,he,hp⟩=>?_
 subst he
 exact ChangeSpec.post_blind hp
theorem own:ownKnob Tryz.prog.godebug=Option.none:=by kernel_rfl
theorem c2d:laidOutB Tryz.prog=true:=by kernel_rfl
abbrev a7L:List (String×DataW Unit):=[("math/bits.deBruijn32tab",Rows.laid_math_bits_deBruijn32tab),("math/bits.deBruijn64tab",Rows.laid_math_bits_deBruijn64tab),("internal/strconv.uint64pow10",Rows.laid_internal_strconv_uint64pow10),("unicode/utf8.acceptRanges",Rows.laid_unicode_utf8_acceptRanges),("strconv.ErrRange",Rows.laid_strconv_ErrRange),("strconv.ErrSyntax",Rows.laid_strconv_ErrSyntax),("unicode/utf8.first",Rows.laid_unicode_utf8_first)]
abbrev c9M:ByteArray:={ data:=#[105,110,118,97,108,105,100,32,115,121,110,116,97,120] }
abbrev c9N:ByteArray:={ data:=#[118,97,108,117,101,32,111,117,116,32,111,102,32,114,97,110,103,101] }
noncomputable def low:Nat:=(World.holding Tryz.prog default ⟨#[],#[],[]⟩).heap.size
noncomputable def b2d (os:Os):World :=
 let w0:=World.holding Tryz.prog os ⟨#[.cells #[.string c9M] 295,.cells #[.string c9N] 295],#[],[]⟩
 let put (h:Array Obj) (g:Nat) (cs:Array Value):Array Obj:=h.modify g fun
  | .cells _ t frozen=>.cells cs t frozen
  | o=>o
 let h1:=put w0.heap 6 #[.int .u8 0,.int .u8 1,.int .u8 28,.int .u8 2,.int .u8 29,.int .u8 14,.int .u8 24,.int .u8 3,.int .u8 30,.int .u8 22,.int .u8 20,.int .u8 15,.int .u8 25,.int .u8 17,.int .u8 4,.int .u8 8,.int .u8 31,.int .u8 27,.int .u8 13,.int .u8 23,.int .u8 21,.int .u8 19,.int .u8 16,.int .u8 7,.int .u8 26,.int .u8 12,.int .u8 18,.int .u8 6,.int .u8 11,.int .u8 5,.int .u8 10,.int .u8 9]
 let h2:=put h1 7 #[.int .u8 0,.int .u8 1,.int .u8 56,.int .u8 2,.int .u8 57,.int .u8 49,.int .u8 28,.int .u8 3,.int .u8 61,.int .u8 58,.int .u8 42,.int .u8 50,.int .u8 38,.int .u8 29,.int .u8 17,.int .u8 4,.int .u8 62,.int .u8 47,.int .u8 59,.int .u8 36,.int .u8 45,.int .u8 43,.int .u8 51,.int .u8 22,.int .u8 53,.int .u8 39,.int .u8 33,.int .u8 30,.int .u8 24,.int .u8 18,.int .u8 12,.int .u8 5,.int .u8 63,.int .u8 55,.int .u8 48,.int .u8 27,.int .u8 60,.int .u8 41,.int .u8 37,.int .u8 16,.int .u8 46,.int .u8 35,.int .u8 44,.int .u8 21,.int .u8 52,.int .u8 32,.int .u8 23,.int .u8 11,.int .u8 54,.int .u8 26,.int .u8 40,.int .u8 15,.int .u8 34,.int .u8 20,.int .u8 31,.int .u8 10,.int .u8 25,.int .u8 14,.int .u8 19,.int .u8 9,.int .u8 13,.int .u8 8,.int .u8 7,.int .u8 6]
 let h3:=put h2 1 #[.int .u64 1,.int .u64 10,.int .u64 100,.int .u64 1000,.int .u64 10000,.int .u64 100000,.int .u64 1000000,.int .u64 10000000,.int .u64 100000000,.int .u64 1000000000,.int .u64 10000000000,.int .u64 100000000000,.int .u64 1000000000000,.int .u64 10000000000000,.int .u64 100000000000000,.int .u64 1000000000000000,.int .u64 10000000000000000,.int .u64 100000000000000000,.int .u64 1000000000000000000,.int .u64 10000000000000000000]
 let h4:=put h3 3 #[.int .u8 128,.int .u8 191,.int .u8 160,.int .u8 191,.int .u8 128,.int .u8 159,.int .u8 144,.int .u8 191,.int .u8 128,.int .u8 143,.int .u8 0,.int .u8 0,.int .u8 0,.int .u8 0,.int .u8 0,.int .u8 0,.int .u8 0,.int .u8 0,.int .u8 0,.int .u8 0,.int .u8 0,.int .u8 0,.int .u8 0,.int .u8 0,.int .u8 0,.int .u8 0,.int .u8 0,.int .u8 0,.int .u8 0,.int .u8 0,.int .u8 0,.int .u8 0]
 let h5:=put h4 5 #[.iface 293 (.pointer (some ⟨low+1,0,none⟩))]
 let h6:=put h5 4 #[.iface 293 (.pointer (some ⟨low,0,none⟩))]
 let h7:=put h6 2 (Go.Pinned.utf8FirstZ.map (λ(n:Nat)=>Value.int .u8 (n:Int))).toArray
 { w0 with heap:=h7 }
theorem c0x (os:Os) (args:Array Value):laidMet Tryz.prog a7L ((b2d os).forCall (λ_ _=>0) ⟨#[],args,[]⟩).memory :=
 (LaidIn.of_run [6,7,1,3,5,low+1,4,low,2] 8 Y Y Y Y).met
theorem gP:Tryz.prog.globalNamed "internal/strconv.uint64pow10" = some 1:=by kernel_rfl
theorem c6Y:(Tryz.prog.globals[1]?).map (·.type)=some 224:=by kernel_rfl
theorem c6Z:Tryz.prog.cellsOf 59=1:=by kernel_rfl
theorem c60:Tryz.prog.cellsOf 224=20:=by kernel_rfl
theorem c9O:(Rows.laid_internal_strconv_uint64pow10:DataW Unit)=Lib.tabData .u64 Lib.pow10Tab:=by kernel_rfl
theorem c61 {W:World} (h:laidMet Tryz.prog a7L W):Lib.TabIs Tryz.prog W "internal/strconv.uint64pow10" .u64 Lib.pow10Tab:=by
 have h2:=h.tail.tail
 rw [c9O] at h2
 exact Lib.tabIs_of_head gP c6Y Tryz.underlying224 Tryz.underlying59 c6Z c60 h2
theorem gES:Tryz.prog.globalNamed "strconv.ErrSyntax" = some 4:=by kernel_rfl
theorem c2e:(Tryz.prog.globals[4]?).map (·.type)=some 149:=by kernel_rfl
theorem c0y:Tryz.prog.cellsOf 295=1:=by kernel_rfl
theorem c62:Tryz.prog.cellsOf 9=1:=by kernel_rfl
theorem c9s : "*" ++ "errors.errorString" = "*errors.errorString" := by decide
theorem c63 (u:TypeId) (h:Tryz.prog.typeName? 3 u=some "*errors.errorString"):u=293 :=
 typeName_ptr_named (nm := "errors.errorString") (by rw [c9s];kernel_rfl) Y (by decide) u (by rw [c9s];exact h)
theorem c64 {W:World} (h:laidMet Tryz.prog a7L W):∃ev:Value,W.cell? ⟨4,0,none⟩=some ev/\(ev=.nilIface∨∃te pe,ev=.iface te pe):=by
 obtain ⟨a0,s0,hv0,-,-,-⟩:=laid_sentinel h.tail.tail.tail.tail.tail gES c2e Tryz.underlying149 c63 Tryz.underlying293 Tryz.underlying295 Z Z Tryz.underlying9 c0y c62
 exact ⟨_,by have h0:=World.var?_cell gES hv0 0;simpa using h0,.inr ⟨_,_,Z⟩⟩
theorem c65 {W:World} (h:laidMet Tryz.prog a7L W) (hsh:W.ShapedOpen Tryz.prog):Env.E Tryz.prog W:=⟨c61 h,c64 h,b7L W hsh⟩
end Go.Proofs.YtdhckhjphmjniaaGreatDoor
