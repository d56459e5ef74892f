/- Texts merged into one: G4, G6, K1, G7, G8, G9, V1, Q6, L8, R1, R2, Y2. -/
import Derived.Test.YtdhckhjphmjniaaGreatDoorPFnReplayJ
set_option maxHeartbeats 4000000
set_option linter.unusedSimpArgs false
set_option linter.unusedVariables false
set_option maxRecDepth 20000
namespace Go.Proofs.YtdhckhjphmjniaaGreatDoor
open Go Go.Rf
theorem a5j {x:Cur} {n:Int} (h:okC n x) (hn:n<=850000000000):CtrX (α:=(Mach×Lg)×Cur) Tryz.prog 27 [.ptr 0 0] [.box [.lst 1 (x.c.map B1),.v (.int .i64 x.a),.v (.int .u64 x.s)]] (λy=>(DrC y.1)/\okC (n+3000) y.2) (λy=>.shp true [some 7] [.fr 132 2 (y.1.1.rs.map p5),.fr 4 1 (y.1.1.en.map m9),.fr 4 1 (y.1.1.ra.map m9),.ne 74 4 (y.1.1.cp.map (s2 104 76)),.v (.string y.1.2.d),.v (.string y.1.2.p),.v (.int .i64 y.1.2.n)]) (λy=>[some (.box [.lst 1 (y.2.c.map B1),.v (.int .i64 y.2.a),.v (.int .u64 y.2.s)])]):=by
 refine CtrX.of (n:=32) (k:=1) G Tryz.func27 Z Y Z Z Z Z (λ_=>Z) Z Z (λw0 _ hpin=>?_)
 refine c1 (λK1 hK1=>?_)
 refine b6 (a7 Z (d6 G 2 Z Z Z Z Z (b4 (hK1 _ ?_))))
 clear hK1 K1
 refine c1 (λK2 hK2=>?_)
 refine b6 (a7 Z (b5 Z Z (b8 Z Z) (a7 Z ?_)))
 refine d4 6 [0] Z Z Z (a5g h J) Z (RowsIn.cons Z RowsIn.nil) Z (λ_=>Z) Z (λx1 ⟨hv1,hc1⟩=>?_)
 refine a7 Z (b5 Z Z (u3 G Z Z Z Z) (a7 Z (d6 G 7 Z Z Z Z Z (a7 Z (f6 G Z Z Z Z Z Z Z Z Z Z Z (b4 (hK2 _ ?_)))))))
 clear hK2 K2
 refine c1 (λK3 hK3=>?_)
 refine c1 (λK4 hK4=>?_)
 refine b6 (a7 Z (b5 Z Z (b8 Z Z) (a7 Z ?_)))
 refine d4 7 [0] Z Z Z (r3 hc1 J (7)) Z (RowsIn.cons Z RowsIn.nil) Z (λ_=>Z) Z (λx2 ⟨hv2,hc2⟩=>?_)
 refine a7 Z (b5 Z Z (b9 Z Z) (b4 (hK4 _ ?_)))
 clear hK4 K4
 refine p8 ?_
 refine i6 [0,2,3] [1] (λ(z:Nat×Cur×(Mach×Lg))=>[(4,.v (.int .i64 (x2.1 - z.1)))]) (λ(z:Nat×Cur×(Mach×Lg))=>[(0,some (.box [.lst 1 (z.2.1.c.map B1),.v (.int .i64 z.2.1.a),.v (.int .u64 z.2.1.s)])),(2,some (.row 132 2 ((z.2.2).1.rs.map p5))),(3,some (.row 4 1 ((z.2.2).1.en.map m9))),(4,some (.row 4 1 ((z.2.2).1.ra.map m9))),(5,some (.nest 74 4 ((z.2.2).1.cp.map (s2 104 76)) [])),(6,some (.box [.own 2,.own 3,.own 4,.own 5,.v (.string (z.2.2).2.d),.v (.string (z.2.2).2.p),.v (.int .i64 (z.2.2).2.n)]))]) (λ(z:Nat×Cur×(Mach×Lg))=>(z.1:Int)<=x2.1/\DrC z.2.2/\okC (n+2010+30 * z.1) z.2.1) (λ(z:Nat×Cur×(Mach×Lg))=>x2.1.toNat - z.1) (0,x2.2,(x1.1,lg0)) Z Z ?_ ?_ ?_ ?_
 ·exact ⟨hv2.1,⟨hv1.small,(Nat.zero_le 1048576:lg0.d.size+lg0.p.size<=1048576)⟩,hc2.mono (by simp;omega)⟩
 ·exact b1i
 ·exact c3z
 ·intro z hinv
  obtain ⟨hz1,hzC,hz⟩:=hinv
  have hzm:=hzC.m
  have hzl:=hzC.l
  have hzc:=hzC.cp
  simp only [List.cons_append,List.nil_append]
  refine c1 (λK5 hK5=>?_)
  refine c1 (λK6 hK6=>?_)
  refine b6 (a7 Z (b5 Z Z (b8 Z Z) (a7 Z (b5 Z Z (u4 Z Z Z Z) (a7 Z (b5 Z Z (b8 Z Z) (D9 Z Z Z (λh1=>?_) (λh1=>?_))))))))
  ·try rw [h1]
   try simp only [rfb] at h1
   refine m7 Z Z Z (b5 Z Z (c6 G Z Z Z Z Z Z) (m7 Z Z Z (b5 Z Z (i7 Z (ArgsOK.of Z) (a5i z.2.2.1 z.2.2.2 hzm hzl) Z) (a7 Z (b5 Z Z (z6 Z Z Z) (b4 (hK6 _ ?_)))))))
   clear hK6 K6
   refine l1 Z (λh2=>?_) (λh2=>?_)
   ·try rw [h2]
    try simp only [rfb] at h2
    refine r7 (hK5 _ ?_)
    clear hK5 K5
    refine c1 (λK7 hK7=>?_)
    refine p8 ?_
    refine j7 9 [1] mixed Y Z Z (λr0=>?_) (λ_ h=>h)
    refine c8 1 Z Y Y Z Z Z Z (b8 Z Z) ?_
    refine b7 (rs:=[0,2]) Y Z (AllB.cons ?_ (AllB.cons ?_ AllB.nil))
    ·refine e9 [1] Z Z (b5 Z Z (c6 G Z Z Z Z Z Z) (b4 ⟨Z,?_⟩))
     refine b7 (rs:=[2]) Y Z (AllB.cons ?_ AllB.nil)
     refine e9 [1] Z Z (b5 Z Z (c6 G Z Z Z Z Z Z) (b4 ⟨Z,?_⟩))
     refine b7 (rs:=[3]) Y Z (AllB.cons ?_ AllB.nil)
     refine e9 [1] Z Z (d4 7 [0,2,3,4,5] Z Z Z (w7 hz J z.2.2.1 z.2.2.2 (by assumption)) Z (RowsIn.cons Z (RowsIn.cons Z (RowsIn.cons Z (RowsIn.cons Z (RowsIn.cons Z RowsIn.nil))))) Z (λ_=>Z) Z (λx3 ⟨hv3,hc3⟩=>b4 ⟨Z,?_⟩))
     refine b7 (rs:=[4]) Y Z (AllB.cons ?_ AllB.nil)
     refine e9 [1] Z Z (d3 11 Z Z Z (ArgsOK.of Z) (y7 z.2.2.1 z.2.2.2 _ (by assumption) (by assumption) J) Z Z (b4 ⟨Z,?_⟩))
     refine c8 5 Z Y Y Z Z Z Z (b8 Z Z) (c8 6 Z Y Y Z Z Z Z (e7 Z Z Z) (c8 7 Z Y Y Z Z Z Z (e7 Z Z Z) ?_))
     refine b7 (rs:=[8]) Y Z (AllB.cons ?_ AllB.nil)
     refine e9 [1] Z Z (f6 G Z Z Z Z Z Z Z Z Z Z Z (b4 ⟨Z,?_⟩))
     refine z7 Y (hK7 _ ?_)
     clear hK7 K7
     refine b6 (a7 Z (b5 Z Z (b8 Z Z) (a7 Z ?_)))
     first | refine b5 Z Z (q9 Z Z Z Z J J) ?_ | refine b5 Z Z (s6 Z Z Z Z) ?_
     refine a7 Z (b5 Z Z (b9 Z Z) (r4 (Gh.sub 7 2 (by rw [hpin];decide) Z Z Z) (r4 (Gh.sub 8 3 (by rw [hpin];decide) Z Z Z) (r4 (Gh.sub 9 4 (by rw [hpin];decide) Z Z Z) (r4 (Gh.sub 10 5 (by rw [hpin];decide) Z Z Z) ?_)))))
     refine b4 ⟨(z.1+1,x3.2,((exC z.2.2.1 z.2.2.2 x3.1).1,(exC z.2.2.1 z.2.2.2 x3.1).2.1)),?_,?_,⟨⟨_,Z,by (first | rfl | exact congrArg (λv=>AV.v (.int .i64 v)) (by show x2.1 - (z.1:Int) - 1=x2.1 - ((z.1+1:Nat):Int);omega))⟩,Z,trivial⟩,⟨⟨_,Z,by rfl⟩,Z,Z,⟨⟨_,Z,by rfl⟩,Z,Z,⟨⟨_,Z,by rfl⟩,Z,Z,⟨⟨_,Z,by rfl⟩,Z,Z,⟨⟨_,Z,by rfl⟩,Z,Z,⟨⟨_,Z,by rfl⟩,Z,Z,trivial⟩⟩⟩⟩⟩⟩,Z,Z,Z⟩
     ·exact ⟨by show ((z.1+1:Nat):Int)<=x2.1;omega,hzC.next,hc3.mono (by simp;omega)⟩
     ·exact c1J
    ·refine e9 [1] Z Z (b5 Z Z (c6 G Z Z Z Z Z Z) (b4 ⟨Z,?_⟩))
     refine b7 (rs:=[0,3]) Y Z (AllB.cons ?_ (AllB.cons ?_ AllB.nil))
     ·refine e9 [1] Z Z (b5 Z Z (c6 G Z Z Z Z Z Z) (b4 ⟨Z,?_⟩))
      refine b7 (rs:=[3]) Y Z (AllB.cons ?_ AllB.nil)
      refine e9 [1] Z Z (d4 7 [0,2,3,4,5] Z Z Z (w7 hz J z.2.2.1 z.2.2.2 (by assumption)) Z (RowsIn.cons Z (RowsIn.cons Z (RowsIn.cons Z (RowsIn.cons Z (RowsIn.cons Z RowsIn.nil))))) Z (λ_=>Z) Z (λx4 ⟨hv4,hc4⟩=>b4 ⟨Z,?_⟩))
      refine b7 (rs:=[4]) Y Z (AllB.cons ?_ AllB.nil)
      refine e9 [1] Z Z (d3 11 Z Z Z (ArgsOK.of Z) (y7 z.2.2.1 z.2.2.2 _ (by assumption) (by assumption) J) Z Z (b4 ⟨Z,?_⟩))
      refine c8 5 Z Y Y Z Z Z Z (b8 Z Z) (c8 6 Z Y Y Z Z Z Z (e7 Z Z Z) (c8 7 Z Y Y Z Z Z Z (e7 Z Z Z) ?_))
      refine b7 (rs:=[8]) Y Z (AllB.cons ?_ AllB.nil)
      refine e9 [1] Z Z (f6 G Z Z Z Z Z Z Z Z Z Z Z (b4 ⟨Z,?_⟩))
      refine z7 Y (hK7 _ ?_)
      clear hK7 K7
      refine b6 (a7 Z (b5 Z Z (b8 Z Z) (a7 Z ?_)))
      first | refine b5 Z Z (q9 Z Z Z Z J J) ?_ | refine b5 Z Z (s6 Z Z Z Z) ?_
      refine a7 Z (b5 Z Z (b9 Z Z) (r4 (Gh.sub 7 2 (by rw [hpin];decide) Z Z Z) (r4 (Gh.sub 8 3 (by rw [hpin];decide) Z Z Z) (r4 (Gh.sub 9 4 (by rw [hpin];decide) Z Z Z) (r4 (Gh.sub 10 5 (by rw [hpin];decide) Z Z Z) ?_)))))
      refine b4 ⟨(z.1+1,x4.2,((exC z.2.2.1 z.2.2.2 x4.1).1,(exC z.2.2.1 z.2.2.2 x4.1).2.1)),?_,?_,⟨⟨_,Z,by (first | rfl | exact congrArg (λv=>AV.v (.int .i64 v)) (by show x2.1 - (z.1:Int) - 1=x2.1 - ((z.1+1:Nat):Int);omega))⟩,Z,trivial⟩,⟨⟨_,Z,by rfl⟩,Z,Z,⟨⟨_,Z,by rfl⟩,Z,Z,⟨⟨_,Z,by rfl⟩,Z,Z,⟨⟨_,Z,by rfl⟩,Z,Z,⟨⟨_,Z,by rfl⟩,Z,Z,⟨⟨_,Z,by rfl⟩,Z,Z,trivial⟩⟩⟩⟩⟩⟩,Z,Z,Z⟩
      ·exact ⟨by show ((z.1+1:Nat):Int)<=x2.1;omega,hzC.next,hc4.mono (by simp;omega)⟩
      ·exact c1J
     ·refine e9 [1] Z Z (d4 7 [0,2,3,4,5] Z Z Z (w7 hz J z.2.2.1 z.2.2.2 (by assumption)) Z (RowsIn.cons Z (RowsIn.cons Z (RowsIn.cons Z (RowsIn.cons Z (RowsIn.cons Z RowsIn.nil))))) Z (λ_=>Z) Z (λx5 ⟨hv5,hc5⟩=>b4 ⟨Z,?_⟩))
      refine b7 (rs:=[0]) Y Z (AllB.cons ?_ AllB.nil)
      refine e9 [1] Z Z (b5 Z Z (c6 G Z Z Z Z Z Z) (b4 ⟨Z,?_⟩))
      refine b7 (rs:=[4]) Y Z (AllB.cons ?_ AllB.nil)
      refine e9 [1] Z Z (d3 11 Z Z Z (ArgsOK.of Z) (y7 z.2.2.1 z.2.2.2 _ (by assumption) (by assumption) J) Z Z (b4 ⟨Z,?_⟩))
      refine c8 5 Z Y Y Z Z Z Z (b8 Z Z) (c8 6 Z Y Y Z Z Z Z (e7 Z Z Z) (c8 7 Z Y Y Z Z Z Z (e7 Z Z Z) ?_))
      refine b7 (rs:=[8]) Y Z (AllB.cons ?_ AllB.nil)
      refine e9 [1] Z Z (f6 G Z Z Z Z Z Z Z Z Z Z Z (b4 ⟨Z,?_⟩))
      refine z7 Y (hK7 _ ?_)
      clear hK7 K7
      refine b6 (a7 Z (b5 Z Z (b8 Z Z) (a7 Z ?_)))
      first | refine b5 Z Z (q9 Z Z Z Z J J) ?_ | refine b5 Z Z (s6 Z Z Z Z) ?_
      refine a7 Z (b5 Z Z (b9 Z Z) (r4 (Gh.sub 7 2 (by rw [hpin];decide) Z Z Z) (r4 (Gh.sub 8 3 (by rw [hpin];decide) Z Z Z) (r4 (Gh.sub 9 4 (by rw [hpin];decide) Z Z Z) (r4 (Gh.sub 10 5 (by rw [hpin];decide) Z Z Z) ?_)))))
      refine b4 ⟨(z.1+1,x5.2,((exC z.2.2.1 z.2.2.2 x5.1).1,(exC z.2.2.1 z.2.2.2 x5.1).2.1)),?_,?_,⟨⟨_,Z,by (first | rfl | exact congrArg (λv=>AV.v (.int .i64 v)) (by show x2.1 - (z.1:Int) - 1=x2.1 - ((z.1+1:Nat):Int);omega))⟩,Z,trivial⟩,⟨⟨_,Z,by rfl⟩,Z,Z,⟨⟨_,Z,by rfl⟩,Z,Z,⟨⟨_,Z,by rfl⟩,Z,Z,⟨⟨_,Z,by rfl⟩,Z,Z,⟨⟨_,Z,by rfl⟩,Z,Z,⟨⟨_,Z,by rfl⟩,Z,Z,trivial⟩⟩⟩⟩⟩⟩,Z,Z,Z⟩
      ·exact ⟨by show ((z.1+1:Nat):Int)<=x2.1;omega,hzC.next,hc5.mono (by simp;omega)⟩
      ·exact c1J
   ·try rw [h2]
    try simp only [rfb] at h2
    refine J0 (hK3 _ ?_)
    clear hK5 K5 hK3 K3
    refine c1 (λK8 hK8=>?_)
    refine c1 (λK9 hK9=>?_)
    refine b6 (a7 Z (b5 Z Z (b8 Z Z) (a7 Z ?_)))
    refine d4 7 [0] Z Z Z (a4b hz J (24)) Z (RowsIn.cons Z RowsIn.nil) Z (λ_=>Z) Z (λx6 ⟨hv6,hc6⟩=>?_)
    refine b4 (hK9 _ ?_)
    clear hK9 K9
    refine l1 Z (λh3=>?_) (λh3=>?_)
    ·try rw [h3]
     try simp only [rfb] at h3
     refine b6 (a7 Z (b5 Z Z (b8 Z Z) (a7 Z ?_)))
     refine d4 7 [0] Z Z Z (a0k hc6 J) Z (RowsIn.cons Z RowsIn.nil) Z (λ_=>Z) Z (λx7 ⟨hv7,hc7⟩=>?_)
     refine a7 Z (b5 Z Z (d5 G Z Z Z Z) (a7 Z (f6 G Z Z Z Z Z Z Z Z Z Z Z (b4 (hK8 _ ?_)))))
     clear hK8 K8
     refine c1 (λK10 hK10=>?_)
     refine b6 (a7 Z (b5 Z Z (c6 G Z Z Z Z Z Z) (a7 Z (f6 G Z Z Z Z Z Z Z Z Z Z Z (b4 (hK10 _ ?_))))))
     clear hK10 K10
     refine d7 (A3 (((z.2.2.1,x7.1),x7.2)) (w5 Z Z Z Z (b3 (c7 Z ?_) (b3 (c7 Z ?_) (b3 (c7 Z ?_) (b3 (B2 Z ?_) (b3 (i8 ?_) (b3 (i8 ?_) (b3 (i8 ?_) d9))))))) Z (AftOK.stays Z ?_ Z AftOK.nil)) (⟨?_,?_⟩))
     all_goals (first | rfl | exact hc7.mono J | exact hzC | exact ⟨hzm,hv7⟩)
    ·try rw [h3]
     try simp only [rfb] at h3
     refine r7 (hK8 _ ?_)
     clear hK8 K8
     refine c1 (λK11 hK11=>?_)
     refine b6 (a7 Z (b5 Z Z (c6 G Z Z Z Z Z Z) (a7 Z (f6 G Z Z Z Z Z Z Z Z Z Z Z (b4 (hK11 _ ?_))))))
     clear hK11 K11
     refine d7 (A3 ((z.2.2,x6.2)) (w5 Z Z Z Z (b3 (c7 Z ?_) (b3 (c7 Z ?_) (b3 (c7 Z ?_) (b3 (B2 Z ?_) (b3 (i8 ?_) (b3 (i8 ?_) (b3 (i8 ?_) d9))))))) Z (AftOK.stays Z ?_ Z AftOK.nil)) (⟨?_,?_⟩))
     all_goals (first | rfl | exact hc6.mono J | exact hzC | exact ⟨hzm,hv6⟩)
  ·try rw [h1]
   try simp only [rfb] at h1
   refine l7 Z Z Z Z Z Z (l7 Z Z Z Z Z Z (a7 Z (b5 Z Z (B7 Z Z Z) (b4 (hK6 _ ?_)))))
   clear hK6 K6
   refine Y6 Z (J0 (hK3 _ ?_))
   clear hK5 K5 hK3 K3
   refine c1 (λK12 hK12=>?_)
   refine c1 (λK13 hK13=>?_)
   refine b6 (a7 Z (b5 Z Z (b8 Z Z) (a7 Z ?_)))
   refine d4 7 [0] Z Z Z (a4b hz J (24)) Z (RowsIn.cons Z RowsIn.nil) Z (λ_=>Z) Z (λx8 ⟨hv8,hc8⟩=>?_)
   refine b4 (hK13 _ ?_)
   clear hK13 K13
   refine l1 Z (λh4=>?_) (λh4=>?_)
   ·try rw [h4]
    try simp only [rfb] at h4
    refine b6 (a7 Z (b5 Z Z (b8 Z Z) (a7 Z ?_)))
    refine d4 7 [0] Z Z Z (a0k hc8 J) Z (RowsIn.cons Z RowsIn.nil) Z (λ_=>Z) Z (λx9 ⟨hv9,hc9⟩=>?_)
    refine a7 Z (b5 Z Z (d5 G Z Z Z Z) (a7 Z (f6 G Z Z Z Z Z Z Z Z Z Z Z (b4 (hK12 _ ?_)))))
    clear hK12 K12
    refine c1 (λK14 hK14=>?_)
    refine b6 (a7 Z (b5 Z Z (c6 G Z Z Z Z Z Z) (a7 Z (f6 G Z Z Z Z Z Z Z Z Z Z Z (b4 (hK14 _ ?_))))))
    clear hK14 K14
    refine d7 (A3 (((z.2.2.1,x9.1),x9.2)) (w5 Z Z Z Z (b3 (c7 Z ?_) (b3 (c7 Z ?_) (b3 (c7 Z ?_) (b3 (B2 Z ?_) (b3 (i8 ?_) (b3 (i8 ?_) (b3 (i8 ?_) d9))))))) Z (AftOK.stays Z ?_ Z AftOK.nil)) (⟨?_,?_⟩))
    all_goals (first | rfl | exact hc9.mono J | exact hzC | exact ⟨hzm,hv9⟩)
   ·try rw [h4]
    try simp only [rfb] at h4
    refine r7 (hK12 _ ?_)
    clear hK12 K12
    refine c1 (λK15 hK15=>?_)
    refine b6 (a7 Z (b5 Z Z (c6 G Z Z Z Z Z Z) (a7 Z (f6 G Z Z Z Z Z Z Z Z Z Z Z (b4 (hK15 _ ?_))))))
    clear hK15 K15
    refine d7 (A3 ((z.2.2,x8.2)) (w5 Z Z Z Z (b3 (c7 Z ?_) (b3 (c7 Z ?_) (b3 (c7 Z ?_) (b3 (B2 Z ?_) (b3 (i8 ?_) (b3 (i8 ?_) (b3 (i8 ?_) d9))))))) Z (AftOK.stays Z ?_ Z AftOK.nil)) (⟨?_,?_⟩))
    all_goals (first | rfl | exact hc8.mono J | exact hzC | exact ⟨hzm,hv8⟩)
theorem a5k (l:List Int) (hl:U9 l):CtrX (α:=(Mach×Lg)×ByteArray) Tryz.prog 7 [.lst 1 (l.map B1)] [] (λy=>(DrC y.1/\y.2.size<=1000)/\True) (λy=>.shp false [some 7,none] [.fr 132 2 (y.1.1.rs.map p5),.fr 4 1 (y.1.1.en.map m9),.fr 4 1 (y.1.1.ra.map m9),.ne 74 4 (y.1.1.cp.map (s2 104 76)),.v (.string y.1.2.d),.v (.string y.1.2.p),.v (.int .i64 y.1.2.n),.v (.string y.2)]) (λy=>[]):=by
 have h:okC 0 (⟨l,0,0⟩:Cur):=⟨hl,Int.le_refl _,Int.le_refl _⟩
 refine CtrX.of (n:=42) (k:=0) G Tryz.func7 Z Y Z Z Z Z (λ_=>Z) Z Z (λw0 _ hpin=>?_)
 refine c1 (λK1 hK1=>?_)
 refine b6 (a7 Z (d6 G 1 Z Z Z Z Z (a7 Z (b5 Z Z (b9 Z Z) (b4 (hK1 _ ?_))))))
 clear hK1 K1
 refine b5L (t:=0) Z (λy=>?_)
 refine c1 (λK2 hK2=>?_)
 refine b6 (a7 Z (b5 Z Z (b8 Z Z) (a7 Z (b5 Z Z (u3 G Z Z Z Z) (a7 Z (B4 2 Z Z Z Z Z Z Z (a7 Z (b5 Z Z (b9 Z Z) (b4 (hK2 _ ?_))))))))))
 clear hK2 K2
 refine a68 (id:=1) Z ?_
 refine c1 (λK3 hK3=>?_)
 refine b6 (a7 Z (b5 Z Z (b8 Z Z) (a7 Z ?_)))
 refine d4 6 [1] Z Z Z (a5j h J) Z (RowsIn.cons Z RowsIn.nil) Z (λ_=>Z) Z (λx1 ⟨hv1,hc1⟩=>?_)
 have hcm:=hv1.cp
 refine a7 Z (d6 G 7 Z Z Z Z Z (a7 Z (f6 G Z Z Z Z Z Z Z Z Z Z Z (b4 (hK3 _ ?_)))))
 clear hK3 K3
 refine c1 (λK4 hK4=>?_)
 refine b6 (a7 Z (b5 Z Z (b8 Z Z) (a7 Z (b5 Z Z (c6 G Z Z Z Z Z Z) (a7 Z ?_)))))
 refine d4 7 [1,2,3,4,5] Z Z Z (w7 hc1 J x1.1.1 x1.1.2 (by assumption)) Z (RowsIn.cons Z (RowsIn.cons Z (RowsIn.cons Z (RowsIn.cons Z (RowsIn.cons Z RowsIn.nil))))) Z (λ_=>Z) Z (λx2 ⟨hv2,hc2⟩=>?_)
 refine a7 Z (b5 Z Z (b9 Z Z) (b4 (hK4 _ ?_)))
 clear hK4 K4
 refine c1 (λK5 hK5=>?_)
 refine c1 (λK6 hK6=>?_)
 refine b6 (a7 Z (b5 Z Z (b8 Z Z) (a7 Z ?_)))
 refine d4 7 [1] Z Z Z (r3 hc2 J (5)) Z (RowsIn.cons Z RowsIn.nil) Z (λ_=>Z) Z (λx3 ⟨hv3,hc3⟩=>?_)
 refine a7 Z (b5 Z Z (b9 Z Z) (b4 (hK6 _ ?_)))
 clear hK6 K6
 refine p8 ?_
 refine i6 [2,4,5] [0,2,3,4,5,6] (λ(z:Nat×Cur×ByteArray)=>[(6,.v (.string z.2.2)),(7,.v (.int .i64 (x3.1 - z.1)))]) (λ(z:Nat×Cur×ByteArray)=>[(1,some (.box [.lst 1 (z.2.1.c.map B1),.v (.int .i64 z.2.1.a),.v (.int .u64 z.2.1.s)]))]) (λ(z:Nat×Cur×ByteArray)=>(z.1:Int)<=x3.1/\z.2.2.size<=60+61 * z.1/\okC (5000+20 * z.1) z.2.1) (λ(z:Nat×Cur×ByteArray)=>x3.1.toNat - z.1) (0,x3.2,x2.1) Z Z ?_ ?_ ?_ ?_
 ·exact ⟨hv3.1,by omega,hc3.mono (by simp)⟩
 ·exact b5u
 ·exact a1U
 ·intro z hinv
  obtain ⟨hz1,hz2,hz⟩:=hinv
  simp only [List.cons_append,List.nil_append]
  refine c1 (λK7 hK7=>?_)
  refine c1 (λK8 hK8=>?_)
  refine b6 (a7 Z (b5 Z Z (b8 Z Z) (a7 Z (b5 Z Z (u4 Z Z Z Z) (b4 (hK8 _ ?_))))))
  clear hK8 K8
  refine l1 Z (λh1=>?_) (λh1=>?_)
  ·try rw [h1]
   try simp only [rfb] at h1
   refine r7 (hK7 _ ?_)
   clear hK7 K7
   refine c1 (λK9 hK9=>?_)
   refine p8 (b6 (a7 Z (b5 Z Z (b8 Z Z) (a7 Z (b5 Z Z (B0 Z Z Z (by (try simp only [ByteArray.size_append,n6,List.size_toArray,List.length_cons,List.length_nil]);omega)) (a7 Z (b5 Z Z (b8 Z Z) (a7 Z (b5 Z Z (c6 G Z Z Z Z Z Z) (a7 Z ?_))))))))))
   refine d4 7 [1,2,3,4,5] Z Z Z (w7 hz J x1.1.1 x1.1.2 (by assumption)) Z (RowsIn.cons Z (RowsIn.cons Z (RowsIn.cons Z (RowsIn.cons Z (RowsIn.cons Z RowsIn.nil))))) Z (λ_=>Z) Z (λx4 ⟨hv4,hc4⟩=>?_)
   refine a7 Z (b5 Z Z (B0 Z Z Z (by (try simp only [ByteArray.size_append,n6,List.size_toArray,List.length_cons,List.length_nil]);omega)) (a7 Z (b5 Z Z (b9 Z Z) (b4 (hK9 _ ?_)))))
   clear hK9 K9
   refine b6 (a7 Z (b5 Z Z (b8 Z Z) (a7 Z ?_)))
   first | refine b5 Z Z (q9 Z Z Z Z J J) ?_ | refine b5 Z Z (s6 Z Z Z Z) ?_
   refine a7 Z (b5 Z Z (b9 Z Z) ?_)
   refine b4 ⟨(z.1+1,x4.2,z.2.2++⟨#[10]⟩++x4.1),?_,?_,⟨⟨_,Z,by (first | rfl | exact congrArg (λv=>AV.v (.int .i64 v)) (by show x3.1 - (z.1:Int) - 1=x3.1 - ((z.1+1:Nat):Int);omega))⟩,Z,⟨⟨_,Z,by (first | rfl | exact congrArg (λv=>AV.v (.int .i64 v)) (by show x3.1 - (z.1:Int) - 1=x3.1 - ((z.1+1:Nat):Int);omega))⟩,Z,trivial⟩⟩,⟨⟨_,Z,by rfl⟩,Z,Z,trivial⟩,Z,Z,Z⟩
   ·exact ⟨by show ((z.1+1:Nat):Int)<=x3.1;omega,by show ByteArray.size _<=60+61 * (z.1+1);simp only [ByteArray.size_append,n6,List.size_toArray,List.length_cons,List.length_nil];omega,hc4.mono (by simp;omega)⟩
   ·exact b71
  ·try rw [h1]
   try simp only [rfb] at h1
   refine J0 (hK5 _ ?_)
   clear hK7 K7 hK5 K5
   refine c1 (λK10 hK10=>?_)
   refine c1 (λK11 hK11=>?_)
   refine b6 (a7 Z (b5 Z Z (b8 Z Z) (a7 Z ?_)))
   refine d4 7 [1] Z Z Z (a4b hz J (20)) Z (RowsIn.cons Z RowsIn.nil) Z (λ_=>Z) Z (λx5 ⟨hv5,hc5⟩=>?_)
   refine b4 (hK11 _ ?_)
   clear hK11 K11
   refine l1 Z (λh2=>?_) (λh2=>?_)
   ·try rw [h2]
    try simp only [rfb] at h2
    refine c1 (λK12 hK12=>?_)
    refine b6 (a7 Z (b5 Z Z (b9 Z Z) (b4 (hK12 _ ?_))))
    clear hK12 K12
    refine c1 (λK13 hK13=>?_)
    refine b6 (a7 Z (b5 Z Z (b8 Z Z) (a7 Z ?_)))
    refine d4 7 [1] Z Z Z (r3 hc5 J (2)) Z (RowsIn.cons Z RowsIn.nil) Z (λ_=>Z) Z (λx6 ⟨hv6,hc6⟩=>?_)
    refine a7 Z ?_
    first | refine b5 Z Z (q9 Z Z Z Z J J) ?_ | refine b5 Z Z (s6 Z Z Z Z) ?_
    refine a7 Z (b5 Z Z (b9 Z Z) (b4 (hK13 _ ?_)))
    clear hK13 K13
    refine p8 ?_
    refine i6 [2,5] [0,2,3,4,5,6] (λ(v:Nat×ByteArray)=>[(6,.v (.string v.2)),(8,.v (.int .i64 (29+x6.1 - v.1)))]) (λ(v:Nat×ByteArray)=>[]) (λ(v:Nat×ByteArray)=>(v.1:Int)<=29+x6.1/\v.2.size<=v.1) (λ(v:Nat×ByteArray)=>(29+x6.1).toNat - v.1) (0,⟨#[]⟩) Z Z ?_ ?_ ?_ ?_
    ·exact ⟨by show (0:Int)<=29+x6.1;omega,by decide⟩
    ·exact b5u
    ·exact trivial
    ·intro v hinv
     obtain ⟨hw1,hw2⟩:=hinv
     simp only [List.cons_append,List.nil_append]
     refine c1 (λK14 hK14=>?_)
     refine c1 (λK15 hK15=>?_)
     refine b6 (a7 Z (b5 Z Z (b8 Z Z) (a7 Z (b5 Z Z (u4 Z Z Z Z) (b4 (hK15 _ ?_))))))
     clear hK15 K15
     refine l1 Z (λh3=>?_) (λh3=>?_)
     ·try rw [h3]
      try simp only [rfb] at h3
      refine r7 (hK14 _ ?_)
      clear hK14 K14
      refine c1 (λK16 hK16=>?_)
      refine p8 (b6 (a7 Z (b5 Z Z (b8 Z Z) (a7 Z (b5 Z Z (B0 Z Z Z (by (try simp only [ByteArray.size_append,n6,List.size_toArray,List.length_cons,List.length_nil]);omega)) (a7 Z (b5 Z Z (b9 Z Z) (b4 (hK16 _ ?_)))))))))
      clear hK16 K16
      refine b6 (a7 Z (b5 Z Z (b8 Z Z) (a7 Z ?_)))
      first | refine b5 Z Z (q9 Z Z Z Z J J) ?_ | refine b5 Z Z (s6 Z Z Z Z) ?_
      refine a7 Z (b5 Z Z (b9 Z Z) ?_)
      refine b4 ⟨(v.1+1,v.2++⟨#[10]⟩),?_,?_,⟨⟨_,Z,by (first | rfl | exact congrArg (λq=>AV.v (.int .i64 q)) (by show 29+x6.1 - (v.1:Int) - 1=29+x6.1 - ((v.1+1:Nat):Int);omega))⟩,Z,⟨⟨_,Z,by (first | rfl | exact congrArg (λq=>AV.v (.int .i64 q)) (by show 29+x6.1 - (v.1:Int) - 1=29+x6.1 - ((v.1+1:Nat):Int);omega))⟩,Z,trivial⟩⟩,trivial,Z,Z,Z⟩
      ·exact ⟨by show ((v.1+1:Nat):Int)<=29+x6.1;omega,by show ByteArray.size _<=v.1+1;simp only [ByteArray.size_append,n6,List.size_toArray,List.length_cons,List.length_nil];omega⟩
      ·(show (29+x6.1).toNat - (v.1+1) < (29+x6.1).toNat - v.1;omega)
     ·try rw [h3]
      try simp only [rfb] at h3
      refine J0 (hK10 _ ?_)
      clear hK14 K14 hK10 K10
      refine c1 (λK17 hK17=>?_)
      refine b6 (a7 Z (b5 Z Z (c6 G Z Z Z Z Z Z) (a7 Z (b5 Z Z (b8 Z Z) (a7 Z (f6 G Z Z Z Z Z Z Z Z Z Z Z (a7 Z (b5 Z Z (b9 Z Z) (b4 (hK17 _ ?_))))))))))
      clear hK17 K17
      refine d7 (A3 ((x1.1,v.2)) (w5 Z Z Z Z (b3 (c7 Z ?_) (b3 (c7 Z ?_) (b3 (c7 Z ?_) (b3 (B2 Z ?_) (b3 (i8 ?_) (b3 (i8 ?_) (b3 (i8 ?_) (b3 (i8 ?_) d9)))))))) Z AftOK.nil) (⟨?_,?_⟩))
      all_goals (first | rfl | trivial | assumption | exact ⟨hv1,by omega⟩ | exact ⟨hv1,by show v.2.size<=1000;omega⟩ | exact ⟨hv1,by show z.2.2.size<=1000;omega⟩)
   ·try rw [h2]
    try simp only [rfb] at h2
    refine r7 (hK10 _ ?_)
    clear hK10 K10
    refine c1 (λK18 hK18=>?_)
    refine b6 (a7 Z (b5 Z Z (c6 G Z Z Z Z Z Z) (a7 Z (b5 Z Z (b8 Z Z) (a7 Z (f6 G Z Z Z Z Z Z Z Z Z Z Z (a7 Z (b5 Z Z (b9 Z Z) (b4 (hK18 _ ?_))))))))))
    clear hK18 K18
    refine d7 (A3 ((x1.1,z.2.2)) (w5 Z Z Z Z (b3 (c7 Z ?_) (b3 (c7 Z ?_) (b3 (c7 Z ?_) (b3 (B2 Z ?_) (b3 (i8 ?_) (b3 (i8 ?_) (b3 (i8 ?_) (b3 (i8 ?_) d9)))))))) Z AftOK.nil) (⟨?_,?_⟩))
    all_goals (first | rfl | trivial | assumption | exact ⟨hv1,by omega⟩ | exact ⟨hv1,by show v.2.size<=1000;omega⟩ | exact ⟨hv1,by show z.2.2.size<=1000;omega⟩)
theorem a0f (rs:List Route) (c:Int) (hn:rs.length<=1048576):Ctr Tryz.prog 24 [.lst 2 (rs.map p5),.v (.int .i64 c)] (.shp false [some 7,none] [.fr 132 2 ((m8 rs c).1.rs.map p5),.fr 4 1 ((m8 rs c).1.en.map m9),.fr 4 1 ((m8 rs c).1.ra.map m9),.ne 74 4 ((m8 rs c).1.cp.map (s2 104 76)),.v (.string ⟨#[]⟩),.v (.string ⟨#[]⟩),.v (.int .i64 0),.v (.bool (m8 rs c).2)]):=by
 refine Ctr.of (n:=19) G Tryz.func24 Z a8 Z Z Z (λw0=>?_)
 refine a3p ?_
 refine vm3 ?_
 refine d3 5 Z Z Z (ArgsOK.of Z) (a2w _ _ Z7) Z Z ?_
 exact d0D
theorem a2x (rs:List Route) (c:Int) (hn:rs.length<=1048576):Ctr Tryz.prog 23 [.lst 2 (rs.map p5),.v (.int .i64 c)] (.shp false [some 7,none] [.fr 132 2 ((m8 rs c).1.rs.map p5),.fr 4 1 ((m8 rs c).1.en.map m9),.fr 4 1 ((m8 rs c).1.ra.map m9),.ne 74 4 ((m8 rs c).1.cp.map (s2 104 76)),.v (.string ⟨#[]⟩),.v (.string ⟨#[]⟩),.v (.int .i64 0),.v (.bool (m8 rs c).2)]):=by
 refine Ctr.of (n:=19) G Tryz.func23 Z a8 Z Z Z (λw0=>?_)
 refine a3p ?_
 refine vm3 ?_
 refine d3 5 Z Z Z (ArgsOK.of Z) (a8i _ _ Z7) Z Z ?_
 exact d0D
theorem a5Y {x:Cur} {n:Int} (h:okC n x) (hn:n<=860000000000) (k:Int):CtrX (α:=List Route×Cur) Tryz.prog 53 [.ptr 0 0,.v (.int .i64 k)] [.box [.lst 1 (x.c.map B1),.v (.int .i64 x.a),.v (.int .u64 x.s)]] (λy=>(y.1.length<=8)/\okC (n+60) y.2) (λy=>.one (.fr 132 2 (y.1.map p5))) (λy=>[some (.box [.lst 1 (y.2.c.map B1),.v (.int .i64 y.2.a),.v (.int .u64 y.2.s)])]):=by
 refine CtrX.of (n:=40) (k:=1) G Tryz.func53 Z Y Z Z Z Z (λ_=>Z) Z Z (λw0 _ hpin=>?_)
 refine c1 (λK1 hK1=>?_)
 refine b6 (a7 Z (b5 Z Z (b9 Z Z) (b4 (hK1 _ ?_))))
 clear hK1 K1
 refine c1 (λK2 hK2=>?_)
 refine b6 (a7 Z (p6 G 2 Z Z Z Z Z Z Z Z (a7 Z (b5 Z Z (b9 Z Z) (b4 (hK2 _ ?_))))))
 clear hK2 K2
 refine c1 (λK3 hK3=>?_)
 refine c1 (λK4 hK4=>?_)
 refine b6 (a7 Z (b5 Z Z (b9 Z Z) (b4 (hK4 _ ?_))))
 clear hK4 K4
 refine p8 ?_
 refine i6 [0,1] [] (λ(z:Nat×Cur×List Route)=>[(5,.own 1),(6,.v (.int .i64 (z.1:Int)))]) (λ(z:Nat×Cur×List Route)=>[(0,some (.box [.lst 1 (z.2.1.c.map B1),.v (.int .i64 z.2.1.a),.v (.int .u64 z.2.1.s)])),(1,some (.row 132 2 (z.2.2.map p5)))]) (λ(z:Nat×Cur×List Route)=>z.1<=8/\z.2.2.length=z.1/\okC (n+4 * z.1) z.2.1) (λ(z:Nat×Cur×List Route)=>8 - z.1) (0,x,[]) Z Z ?_ ?_ ?_ ?_
 ·exact ⟨Nat.zero_le _,Z,h.mono (by simp)⟩
 ·exact b5u
 ·exact b5t
 ·intro z hinv
  obtain ⟨hz1,hz2,hz⟩:=hinv
  simp only [List.cons_append,List.nil_append]
  refine c1 (λK5 hK5=>?_)
  refine c1 (λK6 hK6=>?_)
  refine b6 (a7 Z (b5 Z Z (b8 Z Z) (a7 Z (b5 Z Z (u4 Z Z Z Z) (b4 (hK6 _ ?_))))))
  clear hK6 K6
  refine l1 Z (λh1=>?_) (λh1=>?_)
  ·try rw [h1]
   try simp only [rfb] at h1
   refine r7 (hK5 _ ?_)
   clear hK5 K5
   refine c1 (λK7 hK7=>?_)
   refine p8 (b6 (a7 Z (b5 Z Z (b8 Z Z) (a7 Z (b5 Z Z (b8 Z Z) (a7 Z ?_))))))
   refine d4 2 [0] Z Z Z (r3 hz J (10)) Z (RowsIn.cons Z RowsIn.nil) Z (λ_=>Z) Z (λx1 ⟨hv1,hc1⟩=>?_)
   refine a7 Z (b5 Z Z (b8 Z Z) (a7 Z (b5 Z Z (b8 Z Z) (a7 Z (b5 Z Z (i7 Z (ArgsOK.of Z) (a2P _ _) Z) (a7 Z ?_))))))
   refine d4 2 [0] Z Z Z (r3 hc1 J _) Z (RowsIn.cons Z RowsIn.nil) Z (λ_=>Z) Z (λx2 ⟨hv2,hc2⟩=>?_)
   refine a7 Z (b5 Z Z (u3 G Z Z Z Z) (a7 Z (p6 G 3 Z Z Z Z Z Z Z Z (a7 Z (l2 G (by rw [hpin];decide) Z Z Z Z Z Z Z Z Z (by first | (simp only [List.length_map,List.length_cons,List.length_nil];omega) | (simp;omega)) Z Z (a7 Z (b5 Z Z (b9 Z Z) (b4 (hK7 _ ?_)))))))))
   clear hK7 K7
   refine b6 (a7 Z (b5 Z Z (b8 Z Z) (a7 Z ?_)))
   first | refine b5 Z Z (q9 Z Z Z Z J J) ?_ | refine b5 Z Z (s6 Z Z Z Z) ?_
   refine a7 Z (b5 Z Z (b9 Z Z) ?_)
   refine b4 ⟨(z.1+1,x2.2,z.2.2++[⟨x1.1,x2.1⟩]),?_,?_,⟨⟨_,Z,by (first | rfl | (congr 2;simp;omega))⟩,Z,⟨⟨_,Z,by (first | rfl | (congr 2;simp;omega))⟩,Z,trivial⟩⟩,⟨⟨_,Z,by (first | rfl | (exact congrArg (Row.row _ _) (by rw [List.map_append];rfl)))⟩,Z,Z,⟨⟨_,Z,by (first | rfl | (exact congrArg (Row.row _ _) (by rw [List.map_append];rfl)))⟩,Z,Z,trivial⟩⟩,Z,Z,Z⟩
   ·exact ⟨by show z.1+1<=8;omega,by show (z.2.2++[_]).length=z.1+1;simp;omega,hc2.mono (by simp;omega)⟩
   ·(show 8 - (z.1+1) < 8 - z.1;omega)
  ·try rw [h1]
   try simp only [rfb] at h1
   refine J0 (hK3 _ ?_)
   clear hK5 K5 hK3 K3
   refine c1 (λK8 hK8=>?_)
   refine c1 (λK9 hK9=>?_)
   refine b6 (a7 Z (b5 Z Z (b8 Z Z) (a7 Z ?_)))
   refine d4 2 [0] Z Z Z (r3 hz J (32)) Z (RowsIn.cons Z RowsIn.nil) Z (λ_=>Z) Z (λx3 ⟨hv3,hc3⟩=>?_)
   refine b4 (hK9 _ ?_)
   clear hK9 K9
   refine p8 ?_
   refine c1 (λK10 hK10=>?_)
   refine b6 (a7 Z (b5 Z Z (u4 Z Z Z Z) (a7 Z (b5 Z Z (b9 Z Z) (b4 (hK10 _ ?_))))))
   clear hK10 K10
   refine l1 Z (λh2=>?_) (λh2=>?_)
   ·try rw [h2]
    try simp only [rfb] at h2
    refine b6 (a7 Z (b5 Z Z (b8 Z Z) (a7 Z (b5 Z Z (a2U G Z Z Z Z Z Z J (by first | omega | (simp;done) | (simp;omega)) (by first | omega | (simp;done) | (simp;omega))) (a7 Z (b5 Z Z (b9 Z Z) (b4 (hK8 _ ?_))))))))
    clear hK8 K8
    refine c1 (λK11 hK11=>?_)
    refine b6 (a7 Z (b5 Z Z (b8 Z Z) (a7 Z (b5 Z Z (b9 Z Z) (b4 (hK11 _ ?_))))))
    clear hK11 K11
    refine b9d (t:=4) 3 Z Z Z ?_
    refine d7 (A3 ((z.2.2.take 7,x3.2)) (o9 Z (c7 Z ?_) Z (AftOK.stays Z ?_ Z AftOK.nil)) (⟨?_,?_⟩))
    all_goals (first | rfl | exact hc3.mono J | (rw [List.map_take];rfl) | (dsimp only;rw [List.map_set];rfl) | (show List.length _<=8;(try simp only [List.length_take,List.length_set]);omega))
   ·try rw [h2]
    try simp only [rfb] at h2
    refine c1 (λK12 hK12=>?_)
    refine b6 (a7 Z (b5 Z Z (u4 Z Z Z Z) (a7 Z (b5 Z Z (b9 Z Z) (b4 (hK12 _ ?_))))))
    clear hK12 K12
    refine l1 Z (λh3=>?_) (λh3=>?_)
    ·try rw [h3]
     try simp only [rfb] at h3
     refine b6 (a7 Z (b5 Z Z (b8 Z Z) (a7 Z (b5 Z Z (b8 Z Z) (a7 Z (p6 G 3 Z Z Z Z Z Z Z Z (a7 Z ?_)))))))
     refine d4 3 [0,2] Z Z Z (I0 hc3 J [-1,15,16] (-1) (16) (by decide) (by decide)) Z (RowsIn.cons Z (RowsIn.cons Z RowsIn.nil)) Z (λ_=>Z) Z (λx4 ⟨hv4,hc4⟩=>?_)
     refine a7 Z (b5 Z Z (b8 Z Z) (a7 Z (p6 G 4 Z Z Z Z Z Z Z Z (a7 Z ?_))))
     refine d4 4 [0,3] Z Z Z (I0 hc4 J [-1,0,2] (-1) (2) (by decide) (by decide)) Z (RowsIn.cons Z (RowsIn.cons Z RowsIn.nil)) Z (λ_=>Z) Z (λx5 ⟨hv5,hc5⟩=>?_)
     refine a7 Z (b5 Z Z (u3 G Z Z Z Z) (a7 Z (b5 Z Z (d1 G Z Z Z Z Z J (by rw [List.length_map];omega)) (a7 Z (l6 G Z Z Z Z Z (H1 J J) Z Z Z Z Z (Nat.le_of_ble_eq_true Z) Z (b4 (hK8 _ ?_)))))))
     clear hK8 K8
     refine c1 (λK13 hK13=>?_)
     refine b6 (a7 Z (b5 Z Z (b8 Z Z) (a7 Z (b5 Z Z (b9 Z Z) (b4 (hK13 _ ?_))))))
     clear hK13 K13
     refine d7 (A3 ((z.2.2.set 0 ⟨x4.1,x5.1⟩,x5.2)) (o9 Z (c7 Z ?_) Z (AftOK.stays Z ?_ Z AftOK.nil)) (⟨?_,?_⟩))
     all_goals (first | rfl | exact hc5.mono J | (rw [List.map_take];rfl) | (dsimp only;rw [List.map_set];rfl) | (show List.length _<=8;(try simp only [List.length_take,List.length_set]);omega))
    ·try rw [h3]
     try simp only [rfb] at h3
     refine r7 (hK8 _ ?_)
     clear hK8 K8
     refine c1 (λK14 hK14=>?_)
     refine b6 (a7 Z (b5 Z Z (b8 Z Z) (a7 Z (b5 Z Z (b9 Z Z) (b4 (hK14 _ ?_))))))
     clear hK14 K14
     refine d7 (A3 ((z.2.2,x3.2)) (o9 Z (c7 Z ?_) Z (AftOK.stays Z ?_ Z AftOK.nil)) (⟨?_,?_⟩))
     all_goals (first | rfl | exact hc3.mono J | (rw [List.map_take];rfl) | (dsimp only;rw [List.map_set];rfl) | (show List.length _<=8;(try simp only [List.length_take,List.length_set]);omega))
theorem a5l (l:List Int) (hl:U9 l):CtrX (α:=List Route×Int×Lg) Tryz.prog 20 [.lst 1 (l.map B1)] [] (λy=>(y.1.length<=8/\(1<=y.2.1/\y.2.1<=2)/\y.2.2.d.size+y.2.2.p.size<=1048576)/\True) (λy=>(.many [.fr 132 2 (y.1.map p5),.v (.int .i64 y.2.1),.v (a4F y.2.2)])) (λy=>[]):=by
 have h:okC 0 (⟨l,0,0⟩:Cur):=⟨hl,Int.le_refl _,Int.le_refl _⟩
 refine CtrX.of (n:=60) (k:=0) G Tryz.func20 Z Y Z Z Z Z (λ_=>Z) Z Z (λw0 _ hpin=>?_)
 refine c1 (λK1 hK1=>?_)
 refine b6 (a7 Z (b5 Z Z (b9 Z Z) (a7 Z (b5 Z Z (b9 Z Z) (a7 Z (d6 G 1 Z Z Z Z Z (b4 (hK1 _ ?_))))))))
 clear hK1 K1
 refine b5L (t:=0) Z (λy=>?_)
 refine c1 (λK2 hK2=>?_)
 refine b6 (a7 Z (b5 Z Z (b8 Z Z) (a7 Z (b5 Z Z (u3 G Z Z Z Z) (a7 Z (B4 2 Z Z Z Z Z Z Z (a7 Z (b5 Z Z (b9 Z Z) (b4 (hK2 _ ?_))))))))))
 clear hK2 K2
 refine a68 (id:=1) Z ?_
 refine c1 (λK3 hK3=>?_)
 refine b6 (a7 Z (b5 Z Z (b8 Z Z) (a7 Z ?_)))
 refine d4 2 [1] Z Z Z (r3 h J (2)) Z (RowsIn.cons Z RowsIn.nil) Z (λ_=>Z) Z (λx1 ⟨hv1,hc1⟩=>?_)
 refine a7 Z ?_
 first | refine b5 Z Z (q9 Z Z Z Z J J) ?_ | refine b5 Z Z (s6 Z Z Z Z) ?_
 refine a7 Z (b5 Z Z (b9 Z Z) (b4 (hK3 _ ?_)))
 clear hK3 K3
 refine c1 (λK4 hK4=>?_)
 refine b6 (a7 Z (b5 Z Z (b8 Z Z) (a7 Z (b5 Z Z (b8 Z Z) (a7 Z ?_)))))
 refine d4 3 [1] Z Z Z (a5Y hc1 J (1+x1.1)) Z (RowsIn.cons Z RowsIn.nil) Z (λ_=>Z) Z (λx2 ⟨hv2,hc2⟩=>?_)
 refine a7 Z (b5 Z Z (b9 Z Z) (b4 (hK4 _ ?_)))
 clear hK4 K4
 refine c1 (λK5 hK5=>?_)
 refine b6 (a7 Z (b5 Z Z (b8 Z Z) (a7 Z (b5 Z Z (b8 Z Z) (a7 Z (d3 7 Z Z Z (ArgsOK.of Z) (a0f x2.1 (1+x1.1) J) Z Z (a7 Z (b5 Z Z (b8 Z Z) (a7 Z (b5 Z Z (e7 Z Z Z) (a7 Z (b5 Z Z (e7 Z Z Z) (a7 Z (d6 G 8 Z Z Z Z Z (a7 Z (f6 G Z Z Z Z Z Z Z Z Z Z Z (a7 Z (b5 Z Z (b9 Z Z) (b4 (hK5 _ ?_))))))))))))))))))))
 clear hK5 K5
 refine c1 (λK6 hK6=>?_)
 refine c1 (λK7 hK7=>?_)
 refine b6 (a7 Z (b5 Z Z (b8 Z Z) (a7 Z (b5 Z Z (a1d Z Z) (b4 (hK7 _ ?_))))))
 clear hK7 K7
 refine l1 Z (λh1=>?_) (λh1=>?_)
 ·try rw [h1]
  try simp only [rfb] at h1
  refine c1 (λK8 hK8=>?_)
  refine b6 (a7 Z (b5 Z Z (b8 Z Z) (a7 Z (b5 Z Z (b8 Z Z) (a7 Z (b5 Z Z (u3 G Z Z Z Z) (a7 Z (b5 Z Z (b9 Z Z) (a7 Z (b5 Z Z (b9 Z Z) (a7 Z (f6 G Z Z Z Z Z Z Z Z Z Z Z (b4 (hK8 _ ?_))))))))))))))
  clear hK8 K8
  refine d7 (A3 ((x2.1,1+x1.1,lg0)) (X7 Z Z Z Z (b3 (c7 Z ?_) (b3 (i8 ?_) (b3 (A8 Z ?_) d9))) Z AftOK.nil) (⟨?_,?_⟩))
  all_goals clear hK6 K6
  all_goals (first | rfl | trivial | exact ⟨hv2,⟨by show 1<=1+x1.1;omega,by show 1+x1.1<=2;omega⟩,(Nat.zero_le 1048576:lg0.d.size+lg0.p.size<=1048576)⟩ | exact ⟨hv2,⟨by show 1<=1+x1.1;omega,by show 1+x1.1<=2;omega⟩,b5e hzC.l⟩ | exact ⟨hv2,⟨by show 1<=1+x1.1;omega,by show 1+x1.1<=2;omega⟩,hzC.l⟩)
 ·try rw [h1]
  try simp only [rfb] at h1
  refine r7 (hK6 _ ?_)
  clear hK6 K6
  refine c1 (λK9 hK9=>?_)
  refine c1 (λK10 hK10=>?_)
  refine b6 (a7 Z (b5 Z Z (b8 Z Z) (a7 Z ?_)))
  refine d4 8 [1] Z Z Z (r3 hc2 J (9)) Z (RowsIn.cons Z RowsIn.nil) Z (λ_=>Z) Z (λx3 ⟨hv3,hc3⟩=>?_)
  refine a7 Z (b5 Z Z (b9 Z Z) (b4 (hK10 _ ?_)))
  clear hK10 K10
  refine p8 ?_
  refine i6 [4,5,6,7,8] [0,2] (λ(z:Nat×Cur×(Mach×Lg))=>[(10,.v (.int .i64 (x3.1 - z.1)))]) (λ(z:Nat×Cur×(Mach×Lg))=>[(1,some (.box [.lst 1 (z.2.1.c.map B1),.v (.int .i64 z.2.1.a),.v (.int .u64 z.2.1.s)])),(3,some (.row 132 2 ((z.2.2).1.rs.map p5))),(4,some (.row 4 1 ((z.2.2).1.en.map m9))),(5,some (.row 4 1 ((z.2.2).1.ra.map m9))),(6,some (.nest 74 4 ((z.2.2).1.cp.map (s2 104 76)) [])),(7,some (.box [.own 3,.own 4,.own 5,.own 6,.v (.string (z.2.2).2.d),.v (.string (z.2.2).2.p),.v (.int .i64 (z.2.2).2.n)]))]) (λ(z:Nat×Cur×(Mach×Lg))=>(z.1:Int)<=x3.1/\DrC z.2.2/\okC (200+30 * z.1) z.2.1) (λ(z:Nat×Cur×(Mach×Lg))=>x3.1.toNat - z.1) (0,x3.2,((m8 x2.1 (1+x1.1)).1,lg0)) Z Z ?_ ?_ ?_ ?_
  ·exact ⟨hv3.1,⟨a0S,(Nat.zero_le 1048576:lg0.d.size+lg0.p.size<=1048576)⟩,hc3.mono (by simp)⟩
  ·exact b1i
  ·exact c3z
  ·intro z hinv
   obtain ⟨hz1,hzC,hz⟩:=hinv
   have hzm:=hzC.m
   have hzl:=hzC.l
   have hzc:=hzC.cp
   simp only [List.cons_append,List.nil_append]
   refine c1 (λK11 hK11=>?_)
   refine c1 (λK12 hK12=>?_)
   refine b6 (a7 Z (b5 Z Z (b8 Z Z) (a7 Z (b5 Z Z (u4 Z Z Z Z) (b4 (hK12 _ ?_))))))
   clear hK12 K12
   refine l1 Z (λh2=>?_) (λh2=>?_)
   ·try rw [h2]
    try simp only [rfb] at h2
    refine r7 (hK11 _ ?_)
    clear hK11 K11
    refine c1 (λK13 hK13=>?_)
    refine p8 ?_
    refine j7 9 [0,2] mixed Y Z Z (λr0=>?_) (λ_ h=>h)
    refine c8 1 Z Y Y Z Z Z Z (b8 Z Z) ?_
    refine b7 (rs:=[0,2]) Y Z (AllB.cons ?_ (AllB.cons ?_ AllB.nil))
    ·refine e9 [0,2] Z Z (b5 Z Z (c6 G Z Z Z Z Z Z) (b4 ⟨Z,?_⟩))
     refine b7 (rs:=[2]) Y Z (AllB.cons ?_ AllB.nil)
     refine e9 [0,2] Z Z (b5 Z Z (c6 G Z Z Z Z Z Z) (b4 ⟨Z,?_⟩))
     refine b7 (rs:=[3]) Y Z (AllB.cons ?_ AllB.nil)
     refine e9 [0,2] Z Z (d4 8 [1,3,4,5,6] Z Z Z (w7 hz J z.2.2.1 z.2.2.2 (by assumption)) Z (RowsIn.cons Z (RowsIn.cons Z (RowsIn.cons Z (RowsIn.cons Z (RowsIn.cons Z RowsIn.nil))))) Z (λ_=>Z) Z (λx4 ⟨hv4,hc4⟩=>b4 ⟨Z,?_⟩))
     refine b7 (rs:=[4]) Y Z (AllB.cons ?_ AllB.nil)
     refine e9 [0,2] Z Z (d3 12 Z Z Z (ArgsOK.of Z) (y7 z.2.2.1 z.2.2.2 _ (by assumption) (by assumption) J) Z Z (b4 ⟨Z,?_⟩))
     refine c8 5 Z Y Y Z Z Z Z (b8 Z Z) (c8 6 Z Y Y Z Z Z Z (e7 Z Z Z) (c8 7 Z Y Y Z Z Z Z (e7 Z Z Z) ?_))
     refine b7 (rs:=[8]) Y Z (AllB.cons ?_ AllB.nil)
     refine e9 [0,2] Z Z (f6 G Z Z Z Z Z Z Z Z Z Z Z (b4 ⟨Z,?_⟩))
     refine z7 Y (hK13 _ ?_)
     clear hK13 K13
     refine b6 (a7 Z (b5 Z Z (b8 Z Z) (a7 Z ?_)))
     first | refine b5 Z Z (q9 Z Z Z Z J J) ?_ | refine b5 Z Z (s6 Z Z Z Z) ?_
     refine a7 Z (b5 Z Z (b9 Z Z) (r4 (Gh.sub 8 3 (by rw [hpin];decide) Z Z Z) (r4 (Gh.sub 9 4 (by rw [hpin];decide) Z Z Z) (r4 (Gh.sub 10 5 (by rw [hpin];decide) Z Z Z) (r4 (Gh.sub 11 6 (by rw [hpin];decide) Z Z Z) ?_)))))
     refine b4 ⟨(z.1+1,x4.2,((exC z.2.2.1 z.2.2.2 x4.1).1,(exC z.2.2.1 z.2.2.2 x4.1).2.1)),?_,?_,⟨⟨_,Z,by (first | rfl | exact congrArg (λv=>AV.v (.int .i64 v)) (by show x3.1 - (z.1:Int) - 1=x3.1 - ((z.1+1:Nat):Int);omega))⟩,Z,trivial⟩,⟨⟨_,Z,by rfl⟩,Z,Z,⟨⟨_,Z,by rfl⟩,Z,Z,⟨⟨_,Z,by rfl⟩,Z,Z,⟨⟨_,Z,by rfl⟩,Z,Z,⟨⟨_,Z,by rfl⟩,Z,Z,⟨⟨_,Z,by rfl⟩,Z,Z,trivial⟩⟩⟩⟩⟩⟩,Z,Z,Z⟩
     ·exact ⟨by show ((z.1+1:Nat):Int)<=x3.1;omega,hzC.next,hc4.mono (by simp;omega)⟩
     ·exact b71
    ·refine e9 [0,2] Z Z (b5 Z Z (c6 G Z Z Z Z Z Z) (b4 ⟨Z,?_⟩))
     refine b7 (rs:=[0,3]) Y Z (AllB.cons ?_ (AllB.cons ?_ AllB.nil))
     ·refine e9 [0,2] Z Z (b5 Z Z (c6 G Z Z Z Z Z Z) (b4 ⟨Z,?_⟩))
      refine b7 (rs:=[3]) Y Z (AllB.cons ?_ AllB.nil)
      refine e9 [0,2] Z Z (d4 8 [1,3,4,5,6] Z Z Z (w7 hz J z.2.2.1 z.2.2.2 (by assumption)) Z (RowsIn.cons Z (RowsIn.cons Z (RowsIn.cons Z (RowsIn.cons Z (RowsIn.cons Z RowsIn.nil))))) Z (λ_=>Z) Z (λx5 ⟨hv5,hc5⟩=>b4 ⟨Z,?_⟩))
      refine b7 (rs:=[4]) Y Z (AllB.cons ?_ AllB.nil)
      refine e9 [0,2] Z Z (d3 12 Z Z Z (ArgsOK.of Z) (y7 z.2.2.1 z.2.2.2 _ (by assumption) (by assumption) J) Z Z (b4 ⟨Z,?_⟩))
      refine c8 5 Z Y Y Z Z Z Z (b8 Z Z) (c8 6 Z Y Y Z Z Z Z (e7 Z Z Z) (c8 7 Z Y Y Z Z Z Z (e7 Z Z Z) ?_))
      refine b7 (rs:=[8]) Y Z (AllB.cons ?_ AllB.nil)
      refine e9 [0,2] Z Z (f6 G Z Z Z Z Z Z Z Z Z Z Z (b4 ⟨Z,?_⟩))
      refine z7 Y (hK13 _ ?_)
      clear hK13 K13
      refine b6 (a7 Z (b5 Z Z (b8 Z Z) (a7 Z ?_)))
      first | refine b5 Z Z (q9 Z Z Z Z J J) ?_ | refine b5 Z Z (s6 Z Z Z Z) ?_
      refine a7 Z (b5 Z Z (b9 Z Z) (r4 (Gh.sub 8 3 (by rw [hpin];decide) Z Z Z) (r4 (Gh.sub 9 4 (by rw [hpin];decide) Z Z Z) (r4 (Gh.sub 10 5 (by rw [hpin];decide) Z Z Z) (r4 (Gh.sub 11 6 (by rw [hpin];decide) Z Z Z) ?_)))))
      refine b4 ⟨(z.1+1,x5.2,((exC z.2.2.1 z.2.2.2 x5.1).1,(exC z.2.2.1 z.2.2.2 x5.1).2.1)),?_,?_,⟨⟨_,Z,by (first | rfl | exact congrArg (λv=>AV.v (.int .i64 v)) (by show x3.1 - (z.1:Int) - 1=x3.1 - ((z.1+1:Nat):Int);omega))⟩,Z,trivial⟩,⟨⟨_,Z,by rfl⟩,Z,Z,⟨⟨_,Z,by rfl⟩,Z,Z,⟨⟨_,Z,by rfl⟩,Z,Z,⟨⟨_,Z,by rfl⟩,Z,Z,⟨⟨_,Z,by rfl⟩,Z,Z,⟨⟨_,Z,by rfl⟩,Z,Z,trivial⟩⟩⟩⟩⟩⟩,Z,Z,Z⟩
      ·exact ⟨by show ((z.1+1:Nat):Int)<=x3.1;omega,hzC.next,hc5.mono (by simp;omega)⟩
      ·exact b71
     ·refine e9 [0,2] Z Z (d4 8 [1,3,4,5,6] Z Z Z (w7 hz J z.2.2.1 z.2.2.2 (by assumption)) Z (RowsIn.cons Z (RowsIn.cons Z (RowsIn.cons Z (RowsIn.cons Z (RowsIn.cons Z RowsIn.nil))))) Z (λ_=>Z) Z (λx6 ⟨hv6,hc6⟩=>b4 ⟨Z,?_⟩))
      refine b7 (rs:=[0]) Y Z (AllB.cons ?_ AllB.nil)
      refine e9 [0,2] Z Z (b5 Z Z (c6 G Z Z Z Z Z Z) (b4 ⟨Z,?_⟩))
      refine b7 (rs:=[4]) Y Z (AllB.cons ?_ AllB.nil)
      refine e9 [0,2] Z Z (d3 12 Z Z Z (ArgsOK.of Z) (y7 z.2.2.1 z.2.2.2 _ (by assumption) (by assumption) J) Z Z (b4 ⟨Z,?_⟩))
      refine c8 5 Z Y Y Z Z Z Z (b8 Z Z) (c8 6 Z Y Y Z Z Z Z (e7 Z Z Z) (c8 7 Z Y Y Z Z Z Z (e7 Z Z Z) ?_))
      refine b7 (rs:=[8]) Y Z (AllB.cons ?_ AllB.nil)
      refine e9 [0,2] Z Z (f6 G Z Z Z Z Z Z Z Z Z Z Z (b4 ⟨Z,?_⟩))
      refine z7 Y (hK13 _ ?_)
      clear hK13 K13
      refine b6 (a7 Z (b5 Z Z (b8 Z Z) (a7 Z ?_)))
      first | refine b5 Z Z (q9 Z Z Z Z J J) ?_ | refine b5 Z Z (s6 Z Z Z Z) ?_
      refine a7 Z (b5 Z Z (b9 Z Z) (r4 (Gh.sub 8 3 (by rw [hpin];decide) Z Z Z) (r4 (Gh.sub 9 4 (by rw [hpin];decide) Z Z Z) (r4 (Gh.sub 10 5 (by rw [hpin];decide) Z Z Z) (r4 (Gh.sub 11 6 (by rw [hpin];decide) Z Z Z) ?_)))))
      refine b4 ⟨(z.1+1,x6.2,((exC z.2.2.1 z.2.2.2 x6.1).1,(exC z.2.2.1 z.2.2.2 x6.1).2.1)),?_,?_,⟨⟨_,Z,by (first | rfl | exact congrArg (λv=>AV.v (.int .i64 v)) (by show x3.1 - (z.1:Int) - 1=x3.1 - ((z.1+1:Nat):Int);omega))⟩,Z,trivial⟩,⟨⟨_,Z,by rfl⟩,Z,Z,⟨⟨_,Z,by rfl⟩,Z,Z,⟨⟨_,Z,by rfl⟩,Z,Z,⟨⟨_,Z,by rfl⟩,Z,Z,⟨⟨_,Z,by rfl⟩,Z,Z,⟨⟨_,Z,by rfl⟩,Z,Z,trivial⟩⟩⟩⟩⟩⟩,Z,Z,Z⟩
      ·exact ⟨by show ((z.1+1:Nat):Int)<=x3.1;omega,hzC.next,hc6.mono (by simp;omega)⟩
      ·exact b71
   ·try rw [h2]
    try simp only [rfb] at h2
    refine J0 (hK9 _ ?_)
    clear hK11 K11 hK9 K9
    refine c1 (λK14 hK14=>?_)
    refine b6 (a7 Z (b5 Z Z (d5 G Z Z Z Z) (a7 Z (b5 Z Z (c6 G Z Z Z Z Z Z) (a7 Z (d6 G 9 Z Z Z Z Z (a7 Z (f6 G Z Z Z Z Z Z Z Z Z Z Z (b4 (hK14 _ ?_))))))))))
    clear hK14 K14
    refine c1 (λK15 hK15=>?_)
    refine c1 (λK16 hK16=>?_)
    refine b6 (a7 Z (b5 Z Z (b8 Z Z) (a7 Z ?_)))
    refine d4 9 [1] Z Z Z (a4b hz J (3)) Z (RowsIn.cons Z RowsIn.nil) Z (λ_=>Z) Z (λx7 ⟨hv7,hc7⟩=>?_)
    refine b4 (hK16 _ ?_)
    clear hK16 K16
    refine l1 Z (λh3=>?_) (λh3=>?_)
    ·try rw [h3]
     try simp only [rfb] at h3
     refine j7 8 [0,2,3,4,5,6,7] mixed Y Z Z (λr0=>?_) (λ_ h=>h)
     refine c8 1 Z Y Y Z Z Z Z (b8 Z Z) ?_
     refine b7 (rs:=[0,2]) Y Z (AllB.cons ?_ (AllB.cons ?_ AllB.nil))
     ·refine e9 [0,2,3,4,5,6,7] Z Z (b5 Z Z (c6 G Z Z Z Z Z Z) (b4 ⟨Z,?_⟩))
      refine b7 (rs:=[2]) Y Z (AllB.cons ?_ AllB.nil)
      refine e9 [0,2,3,4,5,6,7] Z Z (d4 9 [1] Z Z Z (E2 hc7 J) Z (RowsIn.cons Z RowsIn.nil) Z (λ_=>Z) Z (λx8 ⟨hv8,hc8⟩=>b4 ⟨Z,?_⟩))
      refine b7 (rs:=[3]) Y Z (AllB.cons ?_ AllB.nil)
      refine e9 [0,2,3,4,5,6,7] Z Z (b5 Z Z (i7 Z (ArgsOK.of Z) (t7 z.2.2.2 _ hzC.l J) Z) (b4 ⟨Z,?_⟩))
      refine c8 4 Z Y Y Z Z Z Z (b8 Z Z) (c8 5 Z Y Y Z Z Z Z (e7 Z Z Z) (c8 6 Z Y Y Z Z Z Z (e7 Z Z Z) ?_))
      refine b7 (rs:=[7]) Y Z (AllB.cons ?_ AllB.nil)
      refine e9 [0,2,3,4,5,6,7] Z Z (f6 G Z Z Z Z Z Z Z Z Z Z Z (b4 ⟨Z,?_⟩))
      refine z7 Y (hK15 _ ?_)
      clear hK15 K15
      refine c1 (λK17 hK17=>?_)
      refine j7 6 [1,2,3,4,5,6,7,8] mixed Y Z Z (λr0=>?_) (λ_ h=>h)
      refine c8 0 Z Y Y Z Z Z Z (b8 Z Z) (c8 1 Z Y Y Z Z Z Z (b8 Z Z) (c8 2 Z Y Y Z Z Z Z (c6 G Z Z Z Z Z Z) (c8 3 Z Y Y Z Z Z Z (b9 Z Z) (c8 4 Z Y Y Z Z Z Z (b9 Z Z) ?_))))
      refine b7 (rs:=[5]) Y Z (AllB.cons ?_ AllB.nil)
      refine e9 [1,2,3,4,5,6,7,8] Z Z (f6 G Z Z Z Z Z Z Z Z Z Z Z (b4 ⟨Z,?_⟩))
      refine z7 Y (hK17 _ ?_)
      clear hK17 K17
      refine d7 (A3 ((x2.1,1+x1.1,apE z.2.2.2 x8.1)) (X7 Z Z Z Z (b3 (c7 Z ?_) (b3 (i8 ?_) (b3 (A8 Z ?_) d9))) Z AftOK.nil) (⟨?_,?_⟩))
      all_goals (first | rfl | trivial | exact ⟨hv2,⟨by show 1<=1+x1.1;omega,by show 1+x1.1<=2;omega⟩,(Nat.zero_le 1048576:lg0.d.size+lg0.p.size<=1048576)⟩ | exact ⟨hv2,⟨by show 1<=1+x1.1;omega,by show 1+x1.1<=2;omega⟩,b5e hzC.l⟩ | exact ⟨hv2,⟨by show 1<=1+x1.1;omega,by show 1+x1.1<=2;omega⟩,hzC.l⟩)
     ·refine e9 [0,2,3,4,5,6,7] Z Z (d4 9 [1] Z Z Z (E2 hc7 J) Z (RowsIn.cons Z RowsIn.nil) Z (λ_=>Z) Z (λx9 ⟨hv9,hc9⟩=>b4 ⟨Z,?_⟩))
      refine b7 (rs:=[0]) Y Z (AllB.cons ?_ AllB.nil)
      refine e9 [0,2,3,4,5,6,7] Z Z (b5 Z Z (c6 G Z Z Z Z Z Z) (b4 ⟨Z,?_⟩))
      refine b7 (rs:=[3]) Y Z (AllB.cons ?_ AllB.nil)
      refine e9 [0,2,3,4,5,6,7] Z Z (b5 Z Z (i7 Z (ArgsOK.of Z) (t7 z.2.2.2 _ hzC.l J) Z) (b4 ⟨Z,?_⟩))
      refine c8 4 Z Y Y Z Z Z Z (b8 Z Z) (c8 5 Z Y Y Z Z Z Z (e7 Z Z Z) (c8 6 Z Y Y Z Z Z Z (e7 Z Z Z) ?_))
      refine b7 (rs:=[7]) Y Z (AllB.cons ?_ AllB.nil)
      refine e9 [0,2,3,4,5,6,7] Z Z (f6 G Z Z Z Z Z Z Z Z Z Z Z (b4 ⟨Z,?_⟩))
      refine z7 Y (hK15 _ ?_)
      clear hK15 K15
      refine c1 (λK18 hK18=>?_)
      refine j7 6 [1,2,3,4,5,6,7,8] mixed Y Z Z (λr0=>?_) (λ_ h=>h)
      refine c8 0 Z Y Y Z Z Z Z (b8 Z Z) (c8 1 Z Y Y Z Z Z Z (b8 Z Z) (c8 2 Z Y Y Z Z Z Z (c6 G Z Z Z Z Z Z) (c8 3 Z Y Y Z Z Z Z (b9 Z Z) (c8 4 Z Y Y Z Z Z Z (b9 Z Z) ?_))))
      refine b7 (rs:=[5]) Y Z (AllB.cons ?_ AllB.nil)
      refine e9 [1,2,3,4,5,6,7,8] Z Z (f6 G Z Z Z Z Z Z Z Z Z Z Z (b4 ⟨Z,?_⟩))
      refine z7 Y (hK18 _ ?_)
      clear hK18 K18
      refine d7 (A3 ((x2.1,1+x1.1,apE z.2.2.2 x9.1)) (X7 Z Z Z Z (b3 (c7 Z ?_) (b3 (i8 ?_) (b3 (A8 Z ?_) d9))) Z AftOK.nil) (⟨?_,?_⟩))
      all_goals (first | rfl | trivial | exact ⟨hv2,⟨by show 1<=1+x1.1;omega,by show 1+x1.1<=2;omega⟩,(Nat.zero_le 1048576:lg0.d.size+lg0.p.size<=1048576)⟩ | exact ⟨hv2,⟨by show 1<=1+x1.1;omega,by show 1+x1.1<=2;omega⟩,b5e hzC.l⟩ | exact ⟨hv2,⟨by show 1<=1+x1.1;omega,by show 1+x1.1<=2;omega⟩,hzC.l⟩)
    ·try rw [h3]
     try simp only [rfb] at h3
     refine r7 (hK15 _ ?_)
     clear hK15 K15
     refine c1 (λK19 hK19=>?_)
     refine j7 6 [1,2,3,4,5,6,7,8] mixed Y Z Z (λr0=>?_) (λ_ h=>h)
     refine c8 0 Z Y Y Z Z Z Z (b8 Z Z) (c8 1 Z Y Y Z Z Z Z (b8 Z Z) (c8 2 Z Y Y Z Z Z Z (c6 G Z Z Z Z Z Z) (c8 3 Z Y Y Z Z Z Z (b9 Z Z) (c8 4 Z Y Y Z Z Z Z (b9 Z Z) ?_))))
     refine b7 (rs:=[5]) Y Z (AllB.cons ?_ AllB.nil)
     refine e9 [1,2,3,4,5,6,7,8] Z Z (f6 G Z Z Z Z Z Z Z Z Z Z Z (b4 ⟨Z,?_⟩))
     refine z7 Y (hK19 _ ?_)
     clear hK19 K19
     refine d7 (A3 ((x2.1,1+x1.1,z.2.2.2)) (X7 Z Z Z Z (b3 (c7 Z ?_) (b3 (i8 ?_) (b3 (A8 Z ?_) d9))) Z AftOK.nil) (⟨?_,?_⟩))
     all_goals (first | rfl | trivial | exact ⟨hv2,⟨by show 1<=1+x1.1;omega,by show 1+x1.1<=2;omega⟩,(Nat.zero_le 1048576:lg0.d.size+lg0.p.size<=1048576)⟩ | exact ⟨hv2,⟨by show 1<=1+x1.1;omega,by show 1+x1.1<=2;omega⟩,b5e hzC.l⟩ | exact ⟨hv2,⟨by show 1<=1+x1.1;omega,by show 1+x1.1<=2;omega⟩,hzC.l⟩)
theorem a6S (s:ByteArray) (hz:s.size<=1048576):Ctr Tryz.prog 10 [.v (.string s),.v (.string ⟨#[10]⟩)] (.many [.fr 9 1 ((c7B s).map a4g),.v (.bool (!decide (4000 < s.size)))]):=by
 refine Ctr.of (n:=19) G Tryz.func10 Z Y Z Z Z (λw0=>?_)
 refine c1 (λK1 hK1=>?_)
 refine b6 (a7 Z (b5 Z Z (b9 Z Z) (a7 Z (b5 Z Z (b9 Z Z) (b4 (hK1 _ ?_))))))
 clear hK1 K1
 refine c1 (λK2 hK2=>?_)
 refine c1 (λK3 hK3=>?_)
 refine b6 (a7 Z (b5 Z Z (b8 Z Z) (a7 Z (b5 Z Z (p9 G Z Z Z) (a7 Z (b5 Z Z (a1B (v':=.bool false) (u4 Z Z Z Z) (by first | rfl | (simp;done) | decide)) (a7 Z (b5 Z Z (b8 Z Z) (m7 Z Z Z (b5 Z Z (b8 Z Z) (m7 Z Z Z (b5 Z Z (p9 G Z Z Z) (m7 Z Z Z (b5 Z Z (u4 Z Z Z Z) (a7 Z (b5 Z Z (B7 Z Z Z) (b4 (hK3 _ ?_))))))))))))))))))
 clear hK3 K3
 refine l1 Z (λh1=>?_) (λh1=>?_)
 ·try rw [h1]
  try simp only [rfb] at h1
  have hO:=c7C (s:=s) J
  refine c1 (λK4 hK4=>?_)
  refine b6 (a7 Z (p6 G 1 Z Z Z Z Z Z Z Z (a7 Z (b5 Z Z (b9 Z Z) (a7 Z (b5 Z Z (b9 Z Z) (b4 (hK4 _ ?_))))))))
  clear hK4 K4
  refine d7 (s1 Z Z Z Z (b3 (c7 Z ?_) (b3 (i8 ?_) d9)))
  all_goals clear hK2 K2
  all_goals (first | (rw [hO];done) | (rw [hO];rfl) | (simp;omega))
 ·try rw [h1]
  try simp only [rfb] at h1
  have hO:=c03 (s:=s) J
  refine r7 (hK2 _ ?_)
  clear hK2 K2
  refine c1 (λK5 hK5=>?_)
  refine b6 (a7 Z (b5 Z Z (b8 Z Z) (a7 Z (b5 Z Z (b8 Z Z) (a7 Z (b5 Z Z (Q9 G Z Z Z Z J (by decide)) (a7 Z (d3 1 Z Z Z (ArgsOK.of Z) (S2 s 10 hz) Z Z (a7 Z (b5 Z Z (b9 Z Z) (a7 Z (b5 Z Z (b9 Z Z) (b4 (hK5 _ ?_))))))))))))))
  clear hK5 K5
  refine d7 (s1 Z Z Z Z (b3 (c7 Z ?_) (b3 (i8 ?_) d9)))
  all_goals (first | (rw [hO];done) | (rw [hO];rfl) | (simp;omega))
theorem a8l (x:Lg) (k:Int) (hx:x.d.size+x.p.size<=1048576):Ctr Tryz.prog 25 [.v (a4F x),.v (.int .i64 k),.v (.bool false)] (.many [.v (.string (crE x k false)),.v (.bool (crG x k))]):=by
 refine Ctr.of (n:=45) G Tryz.func25 Z Y Z Z Z (λw0=>?_)
 refine c1 (λK1 hK1=>?_)
 refine b6 (a7 Z (B4 1 Z Z Z Z Z Z Z (a7 Z (b5 Z Z (b9 Z Z) (a7 Z (b5 Z Z (b9 Z Z) (b4 (hK1 _ ?_))))))))
 clear hK1 K1
 refine c1 (λK2 hK2=>?_)
 refine c1 (λK3 hK3=>?_)
 refine b6 (a7 Z (b5 Z Z (c6 G Z Z Z Z Z Z) (a7 Z (b5 Z Z (i7 Z (ArgsOK.of Z) (P6 _ (by first | assumption | omega)) Z) ?_))))
 refine a7 Z (b5 Z Z (a1d Z Z) (a7 Z (b5 Z Z (b8 Z Z) (D9 Z Z Z (λh1=>?_) (λh1=>?_)))))
 ·try rw [h1]
  try simp only [rfb] at h1
  have hO:=c9L (x:=x) (k:=k) (t:=false) (by rw [crG,h1];rfl)
  refine l7 Z Z Z Z Z Z (l7 Z Z Z Z Z Z (l7 Z Z Z Z Z Z (l7 Z Z Z Z Z Z (l7 Z Z Z Z Z Z (l7 Z Z Z Z Z Z (a7 Z (b5 Z Z (z6 Z Z Z) (b4 (hK3 _ ?_)))))))))
  clear hK3 K3
  refine M8 Z ?_
  refine c1 (λK4 hK4=>?_)
  refine b6 (a7 Z (b5 Z Z (b9 Z Z) (a7 Z (b5 Z Z (b9 Z Z) (b4 (hK4 _ ?_))))))
  clear hK4 K4
  exact c5k
 ·try rw [h1]
  try simp only [rfb] at h1
  refine m7 Z Z Z (b5 Z Z (b8 Z Z) (m7 Z Z Z (b5 Z Z (d5 G Z Z Z Z) (m7 Z Z Z (b5 Z Z (f9 G Z Z Z Z Z Z Z) (m7 Z Z Z (b5 Z Z (p9 G Z Z Z) (m7 Z Z Z (b5 Z Z (i7 Z (ArgsOK.of Z) (H4 _ _ _) Z) (m7 Z Z Z (b5 Z Z (a1d Z Z) (a7 Z (b5 Z Z (B7 Z Z Z) (b4 (hK3 _ ?_)))))))))))))))
  clear hK3 K3
  refine l1 Z (λh2=>?_) (λh2=>?_)
  ·try rw [h2]
   try simp only [rfb] at h2
   have hO:=c9L (x:=x) (k:=k) (t:=false) (by rw [crG,h2,Bool.and_false])
   refine c1 (λK5 hK5=>?_)
   refine b6 (a7 Z (b5 Z Z (b9 Z Z) (a7 Z (b5 Z Z (b9 Z Z) (b4 (hK5 _ ?_))))))
   clear hK5 K5
   exact c5k
  ·try rw [h2]
   try simp only [rfb] at h2
   have hk0:=v6.mp h2
   have hqs:(x.p.extract ((0:Int)).toNat k.toNat).size=k.toNat:=(by rw [U2 J];show k.toNat - 0=_;omega)
   have hok:=a5K h1
   have hO:=c9M (x:=x) (k:=k) (t:=false) h1 h2 (by rintro ⟨g,_⟩;cases g)
   refine r7 (hK2 _ ?_)
   clear hK2 K2
   refine c1 (λK6 hK6=>?_)
   refine b6 (a7 Z (b5 Z Z (d5 G Z Z Z Z) (a7 Z (b5 Z Z (f9 G Z Z Z Z Z Z Z) (a7 Z (b5 Z Z (b8 Z Z) (a7 Z (b5 Z Z (z8 G Z Z Z Z Z J J J) (a7 Z (c7E G 2 Z Z Z Z Z Z Z Z (a7 Z (b5 Z Z (b9 Z Z) (b4 (hK6 _ ?_))))))))))))))
   clear hK6 K6
   refine c1 (λK7 hK7=>?_)
   refine c1 (λK8 hK8=>?_)
   refine b6 (a7 Z (b5 Z Z (b8 Z Z) (a7 Z (b5 Z Z (b8 Z Z) (l7 Z Z Z Z Z Z (l7 Z Z Z Z Z Z (a7 Z (b5 Z Z (B7 Z Z Z) (b4 (hK8 _ ?_))))))))))
   clear hK8 K8
   refine Y6 Z (r7 (hK7 _ ?_))
   clear hK7 K7
   refine c1 (λK9 hK9=>?_)
   refine b6 (a7 Z (b5 Z Z (d5 G Z Z Z Z) (a7 Z (b5 Z Z (f9 G Z Z Z Z Z Z Z) (a7 Z (b5 Z Z (b8 Z Z) (a7 Z (b5 Z Z (c24 G Z Z Z Z Z Z) (a7 Z (b5 Z Z (B0 Z Z Z (by rw [strOfNums_size];(try simp only [List.length_set]);rw [a0A];omega)) (a7 Z (b5 Z Z (b9 Z Z) (a7 Z (b5 Z Z (b9 Z Z) (b4 (hK9 _ ?_))))))))))))))))
   clear hK9 K9
   refine d7 (s1 Z Z Z Z (b3 (i8 ?_) (b3 (i8 ?_) d9)))
   all_goals (first | (rw [hO.1];done) | (rw [hO.1];rfl) | (rw [hO.2];done) | (rw [hO.2];rfl))
theorem a8m (s:ByteArray) (hs:s.size<=1048576):Ctr Tryz.prog 26 [.v (.string s)] (.many [.v (a4F (rcE s)),.v (.int .i64 (rcN s)),.v (.bool (a7P s))]):=by
 have hll:=T4 (s:=s)
 have hpi:J3 s (l9 s)=(w4 s (l9 s):Int):=rfl
 have hge:=b3N (s:=s)
 have hrl:=b06 (s:=s)
 have hel:(pre (J3 s) (l9 s+1)).length=l9 s+1:=G5
 have hem:((pre (J3 s) (l9 s+1)).map Rf.s3).length=l9 s+1:=(by rw [List.length_map,G5])
 refine Ctr.of (n:=29) G Tryz.func26 Z a8 Z Z Z (λw0=>?_)
 refine a3p ?_
 refine a78 ?_
 refine zcd (λh1=>?_) (λh1=>?_)
 ·have hO:=d09 (s:=s) J
  refine zgo ?_
  exact c5j
 have hO:=c64 (s:=s) J
 refine vm3 ?_
 refine d3 3 Z Z Z (ArgsOK.of Z) (W9 _ Z7) Z Z ?_
 refine vm4 ?_
 refine c3n ?_
 refine zgn ?_
 rw [hge]
 refine c1s ?_
 refine zgn ?_
 rw [hrl]
 exact c5j
theorem b1w:S8 Tryz.prog 30 [.str,.str,.int .i64]=true:=by kernel_rfl
theorem b1x:S8 Tryz.prog 76 [.int .i64,.int .i64]=true:=by kernel_rfl
theorem a9W:S8 Tryz.prog 104 [.int .i64,.int .i64,.int .i64]=true:=by kernel_rfl
theorem a9X:S8 Tryz.prog 132 [.int .i64,.int .i64]=true:=by kernel_rfl
theorem b5B (l:List Int) (hl:l.length<=9223372036854775807):Ctr Tryz.prog 6 [.lst 1 (l.map B1)] (.one (.v (.bool (decide (65536 < l.length))))):=by
 refine Ctr.of (n:=6) G Tryz.func6 Z a8 Z Z Z (λw0=>?_)
 refine zf1 ?_
 all_goals (first | rfl | (simp;done) | (simp;omega))
theorem b4g (xs ys:List Int) (he:xs=ys) (hn:xs.length<=9223372036854775807):Ctr Tryz.prog 129 [.lst 1 (xs.map Rf.s3),.lst 1 (ys.map Rf.s3)] (.one (.v (.bool true))):=by
 subst he
 refine Ctr.of (n:=26) G Tryz.func129 Z a8 Z Z Z (λw0=>?_)
 refine c1q ?_
 refine zgn ?_
 refine p8 (i6 [0,1] [] (λ(i:Nat)=>[(5,.v (.int .i64 (i:Int)))]) (λ(i:Nat)=>[]) (λ(i:Nat)=>i<=xs.length) (λ(i:Nat)=>xs.length - i) 0 Z Z ?_ ?_ ?_ ?_)
 ·exact P9
 ·exact C0
 ·exact trivial
 intro i hinv
 refine vm2 ?_
 refine zgn ?_
 refine l1 Z (λh1=>?_) (λh1=>?_)
 ·try rw [h1]
  try simp only [rfb] at h1
  refine b8P ?_
  refine l8 Z Z (a1B (v':=.bool false) (u4 Z Z Z Z) b5o) ?_
  exact b2V
 try rw [h1]
 try simp only [rfb] at h1
 refine zgn ?_
 refine a79 ?_
 all_goals (rfl)
theorem a6g (xs ys:List Bool) (he:xs=ys) (hn:xs.length<=9223372036854775807):Ctr Tryz.prog 87 [.lst 1 (xs.map m9),.lst 1 (ys.map m9)] (.one (.v (.bool true))):=by
 subst he
 refine Ctr.of (n:=26) G Tryz.func87 Z a8 Z Z Z (λw0=>?_)
 refine c1q ?_
 refine zgn ?_
 refine p8 (i6 [0,1] [] (λ(i:Nat)=>[(5,.v (.int .i64 (i:Int)))]) (λ(i:Nat)=>[]) (λ(i:Nat)=>i<=xs.length) (λ(i:Nat)=>xs.length - i) 0 Z Z ?_ ?_ ?_ ?_)
 ·exact P9
 ·exact C0
 ·exact trivial
 intro i hinv
 refine vm2 ?_
 refine zgn ?_
 refine l1 Z (λh1=>?_) (λh1=>?_)
 ·try rw [h1]
  try simp only [rfb] at h1
  refine b8P ?_
  refine l8 Z Z (a1B (v':=.bool false) (b85 (G 4 _ Z).1 Z Z Z) b5o) ?_
  exact b2V
 try rw [h1]
 try simp only [rfb] at h1
 refine zgn ?_
 refine a79 ?_
 all_goals (rfl)
theorem b1y (xs ys:List Route) (he:xs=ys) (hn:xs.length<=9223372036854775807):Ctr Tryz.prog 86 [.lst 2 (xs.map p5),.lst 2 (ys.map p5)] (.one (.v (.bool true))):=by
 subst he
 refine Ctr.of (n:=26) G Tryz.func86 Z a8 Z Z Z (λw0=>?_)
 refine c1q ?_
 refine zgn ?_
 refine p8 (i6 [0,1] [] (λ(i:Nat)=>[(5,.v (.int .i64 (i:Int)))]) (λ(i:Nat)=>[]) (λ(i:Nat)=>i<=xs.length) (λ(i:Nat)=>xs.length - i) 0 Z Z ?_ ?_ ?_ ?_)
 ·exact P9
 ·exact C0
 ·exact trivial
 intro i hinv
 refine vm2 ?_
 refine zgn ?_
 refine l1 Z (λh1=>?_) (λh1=>?_)
 ·try rw [h1]
  try simp only [rfb] at h1
  refine b8P ?_
  refine l8 Z Z (a1B (v':=.bool false) (b4A [.int .i64,.int .i64] Z Z Z Z Z Z Z (.inl Z) (.inl Z) a9X ⟨_,_,Z,⟨_,Z⟩,_,_,Z,⟨_,Z⟩,Z⟩ ⟨_,_,Z,⟨_,Z⟩,_,_,Z,⟨_,Z⟩,Z⟩) b5o) ?_
  exact b2V
 try rw [h1]
 try simp only [rfb] at h1
 refine zgn ?_
 refine a79 ?_
 all_goals (rfl)
theorem b1V (xs ys:List Slot) (he:xs=ys) (hn:xs.length<=9223372036854775807):Ctr Tryz.prog 187 [.lst 3 (xs.map j4),.lst 3 (ys.map j4)] (.one (.v (.bool true))):=by
 subst he
 refine Ctr.of (n:=26) G Tryz.func187 Z a8 Z Z Z (λw0=>?_)
 refine c1q ?_
 refine zgn ?_
 refine p8 (i6 [0,1] [] (λ(i:Nat)=>[(5,.v (.int .i64 (i:Int)))]) (λ(i:Nat)=>[]) (λ(i:Nat)=>i<=xs.length) (λ(i:Nat)=>xs.length - i) 0 Z Z ?_ ?_ ?_ ?_)
 ·exact P9
 ·exact C0
 ·exact trivial
 intro i hinv
 refine vm2 ?_
 refine zgn ?_
 refine l1 Z (λh1=>?_) (λh1=>?_)
 ·try rw [h1]
  try simp only [rfb] at h1
  refine b8P ?_
  refine l8 Z Z (a1B (v':=.bool false) (b4A [.int .i64,.int .i64,.int .i64] Z Z Z Z Z Z Z (.inl Z) (.inl Z) a9W ⟨_,_,Z,⟨_,Z⟩,_,_,Z,⟨_,Z⟩,_,_,Z,⟨_,Z⟩,Z⟩ ⟨_,_,Z,⟨_,Z⟩,_,_,Z,⟨_,Z⟩,_,_,Z,⟨_,Z⟩,Z⟩) b5o) ?_
  exact b2V
 try rw [h1]
 try simp only [rfb] at h1
 refine zgn ?_
 refine a79 ?_
 all_goals (rfl)
theorem a9Y (xs ys:List Wtr) (he:xs=ys) (hn:xs.length<=9223372036854775807):Ctr Tryz.prog 188 [.lst 2 (xs.map j8),.lst 2 (ys.map j8)] (.one (.v (.bool true))):=by
 subst he
 refine Ctr.of (n:=26) G Tryz.func188 Z a8 Z Z Z (λw0=>?_)
 refine c1q ?_
 refine zgn ?_
 refine p8 (i6 [0,1] [] (λ(i:Nat)=>[(5,.v (.int .i64 (i:Int)))]) (λ(i:Nat)=>[]) (λ(i:Nat)=>i<=xs.length) (λ(i:Nat)=>xs.length - i) 0 Z Z ?_ ?_ ?_ ?_)
 ·exact P9
 ·exact C0
 ·exact trivial
 intro i hinv
 refine vm2 ?_
 refine zgn ?_
 refine l1 Z (λh1=>?_) (λh1=>?_)
 ·try rw [h1]
  try simp only [rfb] at h1
  refine b8P ?_
  refine l8 Z Z (a1B (v':=.bool false) (b4A [.int .i64,.int .i64] Z Z Z Z Z Z Z (.inl Z) (.inl Z) b1x ⟨_,_,Z,⟨_,Z⟩,_,_,Z,⟨_,Z⟩,Z⟩ ⟨_,_,Z,⟨_,Z⟩,_,_,Z,⟨_,Z⟩,Z⟩) b5o) ?_
  exact b2V
 try rw [h1]
 try simp only [rfb] at h1
 refine zgn ?_
 refine a79 ?_
 all_goals (rfl)
theorem b1W (q r:Que) (he:q=r) (h1:q.sl.length<=9223372036854775807) (h2:q.wa.length<=9223372036854775807):Ctr Tryz.prog 130 [.agg [.lst 3 (q.sl.map j4),.lst 2 (q.wa.map j8)],.agg [.lst 3 (r.sl.map j4),.lst 2 (r.wa.map j8)]] (.one (.v (.bool true))):=by
 subst he
 refine Ctr.of (n:=17) G Tryz.func130 Z a8 Z Z Z (λw0=>?_)
 refine n9 0 Z (λ_=>Z) (λu0=>?_)
 refine n9 1 Z (λ_=>Z) (λu1=>?_)
 refine vm1 ?_
 refine b6F ?_
 refine zcl (b1V _ _ Z h1) ?_
 refine zcl (a9Y _ _ Z h2) ?_
 exact a9r
theorem b4h (x y:Ifc) (he:x=y) (hb:BigI x):Ctr Tryz.prog 88 [.agg [.v (.int .i64 x.ma),.lst 1 (x.st.map Rf.s3),.lst 3 (x.qu.sl.map j4),.lst 2 (x.qu.wa.map j8)],.agg [.v (.int .i64 y.ma),.lst 1 (y.st.map Rf.s3),.lst 3 (y.qu.sl.map j4),.lst 2 (y.qu.wa.map j8)]] (.one (.v (.bool true))):=by
 subst he
 refine Ctr.of (n:=24) G Tryz.func88 Z a8 Z Z Z (λw0=>?_)
 refine n9 0 Z (λ_=>Z) (λu0=>?_)
 refine n9 1 Z (λ_=>Z) (λu1=>?_)
 refine t8 ?_
 refine b1K ?_
 refine b6F ?_
 refine zgn ?_
 refine a4j ?_
 iterate 4 refine zst ?_
 refine r6 ?_
 refine b5 Z Z (a1B (v':=.bool true) (u4 Z Z Z Z) c1n) ?_
 iterate 5 refine zst ?_
 refine Y5 ?_
 refine b5 Z Z (i7 Z (ArgsOK.of Z) (b4g _ _ Z hb.st) Z) ?_
 iterate 6 refine zst ?_
 refine Y5 ?_
 refine b5 Z Z (i7 Z (ArgsOK.of Z) (b1W x.qu _ Z hb.sl hb.wa) Z) ?_
 refine zgn ?_
 exact b5v
theorem a9Z (x y:Mach) (he:x=y) (hb:BigM x):Ctr Tryz.prog 49 [.agg [.lst 2 (x.rs.map p5),.lst 1 (x.en.map m9),.lst 1 (x.ra.map m9),.nst none 4 (x.cp.map (s2 104 76))],.agg [.lst 2 (y.rs.map p5),.lst 1 (y.en.map m9),.lst 1 (y.ra.map m9),.nst none 4 (y.cp.map (s2 104 76))]] (.one (.v (.bool true))):=by
 subst he
 have hb4:=hb.cp
 refine Ctr.of (n:=56) G Tryz.func49 Z a8 Z Z Z (λw0=>?_)
 refine n9 0 Z (λ_=>Z) (λu0=>?_)
 refine n9 1 Z (λ_=>Z) (λu1=>?_)
 refine t8 ?_
 refine b1K ?_
 refine b6F ?_
 refine zgn ?_
 refine t8 ?_
 refine a4j ?_
 iterate 4 refine zst ?_
 refine r6 ?_
 refine b5 Z Z (i7 Z (ArgsOK.of Z) (b1y _ _ Z hb.rs) Z) ?_
 iterate 6 refine zst ?_
 refine Y5 ?_
 refine b5 Z Z (i7 Z (ArgsOK.of Z) (a6g _ _ Z hb.en) Z) ?_
 iterate 7 refine zst ?_
 refine Y5 ?_
 refine b5 Z Z (i7 Z (ArgsOK.of Z) (a6g _ _ Z hb.ra) Z) ?_
 iterate 9 refine zst ?_
 refine Y5 ?_
 refine b5 Z Z (a1B (v':=.bool false) (u4 Z Z Z Z) c1n) ?_
 refine zgn ?_
 refine Y6 Z ?_
 refine zgn ?_
 refine zgn ?_
 refine p8 (i6 [2,3] [0,1] (λ(i:Nat)=>[(5,.v (.int .i64 (i:Int)))]) (λ(i:Nat)=>[]) (λ(i:Nat)=>i<=x.cp.length) (λ(i:Nat)=>x.cp.length - i) 0 Z Z ?_ ?_ ?_ ?_)
 ·exact P9
 ·exact C0
 ·exact trivial
 intro i hinv
 refine vm2 ?_
 refine zgn ?_
 refine l1 Z (λh1=>?_) (λh1=>?_)
 ·try rw [h1]
  try simp only [rfb] at h1
  refine zgn ?_
  refine t8 (p8 ?_)
  refine c1u ?_
  iterate 10 refine zst ?_
  refine d8 Z (l8 Z Z (i7 Z (ArgsOK.of Z) (b4h _ _ Z (hb.all i J)) Z) ?_)
  exact b2V
 try rw [h1]
 try simp only [rfb] at h1
 refine zgn ?_
 refine a79 ?_
 all_goals (rfl)
theorem a90 (m w:Mach) (lg kg:Lg) (he:m=w) (hg:lg=kg) (hb:BigM m):Ctr Tryz.prog 16 [.agg [.lst 2 (m.rs.map p5),.lst 1 (m.en.map m9),.lst 1 (m.ra.map m9),.nst none 4 (m.cp.map (s2 104 76)),.v (.string lg.d),.v (.string lg.p),.v (.int .i64 lg.n)],.agg [.lst 2 (w.rs.map p5),.lst 1 (w.en.map m9),.lst 1 (w.ra.map m9),.nst none 4 (w.cp.map (s2 104 76)),.v (.string kg.d),.v (.string kg.p),.v (.int .i64 kg.n)]] (.one (.v (.bool true))):=by
 subst he
 subst hg
 refine Ctr.of (n:=17) G Tryz.func16 Z Y Z Z Z (λw0=>?_)
 refine n9 0 Z (λ_=>Z) (λu0=>?_)
 refine n9 1 Z (λ_=>Z) (λu1=>?_)
 refine c1 (λK1 hK1=>?_)
 refine b6 (a7 Z (B4 1 Z Z Z Z Z Z Z (a7 Z (B4 2 Z Z Z Z Z Z Z (a7 Z (b5 Z Z (b9 Z Z) (b4 (hK1 _ ?_))))))))
 clear hK1 K1
 refine c1 (λK2 hK2=>?_)
 refine b6 (a7 Z (b5 Z Z (d5 G Z Z Z Z) (a7 Z (b5 Z Z (c6 G Z Z Z Z Z Z) (a7 Z (b5 Z Z (d5 G Z Z Z Z) (a7 Z (b5 Z Z (c6 G Z Z Z Z Z Z) (a7 Z (b5 Z Z (i7 Z (ArgsOK.of Z) (a9Z _ _ Z hb) Z) (a7 Z (b5 Z Z (b8 Z Z) (m7 Z Z Z (b5 Z Z (d5 G Z Z Z Z) (m7 Z Z Z (b5 Z Z (c6 G Z Z Z Z Z Z) (m7 Z Z Z (b5 Z Z (d5 G Z Z Z Z) (m7 Z Z Z (b5 Z Z (c6 G Z Z Z Z Z Z) (m7 Z Z Z (b5 Z Z (a1B (v':=.bool true) (c3N [.str,.str,.int .i64] Z Z Z Z Z Z Z (.inl Z) (.inl Z) b1w ⟨_,_,Z,⟨_,Z⟩,_,_,Z,⟨_,Z⟩,_,_,Z,⟨_,Z⟩,Z⟩ ⟨_,_,Z,⟨_,Z⟩,_,_,Z,⟨_,Z⟩,_,_,Z,⟨_,Z⟩,Z⟩) (by first | rfl | (simp;done) | (simp [E0,Y9];done))) (a7 Z (b5 Z Z (z6 Z Z Z) (a7 Z (b5 Z Z (b9 Z Z) (b4 (hK2 _ ?_))))))))))))))))))))))))))))
 clear hK2 K2
 exact b5v
theorem a0l (m:Mach) (x:Lg) (s:ByteArray) (hs:SmallM m) (hx:x.d.size+x.p.size<=1048576) (hz:s.size<=1048576):Ctr Tryz.prog 14 [.agg [.lst 2 (m.rs.map p5),.lst 1 (m.en.map m9),.lst 1 (m.ra.map m9),.nst none 4 (m.cp.map (s2 104 76)),.v (.string x.d),.v (.string x.p),.v (.int .i64 x.n)],.v (.string s)] (.shp false [some 7,none] [.fr 132 2 ((exC m x s).1.rs.map p5),.fr 4 1 ((exC m x s).1.en.map m9),.fr 4 1 ((exC m x s).1.ra.map m9),.ne 74 4 ((exC m x s).1.cp.map (a1T 104 76)),.v (.string (exC m x s).2.1.d),.v (.string (exC m x s).2.1.p),.v (.int .i64 (exC m x s).2.1.n),.v (.string (exC m x s).2.2)]):=by
 refine Ctr.of (n:=53) G Tryz.func14 Z Y Z Z Z (λw0=>?_)
 refine n9 0 Z (λ_=>Z) (λu0=>?_)
 refine zgo ?_
 refine a7 Z (B4 1 Z Z Z Z Z Z Z (a7 Z (d6 G 2 Z Z Z Z Z ?_)))
 refine zcl (a4o m x hs hx) ?_
 refine zcd (λh1=>?_) (λh1=>?_)
 ·have hO:=c0O (s:=s) h1
  exact c1N
 obtain ⟨hM,hLg⟩:=b07 h1
 refine zgo ?_
 refine a7 Z (b5 Z Z (i7 Z (ArgsOK.of Z) (S0 ⟨s,⟨#[]⟩⟩ ⟨by show s.size<=_;omega,R7 (by decide)⟩) Z) ?_)
 refine zcd (λh2=>?_) (λh2=>?_)
 ·have hO:=c0P h1 h2
  exact c1N
 refine zcd (λh3=>?_) (λh3=>?_)
 ·have hO:=c0Q h1 h2 h3
  exact c1N
 refine zgo ?_
 refine a7 Z (d3 6 Z Z Z (ArgsOK.of Z) (Ctr.shpTo (a2p m x hs hx) (.cons .s (.cons .s (.cons .s (.cons (.n flM) (.cons .s (.cons .s (.cons .s .nil)))))))) Z Z (a7 Z (d6 G 7 Z Z Z Z Z ?_)))
 refine zgo ?_
 refine a7 Z (a2n (n:=88) G Z Z Z Tryz.func44 Z Y Z Z Z Z ?_)
 intro b hen hpin
 have hwn:1<=(g8 s 32).length/\(g8 s 32).length<=s.size+1:=V9
 have hml:((g8 s 32).map a4g).length=(g8 s 32).length:=List.length_map _
 refine zgo ?_
 refine a7 Z (d3 8 Z Z Z (ArgsOK.of Z) (b81 s hz) Z Z ?_)
 refine zgo ?_
 refine a7 Z ?_
 first | refine b5 Z Z (d1 G Z Z Z Z Z J (by rw [List.length_map];omega)) ?_ | refine b5 Z Z (d1 G Z Z Z Z Z J J) ?_
 refine a7 Z ?_
 first | refine b5 Z Z (j9 G Z Z Z Z Z (c2Y J) Z) ?_ | refine b5 Z Z (j9 G Z Z Z Z Z (C3 J J) Z) ?_
 refine zcl (a6O (wrd s 0)) ?_
 refine zcd (λh101=>?_) (λh101=>?_)
 ·refine zgo ?_
  refine d7 ⟨.inr Z,_,Z,Z,?_⟩
  have hO:=P5 h1 h2 h3 (a6C (c0J h101))
  refine zwt ?_
  exact b2U
 refine zgo ?_
 refine a7 Z (p6 G 9 Z Z Z Z Z Z Z Z ?_)
 refine zgo ?_
 refine a7 Z (b5 Z Z (a2U G Z Z Z Z Z Z J (by first | omega | (simp;done) | (simp;omega)) (by first | omega | (simp;done) | (simp;omega))) ?_)
 refine zgo ?_
 refine i6 [0,6,29,30] [0,1,2,3,4,5,6,7] (λ(i:Nat)=>[(7,.own 8),(31,.v (.int .i64 (i:Int)))]) (λ(i:Nat)=>[(8,some (.row 3 1 ((F5 s i).map Rf.s3)))]) (λ(i:Nat)=>i<=(g8 s 32).length - 1/\∀j,j < i→nmK (wrd s (j+1))=true) (λ(i:Nat)=>(g8 s 32).length - 1 - i) 0 Z Z ?_ ?_ ?_ ?_
 ·exact T5
 ·exact Z8
 ·exact a1U
 intro i hinv
 have hnl:=@a4Z s i
 simp only [List.cons_append,List.nil_append]
 refine zcd (λh102=>?_) (λh102=>?_)
 ·refine zgo ?_
  refine a7 Z (b5 Z Z (b4m G Z Z Z Z Z J J) (a7 Z ?_))
  first | refine b5 Z Z (j9 G Z Z Z Z Z (c2Y J) Z) ?_ | refine b5 Z Z (j9 G Z Z Z Z Z (C3 J J) Z) ?_
  refine zcl (a9T (wrd s (i+1)) (by have:=@c0G s (i+1);omega)) ?_
  refine zcd (λh103=>?_) (λh103=>?_)
  ·refine zgo ?_
   refine d7 ⟨.inr Z,_,Z,Z,?_⟩
   have hO:=P5 h1 h2 h3 (a6C (c0K (c0H h103 (by show i < (g8 s 32).length - 1;omega))))
   refine zwt ?_
   exact b2U
  refine zgo ?_
  refine a7 Z (p6 G 10 Z Z Z Z Z Z Z Z (a7 Z (l2 G (by rw [hpin];decide) Z Z Z Z Z Z Z Z Z (by first | (simp only [List.length_map,List.length_cons,List.length_nil];omega) | (simp;omega)) Z Z ?_)))
  exact c49
 obtain rfl:i=(g8 s 32).length - 1:=J
 have hNK:I2 s=true:=c0I hinv.2 (Nat.le_refl _)
 have hal:a2I (o7 (wrd s 0))=(D0 s).length:=(by rw [b8H];show _=(((g8 s 32).length - 1:Nat):Int);omega)
 refine zgo ?_
 refine a7 Z ?_
 first | refine b5 Z Z (d1 G Z Z Z Z Z J (by rw [List.length_map];omega)) ?_ | refine b5 Z Z (d1 G Z Z Z Z Z J J) ?_
 refine a7 Z ?_
 first | refine b5 Z Z (j9 G Z Z Z Z Z (c2Y J) Z) ?_ | refine b5 Z Z (j9 G Z Z Z Z Z (C3 J J) Z) ?_
 refine zcl (b1T (wrd s 0) (D0 s) hal) ?_
 refine zgo ?_
 refine a7 Z (d6 G 10 Z Z Z Z Z ?_)
 refine zcd (λh104=>?_) (λh104=>?_)
 ·have cA:=b4f m (wrd s 0) (D0 s) hs hM hal h104
  have hC:=c0L (m:=m) h101 hNK h104
  generalize a4Y m (o7 (wrd s 0)) (D0 s)=ra at cA hC
  obtain ⟨r,ok⟩:=ra
  dsimp only at cA
  refine zgd ?_
  refine zgo ?_
  refine d8 Z (l8 Z Z (u6 Z Z) ?_)
  refine zgo ?_
  refine d8 Z ?_
  first | refine l8 Z Z (d1 G Z Z Z Z Z J (by rw [List.length_map];omega)) ?_ | refine l8 Z Z (d1 G Z Z Z Z Z J J) ?_
  refine d8 Z ?_
  first | refine l8 Z Z (j9 G Z Z Z Z Z (c2Y J) Z) ?_ | refine l8 Z Z (j9 G Z Z Z Z Z (C3 J J) Z) ?_
  refine zcl (Ctr.argsTo cA (λw vs h=>c9q flM vs h)) ?_
  refine zgo ?_
  refine d7 ⟨.inr Z,_,Z,Z,?_⟩
  refine zcd (λh105=>?_) (λh105=>?_)
  ·have hO:=P5 h1 h2 h3 (a6C (hC.trans (by rw [h105])))
   exact b2U
  have hO:=P5 h1 h2 h3 (b3R (hC.trans (by rw [h105])))
  exact b2U
 have hD:=c0M (m:=m) h101 hNK h104
 have hir:=@a40 m (a0W (o7 (wrd s 0)) (D0 s)).1
 have cS:=a6R m (a0W (o7 (wrd s 0)) (D0 s)).1.k (a0W (o7 (wrd s 0)) (D0 s)).1.q (a0W (o7 (wrd s 0)) (D0 s)).1.c (a0W (o7 (wrd s 0)) (D0 s)).1.v hs
 have est:(⟨(a0W (o7 (wrd s 0)) (D0 s)).1.k,(a0W (o7 (wrd s 0)) (D0 s)).1.q,(a0W (o7 (wrd s 0)) (D0 s)).1.c,(a0W (o7 (wrd s 0)) (D0 s)).1.v⟩:MStep)=(a0W (o7 (wrd s 0)) (D0 s)).1:=rfl
 rw [est] at cS
 unfold a9n at hD
 generalize smT m (a0W (o7 (wrd s 0)) (D0 s)).1=sr at cS hD hir
 obtain ⟨m1,ir,ok⟩:=sr
 dsimp only at cS hD hir
 refine zgn ?_
 refine t8 (j7 14 [0,1,2,3,4,5,6,7,8,9] mixed Y Z Z (λr0=>?_) (λ_ h=>h))
 refine zsa 0 ?_
 refine zsa 4 ?_
 refine A7 (N:=11) Z (s8 (fuel:=11) [⟨10,14,10,true,.box (avR [.slice none 0 0,.slice none 0 0,.slice none 0 0,.slice none 0 0] [])⟩] (AllVOK.cons (VOK.boxS G Z Z Z Z Z) (AllVOK.nil)) (λhok=>?_))
 refine m6 [(1,[])] Y Y (λe he=>hok e he) Y (AllVS.cons ?_ AllVS.nil)
 refine VStep.mk0 [0,1,2,3,4,5,6,7,8,9] Z Z (λb1 _ hbn=>b5 Z Z (u6 Z Z) (b4 Z)) Y Y Y Y (w6 2 Z Y Z Z Z Z (d5 G Z Z Z Z) Y Y Y (w6 3 Z Y Z Z Z Z (c6 G Z Z Z Z Z Z) Y Y Y (m6 [(5,[])] Y Y (λe he=>hok e he) Y (AllVS.cons ?_ AllVS.nil))))
 refine VStep.mk0 [0,1,2,3,4,5,6,7,8,9] Z Z (λb1 _ hbn=>d3 15 Z Z Z (ArgsOK.of Z) (Ctr.argsTo cS (λw vs h=>c9q flM vs h)) Z Z (b4 Z)) Y Y Y Y (w6 6 Z Y Z Z Z Z (b8 Z Z) Y Y Y (w6 7 Z Y Z Z Z Z (e7 Z Z Z) Y Y Y (w6 8 Z Y Z Z Z Z (e7 Z Z Z) Y Y Y (w6 9 Z Y Z Z Z Z (e7 Z Z Z) Y Y Y (m6 [(11,[10])] Y Y (λe he=>hok e he) Y (AllVS.cons ?_ AllVS.nil))))))
 refine VStep.mk1 [0,1,2,3,4,5,6,7,8,9] 14 (.ptr 10 0) 10 (.box (avR [.slice none 0 0,.slice none 0 0,.slice none 0 0,.slice none 0 0] [])) [] Z Z Z Z Z (λb1 _ hbn=>f6 G Z Z Z Z Z Z Z Z Z Z Z (b4 Z)) Y Y Y Y (E1 ?_)
 clear hok
 refine zsa 12 ?_
 refine zsa 13 ?_
 refine z7 Y ?_
 refine znk ?_
 refine zcd (λh105=>?_) (λh105=>?_)
 ·refine zgo ?_
  refine d7 ⟨.inr Z,_,Z,Z,?_⟩
  have hO:=P5 h1 h2 h3 (a6C (hD.trans (by rw [h105];rfl)))
  refine zwt ?_
  exact b2U
 refine zgo ?_
 refine a7 Z (b5 Z Z (u6 Z Z) ?_)
 refine zcd (λh106=>?_) (λh106=>?_)
 ·refine zcl (E7 ir J J) ?_
  refine zgo ?_
  refine d7 ⟨.inr Z,_,Z,Z,?_⟩
  have hO:=P5 h1 h2 h3 (b3R (hD.trans (by rw [h105,if_pos Z,if_neg h106])))
  refine zwf ?_
  exact b2U
 refine zgo ?_
 refine d7 ⟨.inr Z,_,Z,Z,?_⟩
 have hO:=P5 h1 h2 h3 (b3R (hD.trans (by rw [h105,if_pos Z,if_pos h106])))
 refine zwf ?_
 refine zgo ?_
 refine a7 Z (b5 Z Z (p9 G Z Z Z) ?_)
 refine zcd (λh110=>?_) (λh110=>?_)
 ·try rw [b3S J] at hO
  exact c1L
 try rw [a2K J] at hO
 have hrs:=h110
 refine zgo ?_
 refine a7 Z (b5 Z Z (i7 Z (ArgsOK.of Z) (a1h x ⟨s,_⟩ hx ⟨by show s.size<=_;omega,by first | exact R7 (by decide) | exact O7 J | exact O7 (Int.ofNat_le.1 hrs)⟩) Z) ?_)
 refine zgo ?_
 refine d7 (p7 Z Z Z Z (b3 (c7 Z ?_) (b3 (c7 Z ?_) (b3 (c7 Z ?_) (b3 (B2 Z ?_) (b3 (i8 ?_) (b3 (i8 ?_) (b3 (i8 ?_) (b3 (i8 ?_) d9)))))))))
 all_goals (first | (rw [hO];done) | (rw [hO];rfl))
theorem a8n (x:Lg) (hx:x.d.size+x.p.size<=1048576):Ctr Tryz.prog 56 [.v (a4F x)] (.many [.fr 48 2 ((lrT x).map a54),.v (.bool (okLg x))]):=by
 have hap:(x.d++x.p).size=x.d.size+x.p.size:=ByteArray.size_append
 refine Ctr.of (n:=20) G Tryz.func56 Z a8 Z Z Z (λw0=>?_)
 refine vm1 ?_
 refine zcl (U6 _ Z7) ?_
 refine zcd (λh1=>?_) (λh1=>?_)
 ·have hO:=c7x h1
  refine vm3 ?_
  refine b35 ?_
  exact c1F
 have hO:=b3V h1
 refine vm3 ?_
 refine b33 ?_
 refine r6 ?_
 refine d3 2 Z Z Z (ArgsOK.of Z) (a1Z (x.d++x.p) J) Z Z ?_
 exact c1F
theorem a8o (x:Lg) (hx:x.d.size+x.p.size<=1048576):Ctr Tryz.prog 19 [.v (a4F x)] (.many [.fr 48 2 ((lrT x).map a54),.v (.bool (okLg x))]):=by
 have hap:(x.d++x.p).size=x.d.size+x.p.size:=ByteArray.size_append
 refine Ctr.of (n:=19) G Tryz.func19 Z a8 Z Z Z (λw0=>?_)
 refine vm1 ?_
 refine zcl (P6 _ Z7) ?_
 refine zcd (λh1=>?_) (λh1=>?_)
 ·have hO:=c7x h1
  refine zgo ?_
  refine d7 (s1 Z Z Z Z (b3 (C6 ?_) (b3 (i8 ?_) d9)))
  all_goals (first | (rw [hO.1];rfl) | (rw [hO.1];done) | (rw [hO.2];done) | (rw [hO.2];rfl))
 have hO:=b3V h1
 refine vm3 ?_
 refine b33 ?_
 refine r6 ?_
 refine d3 3 Z Z Z (ArgsOK.of Z) (W9 (x.d++x.p) J) Z Z ?_
 exact c1F
theorem a0E (rs:List Route) (c:Int) (l:Lg) (hn:rs.length<=1048576) (hx:l.d.size+l.p.size<=1048576):Ctr Tryz.prog 21 [.lst 2 (rs.map p5),.v (.int .i64 c),.v (a4F l)] (.many [.v (.int .i64 (a8T rs c l).1),.v (.bool (a8T rs c l).2)]):=by
 have hlr:=@b7B l
 have hs0:SmallM (m8 rs c).1:=a0S
 have hx0:lg0.d.size+lg0.p.size<=1048576:=by decide
 refine Ctr.of (n:=56) G Tryz.func21 Z a8 Z Z Z (λw0=>?_)
 refine vm1 ?_
 refine vm3 ?_
 refine d3 5 Z Z Z (ArgsOK.of Z) (Ctr.shpTo (a2x rs c hn) (.cons .s (.cons .s (.cons .s (.cons (.n flM) (.cons .s (.cons .s (.cons .s (.cons .s .nil))))))))) Z Z ?_
 refine vm3 ?_
 refine b6G ?_
 refine vm3 ?_
 refine d3 7 Z Z Z (ArgsOK.of Z) (a8o l hx) Z Z ?_
 refine zcd (λh1=>?_) (λh1=>?_)
 ·have hO:=c0U (l:=l) h1
  refine zwt ?_
  exact a6E
 refine zcd (λh2=>?_) (λh2=>?_)
 ·have hO:=c0V (rs:=rs) (c:=c) h2
  exact a6E
 refine zgo ?_
 refine i6 [8,10,33,34] [6] (λ(i:Nat)=>[(35,.v (.int .i64 (i:Int)))]) (λ(i:Nat)=>[(1,some (.row 132 2 ((runC (m8 rs c).1 lg0 (csL l) i).1.rs.map p5))),(2,some (.row 4 1 ((runC (m8 rs c).1 lg0 (csL l) i).1.en.map m9))),(3,some (.row 4 1 ((runC (m8 rs c).1 lg0 (csL l) i).1.ra.map m9))),(4,some (.nest 74 4 ((runC (m8 rs c).1 lg0 (csL l) i).1.cp.map (a1T 104 76)) [])),(5,some (.box [.own 1,.own 2,.own 3,.own 4,.v (.string (runC (m8 rs c).1 lg0 (csL l) i).2.d),.v (.string (runC (m8 rs c).1 lg0 (csL l) i).2.p),.v (.int .i64 (runC (m8 rs c).1 lg0 (csL l) i).2.n)]))]) (λ(i:Nat)=>i<=(lrT l).length/\∀j,j < i→b1d (m8 rs c).1 l j=false) (λ(i:Nat)=>(lrT l).length - i) 0 Z Z ?_ ?_ ?_ ?_
 ·exact T5
 ·exact a6F
 ·exact c3C
 intro i hinv
 obtain ⟨hS,hL⟩:=a5N (cs:=csL l) hs0 hx0 i
 have hcs:=@c39 l i
 refine vm2 ?_
 refine zcd (λh3=>?_) (λh3=>?_)
 ·refine vm3 ?_
  refine b8O ?_
  refine r6 ?_
  refine d0f ?_
  refine b36 ?_
  refine vm3 ?_
  refine d3 12 Z Z Z (ArgsOK.of Z) (Ctr.argsTo (a0l (runC (m8 rs c).1 lg0 (csL l) i).1 (runC (m8 rs c).1 lg0 (csL l) i).2 (csL l i) hS hL J) (λw vs h=>c7l flM vs h)) Z Z ?_
  refine vm3 ?_
  refine d6 G 13 Z Z Z Z Z ?_
  refine W8 ?_
  refine zcd (λh4=>?_) (λh4=>?_)
  ·have hO:=c38 h1 h2 hinv.2 J (c36 h4)
   exact a6E
  refine zgn ?_
  refine zgn ?_
  refine b6 ?_
  refine a3q ?_
  refine r4 (Gh.sub 8 1 np Z Z Z) (r4 (Gh.sub 9 2 np Z Z Z) (r4 (Gh.sub 10 3 np Z Z Z) (r4 (Gh.sub 11 4 np Z Z Z) (b4 ⟨(i+1),?_,?_,⟨⟨_,Z,by rfl⟩,Z,trivial⟩,⟨⟨_,Z,by rfl⟩,Z,Z,⟨⟨_,Z,by rfl⟩,Z,Z,⟨⟨_,Z,by rfl⟩,Z,Z,⟨⟨_,Z,by rfl⟩,Z,Z,⟨⟨_,Z,by rfl⟩,Z,Z,trivial⟩⟩⟩⟩⟩,Z,Z,Z⟩))))
  ·exact ⟨by omega,s4 hinv.2 (c0W h4)⟩
  omega
 have hO:=c0X h1 h2 hinv.2 J
 refine zgo ?_
 refine d7 (s1 Z Z Z Z (b3 (i8 ?_) (b3 (i8 ?_) d9)))
 all_goals exact c3i
theorem a86 (rs:List Route) (c:Int) (l:Lg) (hn:rs.length<=1048576) (hx:l.d.size+l.p.size<=1048576):Ctr Tryz.prog 22 [.lst 2 (rs.map p5),.v (.int .i64 c),.v (a4F l)] (.many [.v (.int .i64 (a8T rs c l).1),.v (.bool (a8T rs c l).2)]):=by
 have hlr:=@b7B l
 have hs0:SmallM (m8 rs c).1:=a0S
 have hx0:lg0.d.size+lg0.p.size<=1048576:=by decide
 refine Ctr.of (n:=58) G Tryz.func22 Z a8 Z Z Z (λw0=>?_)
 refine vm1 ?_
 refine vm3 ?_
 refine d3 5 Z Z Z (ArgsOK.of Z) (a0f rs c hn) Z Z ?_
 refine vm3 ?_
 refine b6G ?_
 refine zcd (λh1=>?_) (λh1=>?_)
 ·have hO:=c0U (l:=l) h1
  refine zwt ?_
  exact a6E
 refine zcl (U6 l hx) ?_
 refine zcd (λh2=>?_) (λh2=>?_)
 ·have hO:=c0V (rs:=rs) (c:=c) h2
  exact a6E
 refine vm3 ?_
 refine d3 7 Z Z Z (ArgsOK.of Z) (a8n l hx) Z Z ?_
 refine zgo ?_
 refine i6 [8,10] [6] (λ(i:Nat)=>[(13,.v (.int .i64 (i:Int)))]) (λ(i:Nat)=>[(1,some (.row 132 2 ((runC (m8 rs c).1 lg0 (csL l) i).1.rs.map p5))),(2,some (.row 4 1 ((runC (m8 rs c).1 lg0 (csL l) i).1.en.map m9))),(3,some (.row 4 1 ((runC (m8 rs c).1 lg0 (csL l) i).1.ra.map m9))),(4,some (.nest 74 4 ((runC (m8 rs c).1 lg0 (csL l) i).1.cp.map (s2 104 76)) [])),(5,some (.box [.own 1,.own 2,.own 3,.own 4,.v (.string (runC (m8 rs c).1 lg0 (csL l) i).2.d),.v (.string (runC (m8 rs c).1 lg0 (csL l) i).2.p),.v (.int .i64 (runC (m8 rs c).1 lg0 (csL l) i).2.n)]))]) (λ(i:Nat)=>i<=(lrT l).length/\∀j,j < i→b1d (m8 rs c).1 l j=false) (λ(i:Nat)=>(lrT l).length - i) 0 Z Z ?_ ?_ ?_ ?_
 ·exact T5
 ·exact a6F
 ·exact c3C
 intro i hinv
 obtain ⟨hS,hL⟩:=a5N (cs:=csL l) hs0 hx0 i
 have hcs:=@c39 l i
 refine vm2 ?_
 refine zcd (λh3=>?_) (λh3=>?_)
 ·refine zgn ?_
  refine t8 (p8 (t8 (j7 12 [1,2,3,4,6] mixed a8 Z Z (λr0=>?_) (λ_ h=>h))))
  refine zsa 1 ?_
  refine zsa 2 ?_
  refine c8 3 Z a8 a8 Z Z Z Z (d1 G Z Z Z Z Z J Y4) (c8 4 Z a8 a8 Z Z Z Z (a17 G Z Z Z Z) ?_)
  first | refine c8 5 Z a8 a8 Z Z Z Z (j9 G Z Z Z Z Z (a2z J) Z) ?_ | refine c8 5 Z a8 a8 Z Z Z Z (j9 G Z Z Z Z Z (C3 J J) Z) ?_
  refine b7 (rs:=[0]) a8 Z (AllB.cons ?_ AllB.nil)
  refine g9 [1,2,3,4,6] Z Z ?_
  refine R9 ?_
  refine b7 (rs:=[6]) a8 Z (AllB.cons ?_ AllB.nil)
  refine g9 [1,2,3,4,6] Z Z (d3 11 Z Z Z (ArgsOK.of Z) (y7 (runC (m8 rs c).1 lg0 (csL l) i).1 (runC (m8 rs c).1 lg0 (csL l) i).2 (csL l i) hS hL J) Z Z (b4 ⟨Z,?_⟩))
  refine zsa 7 ?_
  refine zsa 8 ?_
  refine zsa 9 ?_
  refine b7 (rs:=[10]) a8 Z (AllB.cons ?_ AllB.nil)
  refine g9 [1,2,3,4,6] Z Z ?_
  refine R9 ?_
  refine zsa 11 ?_
  refine H8 ?_
  refine vm3 ?_
  refine b8O ?_
  refine r6 ?_
  refine c1t ?_
  refine r6 ?_
  refine c8g ?_
  refine r6 ?_
  refine b5 Z Z (A5 Z Z Z Z) ?_
  refine zcd (λh4=>?_) (λh4=>?_)
  ·have hO:=c38 h1 h2 hinv.2 J (c36 h4)
   exact a6E
  refine zgn ?_
  refine a3o ?_
  refine r4 (Gh.sub 7 1 np Z Z Z) (r4 (Gh.sub 8 2 np Z Z Z) (r4 (Gh.sub 9 3 np Z Z Z) (r4 (Gh.sub 10 4 np Z Z Z) (b4 ⟨(i+1),?_,?_,⟨⟨_,Z,by rfl⟩,Z,trivial⟩,⟨⟨_,Z,by rfl⟩,Z,Z,⟨⟨_,Z,by rfl⟩,Z,Z,⟨⟨_,Z,by rfl⟩,Z,Z,⟨⟨_,Z,by rfl⟩,Z,Z,⟨⟨_,Z,by rfl⟩,Z,Z,trivial⟩⟩⟩⟩⟩,Z,Z,Z⟩))))
  ·exact ⟨by omega,s4 hinv.2 (c0W h4)⟩
  omega
 have hO:=c0X h1 h2 hinv.2 J
 refine zgo ?_
 refine d7 (s1 Z Z Z Z (b3 (i8 ?_) (b3 (i8 ?_) d9)))
 all_goals exact c3i
theorem a91 (l:List Int) (h0:l.length<=9223372036854775807) (hb:∀j,0<=l.getD j default/\l.getD j default<=255):Ctr Tryz.prog 5 [.lst 1 (l.map B1)] (.one (.v (.bool true))):=by
 refine Ctr.of (n:=163) G Tryz.func5 Z Y Z Z Z (λw0=>?_)
 refine c1 (λK1 hK1=>?_)
 refine b6 (a7 Z (b5 Z Z (b9 Z Z) (b4 (hK1 _ ?_))))
 clear hK1 K1
 refine c1 (λK2 hK2=>?_)
 refine c1 (λK3 hK3=>?_)
 refine b6 (a7 Z (b5 Z Z (b8 Z Z) (a7 Z (b5 Z Z (i7 Z (ArgsOK.of Z) (b5B _ (by first | assumption | omega)) Z) (b4 (hK3 _ ?_))))))
 clear hK3 K3
 refine l1 Z (λh1=>?_) (λh1=>?_)
 ·try rw [h1]
  try simp only [rfb] at h1
  refine c1 (λK4 hK4=>?_)
  refine b6 (a7 Z (b5 Z Z (b9 Z Z) (b4 (hK4 _ ?_))))
  clear hK4 K4
  refine d7 (P3 Z (i8 ?_))
  all_goals clear hK2 K2
  all_goals (first | rfl | (simp_all;done))
 ·try rw [h1]
  try simp only [rfb] at h1
  have hl:U9 l:=⟨by omega,hb⟩
  refine r7 (hK2 _ ?_)
  clear hK2 K2
  refine c1 (λK5 hK5=>?_)
  refine b6 (a7 Z (b5 Z Z (b8 Z Z) (a7 Z ?_)))
  refine d4 1 [] Z Z Z (a5l l hl) Z RowsIn.nil Z (λ_=>Z) Z (λx1 ⟨hv1,hc1⟩=>?_)
  refine a7 Z (b5 Z Z (b8 Z Z) (a7 Z (b5 Z Z (e7 Z Z Z) (a7 Z (b5 Z Z (e7 Z Z Z) (a7 Z (b5 Z Z (e7 Z Z Z) (a7 Z (d6 G 2 Z Z Z Z Z (a7 Z (b5 Z Z (b9 Z Z) (a7 Z (b5 Z Z (b9 Z Z) (a7 Z (f6 G Z Z Z Z Z Z Z Z Z Z Z (b4 (hK5 _ ?_)))))))))))))))))
  clear hK5 K5
  refine c1 (λK6 hK6=>?_)
  refine b6 (a7 Z (b5 Z Z (b8 Z Z) (a7 Z (b5 Z Z (b8 Z Z) (a7 Z (b5 Z Z (c6 G Z Z Z Z Z Z) (a7 Z (b5 Z Z (i7 Z (ArgsOK.of Z) (a0E x1.1 x1.2.1 x1.2.2 J hv1.2.2) Z) (a7 Z (b5 Z Z (b8 Z Z) (a7 Z (b5 Z Z (e7 Z Z Z) (a7 Z (b5 Z Z (e7 Z Z Z) (a7 Z (b5 Z Z (b9 Z Z) (a7 Z (b5 Z Z (b9 Z Z) (b4 (hK6 _ ?_))))))))))))))))))))
  clear hK6 K6
  refine c1 (λK7 hK7=>?_)
  refine c1 (λK8 hK8=>?_)
  refine b6 (a7 Z (b5 Z Z (b8 Z Z) (a7 Z (b5 Z Z (b8 Z Z) (a7 Z (b5 Z Z (c6 G Z Z Z Z Z Z) (a7 Z (b5 Z Z (i7 Z (ArgsOK.of Z) (a86 x1.1 x1.2.1 x1.2.2 J hv1.2.2) Z) (a7 Z (b5 Z Z (b8 Z Z) (a7 Z (b5 Z Z (e7 Z Z Z) (a7 Z (b5 Z Z (e7 Z Z Z) (a7 Z (b5 Z Z (b9 Z Z) (a7 Z (b5 Z Z (b9 Z Z) (b4 (hK8 _ ?_))))))))))))))))))))
  clear hK8 K8
  refine c1 (λK9 hK9=>?_)
  refine b6 (a7 Z (b5 Z Z (b8 Z Z) (a7 Z (b5 Z Z (b8 Z Z) (a7 Z (b5 Z Z (a1B (v':=.bool false) (u4 Z Z Z Z) (by first | rfl | (simp;done) | (simp [E0,Y9];done))) (a7 Z (b5 Z Z (b8 Z Z) (m7 Z Z Z (b5 Z Z (b8 Z Z) (m7 Z Z Z (b5 Z Z (b8 Z Z) (m7 Z Z Z (b5 Z Z (a1B (v':=.bool false) (b85 (G 4 _ Z).1 Z Z Z) (by first | rfl | (simp;done) | (simp [E0,Y9];done))) (a7 Z (b5 Z Z (B7 Z Z Z) (b4 (hK9 _ ?_))))))))))))))))))
  clear hK9 K9
  refine Y6 Z (r7 (hK7 _ ?_))
  clear hK7 K7
  refine c1 (λK10 hK10=>?_)
  refine b6 (a7 Z (b5 Z Z (b8 Z Z) (a7 Z ?_)))
  refine d4 6 [] Z Z Z (a5k l hl) Z RowsIn.nil Z (λ_=>Z) Z (λx2 ⟨hv2,hc2⟩=>?_)
  have cP:=a6S x2.2 J
  rw [c03 J] at cP
  refine a7 Z (b5 Z Z (b8 Z Z) (a7 Z (b5 Z Z (e7 Z Z Z) (a7 Z (b5 Z Z (e7 Z Z Z) (a7 Z (d6 G 7 Z Z Z Z Z (a7 Z (f6 G Z Z Z Z Z Z Z Z Z Z Z (a7 Z (b5 Z Z (b9 Z Z) (b4 (hK10 _ ?_)))))))))))))
  clear hK10 K10
  refine c1 (λK11 hK11=>?_)
  refine b6 (a7 Z (b5 Z Z (b8 Z Z) (a7 Z (b5 Z Z (b8 Z Z) (a7 Z (d3 11 Z Z Z (ArgsOK.of Z) (Ctr.shpTo (a2x x1.1 x1.2.1 J) (.cons .s (.cons .s (.cons .s (.cons (.n flM) (.cons .s (.cons .s (.cons .s (.cons .s .nil))))))))) Z Z (a7 Z (b5 Z Z (b8 Z Z) (a7 Z (b5 Z Z (e7 Z Z Z) (a7 Z (b5 Z Z (e7 Z Z Z) (a7 Z (d6 G 12 Z Z Z Z Z (a7 Z (f6 G Z Z Z Z Z Z Z Z Z Z Z (a7 Z (b5 Z Z (b9 Z Z) (b4 (hK11 _ ?_))))))))))))))))))))
  clear hK11 K11
  refine c1 (λK12 hK12=>?_)
  refine c1 (λK13 hK13=>?_)
  refine b6 (a7 Z (b5 Z Z (b8 Z Z) (a7 Z (b5 Z Z (b8 Z Z) (a7 Z (d3 16 Z Z Z (ArgsOK.of Z) (a0f x1.1 x1.2.1 J) Z Z (a7 Z (b5 Z Z (b8 Z Z) (a7 Z (b5 Z Z (e7 Z Z Z) (a7 Z (b5 Z Z (e7 Z Z Z) (a7 Z (d6 G 17 Z Z Z Z Z (a7 Z (f6 G Z Z Z Z Z Z Z Z Z Z Z (a7 Z (b5 Z Z (b9 Z Z) (b4 (hK13 _ ?_))))))))))))))))))))
  clear hK13 K13
  refine c1 (λK14 hK14=>?_)
  refine b6 (a7 Z (b5 Z Z (c6 G Z Z Z Z Z Z) (a7 Z (b5 Z Z (c6 G Z Z Z Z Z Z) (a7 Z (b5 Z Z (i7 Z (ArgsOK.of Z) (Ctr.argsTo (a90 (m8 x1.1 x1.2.1).1 (m8 x1.1 x1.2.1).1 lg0 lg0 Z Z a0S.big) (λw vs h=>c7l flM vs h)) Z) (a7 Z (b5 Z Z (b6J Z Z) (a7 Z (b5 Z Z (b8 Z Z) (m7 Z Z Z (b5 Z Z (b8 Z Z) (m7 Z Z Z (b5 Z Z (b8 Z Z) (m7 Z Z Z (b5 Z Z (a1B (v':=.bool false) (b85 (G 4 _ Z).1 Z Z Z) (by first | rfl | (simp;done) | (simp [E0,Y9];done))) (a7 Z (b5 Z Z (B7 Z Z Z) (b4 (hK14 _ ?_))))))))))))))))))))
  clear hK14 K14
  refine Y6 Z (r7 (hK12 _ ?_))
  clear hK12 K12
  refine c1 (λK15 hK15=>?_)
  refine c1 (λK16 hK16=>?_)
  refine b6 (a7 Z (b5 Z Z (b8 Z Z) (a7 Z (b5 Z Z (a1d Z Z) (b4 (hK16 _ ?_))))))
  clear hK16 K16
  refine l1 Z (λh2=>?_) (λh2=>?_)
  ·try rw [h2]
   try simp only [rfb] at h2
   refine c1 (λK17 hK17=>?_)
   refine b6 (a7 Z (b5 Z Z (b9 Z Z) (b4 (hK17 _ ?_))))
   clear hK17 K17
   refine d7 (P3 Z (i8 ?_))
   all_goals clear hK15 K15
   all_goals (first | rfl | (simp_all;done))
  ·try rw [h2]
   try simp only [rfb] at h2
   have hmade:=h2
   have hNC:=c7Q hmade
   have hs0:SmallM (m8 x1.1 x1.2.1).1:=a0S
   have hx0:lg0.d.size+lg0.p.size<=1048576:=by decide
   have hsl:=V9 (s:=x2.2) (b:=10)
   refine r7 (hK15 _ ?_)
   clear hK15 K15
   refine c1 (λK18 hK18=>?_)
   refine b6 (a7 Z (b5 Z Z (b8 Z Z) (a7 Z (d3 18 Z Z Z (ArgsOK.of Z) cP Z Z (a7 Z (b5 Z Z (b8 Z Z) (a7 Z (b5 Z Z (e7 Z Z Z) (a7 Z (b5 Z Z (e7 Z Z Z) (a7 Z (b5 Z Z (b9 Z Z) (a7 Z (b5 Z Z (b9 Z Z) (b4 (hK18 _ ?_))))))))))))))))
   clear hK18 K18
   refine c1 (λK19 hK19=>?_)
   refine c1 (λK20 hK20=>?_)
   refine b6 (a7 Z (b5 Z Z (b9 Z Z) (b4 (hK20 _ ?_))))
   clear hK20 K20
   refine p8 ?_
   refine i6 [3,4,12,16] [0,17] (λ(i:Nat)=>[(18,.v (.int .i64 (i:Int)))]) (λ(i:Nat)=>[(7,some (.row 132 2 ((runC (m8 x1.1 x1.2.1).1 lg0 (csT x2.2) i).1.rs.map p5))),(8,some (.row 4 1 ((runC (m8 x1.1 x1.2.1).1 lg0 (csT x2.2) i).1.en.map m9))),(9,some (.row 4 1 ((runC (m8 x1.1 x1.2.1).1 lg0 (csT x2.2) i).1.ra.map m9))),(10,some (.nest 74 4 ((runC (m8 x1.1 x1.2.1).1 lg0 (csT x2.2) i).1.cp.map (a1T 104 76)) [])),(11,some (.box [.own 7,.own 8,.own 9,.own 10,.v (.string (runC (m8 x1.1 x1.2.1).1 lg0 (csT x2.2) i).2.d),.v (.string (runC (m8 x1.1 x1.2.1).1 lg0 (csT x2.2) i).2.p),.v (.int .i64 (runC (m8 x1.1 x1.2.1).1 lg0 (csT x2.2) i).2.n)]))]) (λ(i:Nat)=>i<=(g8 x2.2 10).length) (λ(i:Nat)=>(g8 x2.2 10).length - i) 0 Z Z ?_ ?_ ?_ ?_
   ·exact P9
   ·exact a6F
   ·exact c3C
   ·intro i hinv
    obtain ⟨hS,hL⟩:=a5N (cs:=csT x2.2) hs0 hx0 i
    have hcs:=@c7I x2.2 i
    have hi:=hinv
    simp only [List.cons_append,List.nil_append]
    refine c1 (λK21 hK21=>?_)
    refine c1 (λK22 hK22=>?_)
    refine b6 (a7 Z (b5 Z Z (b8 Z Z) (a7 Z (b5 Z Z (b8 Z Z) (a7 Z ?_)))))
    first | refine b5 Z Z (V6 G Z Z Z Z (List.length_map _)) ?_ | refine b5 Z Z (a1y G Z Z Z Z) ?_
    refine a7 Z (b5 Z Z (u4 Z Z Z Z) (b4 (hK22 _ ?_)))
    clear hK22 K22
    refine l1 Z (λh3=>?_) (λh3=>?_)
    ·try rw [h3]
     try simp only [rfb] at h3
     refine r7 (hK21 _ ?_)
     clear hK21 K21
     refine c1 (λK23 hK23=>?_)
     refine p8 ?_
     refine j7 10 [0,7,8,9,10,17] mixed Y Z Z (λr0=>?_) (λ_ h=>h)
     refine c8 1 Z Y Y Z Z Z Z (b8 Z Z) (c8 2 Z Y Y Z Z Z Z (b8 Z Z) (c8 3 Z Y Y Z Z Z Z (d1 G Z Z Z Z Z J (by rw [List.length_map];omega)) ?_))
     first | refine c8 4 Z Y Y Z Z Z Z (j9 G Z Z Z Z Z (a2z J) Z) ?_ | refine c8 4 Z Y Y Z Z Z Z (j9 G Z Z Z Z Z (H1 J J) Z) ?_
     refine b7 (rs:=[0]) Y Z (AllB.cons ?_ AllB.nil)
     refine e9 [0,7,8,9,10,17] Z Z (b5 Z Z (c6 G Z Z Z Z Z Z) (b4 ⟨Z,?_⟩))
     refine b7 (rs:=[5]) Y Z (AllB.cons ?_ AllB.nil)
     refine e9 [0,7,8,9,10,17] Z Z (d3 22 Z Z Z (ArgsOK.of Z) (Ctr.argsTo (a0l (runC (m8 x1.1 x1.2.1).1 lg0 (csT x2.2) i).1 (runC (m8 x1.1 x1.2.1).1 lg0 (csT x2.2) i).2 (csT x2.2 i) hS hL J) (λw vs h=>c7l flM vs h)) Z Z (b4 ⟨Z,?_⟩))
     refine c8 6 Z Y Y Z Z Z Z (b8 Z Z) (c8 7 Z Y Y Z Z Z Z (e7 Z Z Z) (c8 8 Z Y Y Z Z Z Z (e7 Z Z Z) ?_))
     refine b7 (rs:=[9]) Y Z (AllB.cons ?_ AllB.nil)
     refine e9 [0,7,8,9,10,17] Z Z (f6 G Z Z Z Z Z Z Z Z Z Z Z (b4 ⟨Z,?_⟩))
     refine z7 Y (hK23 _ ?_)
     clear hK23 K23
     refine b6 (a7 Z (b5 Z Z (b8 Z Z) (a7 Z ?_)))
     first | refine b5 Z Z (q9 Z Z Z Z J J) ?_ | refine b5 Z Z (s6 Z Z Z Z) ?_
     refine a7 Z (b5 Z Z (b9 Z Z) (r4 (Gh.sub 18 7 np Z Z Z) (r4 (Gh.sub 19 8 np Z Z Z) (r4 (Gh.sub 20 9 np Z Z Z) (r4 (Gh.sub 21 10 np Z Z Z) ?_)))))
     refine b4 ⟨(i+1),?_,?_,⟨⟨_,Z,by rfl⟩,Z,trivial⟩,⟨⟨_,Z,by rfl⟩,Z,Z,⟨⟨_,Z,by rfl⟩,Z,Z,⟨⟨_,Z,by rfl⟩,Z,Z,⟨⟨_,Z,by rfl⟩,Z,Z,⟨⟨_,Z,by rfl⟩,Z,Z,trivial⟩⟩⟩⟩⟩,Z,Z,Z⟩
     ·omega
     ·omega
    ·try rw [h3]
     try simp only [rfb] at h3
     obtain rfl:i=(g8 x2.2 10).length:=J
     have hF:=(c1g hNC (cs:=csT x2.2) (g8 x2.2 10).length).co
     have hlg:=(b07 hF).2
     have hr1:=b7Q hmade hNC hlg (Nat.le_refl _) (λj _=>Z)
     obtain ⟨hS,hL⟩:=a5N (cs:=csT x2.2) hs0 hx0 (g8 x2.2 10).length
     have cR1:=a0E x1.1 x1.2.1 (runC (m8 x1.1 x1.2.1).1 lg0 (csT x2.2) (g8 x2.2 10).length).2 J hL
     rw [hr1] at cR1
     have hG:crG (runC (m8 x1.1 x1.2.1).1 lg0 (csT x2.2) (g8 x2.2 10).length).2 (((runC (m8 x1.1 x1.2.1).1 lg0 (csT x2.2) (g8 x2.2 10).length).2.p.size:Int) - ((runC (m8 x1.1 x1.2.1).1 lg0 (csT x2.2) (g8 x2.2 10).length).2.p.size:Int) % 7)=true:=(by rw [crG,hlg];exact v6.mpr J)
     obtain ⟨p1,p2,p3,p4⟩:=c29 hG
     have hrz:=c27 (t:=(crE (runC (m8 x1.1 x1.2.1).1 lg0 (csT x2.2) (g8 x2.2 10).length).2 (((runC (m8 x1.1 x1.2.1).1 lg0 (csT x2.2) (g8 x2.2 10).length).2.p.size:Int) - ((runC (m8 x1.1 x1.2.1).1 lg0 (csT x2.2) (g8 x2.2 10).length).2.p.size:Int) % 7) false))
     have hcz:=b5j (x:=(runC (m8 x1.1 x1.2.1).1 lg0 (csT x2.2) (g8 x2.2 10).length).2) (k:=(((runC (m8 x1.1 x1.2.1).1 lg0 (csT x2.2) (g8 x2.2 10).length).2.p.size:Int) - ((runC (m8 x1.1 x1.2.1).1 lg0 (csT x2.2) (g8 x2.2 10).length).2.p.size:Int) % 7)) (t:=false)
     have hr2:=b7Q hmade hNC p2 p3 p4
     have cR2:=a0E x1.1 x1.2.1 (rcE (crE (runC (m8 x1.1 x1.2.1).1 lg0 (csT x2.2) (g8 x2.2 10).length).2 (((runC (m8 x1.1 x1.2.1).1 lg0 (csT x2.2) (g8 x2.2 10).length).2.p.size:Int) - ((runC (m8 x1.1 x1.2.1).1 lg0 (csT x2.2) (g8 x2.2 10).length).2.p.size:Int) % 7) false)) J J
     rw [hr2] at cR2
     have cV:=a8m (crE (runC (m8 x1.1 x1.2.1).1 lg0 (csT x2.2) (g8 x2.2 10).length).2 (((runC (m8 x1.1 x1.2.1).1 lg0 (csT x2.2) (g8 x2.2 10).length).2.p.size:Int) - ((runC (m8 x1.1 x1.2.1).1 lg0 (csT x2.2) (g8 x2.2 10).length).2.p.size:Int) % 7) false) J
     rw [p1] at cV
     dsimp only at cR1 cR2 cV
     refine J0 (hK19 _ ?_)
     clear hK21 K21 hK19 K19
     refine c1 (λK24 hK24=>?_)
     refine b6 (a7 Z (b5 Z Z (b8 Z Z) (a7 Z (b5 Z Z (b8 Z Z) (a7 Z (b5 Z Z (d5 G Z Z Z Z) (a7 Z (b5 Z Z (c6 G Z Z Z Z Z Z) (a7 Z (b5 Z Z (i7 Z (ArgsOK.of Z) cR1 Z) (a7 Z (b5 Z Z (b8 Z Z) (a7 Z (b5 Z Z (e7 Z Z Z) (a7 Z (b5 Z Z (e7 Z Z Z) (a7 Z (b5 Z Z (b9 Z Z) (a7 Z (b5 Z Z (b9 Z Z) (b4 (hK24 _ ?_))))))))))))))))))))))
     clear hK24 K24
     refine c1 (λK25 hK25=>?_)
     refine b6 (a7 Z (b5 Z Z (d5 G Z Z Z Z) (a7 Z (b5 Z Z (c6 G Z Z Z Z Z Z) (a7 Z (b5 Z Z (d5 G Z Z Z Z) (a7 Z (b5 Z Z (d5 G Z Z Z Z) (a7 Z (b5 Z Z (f9 G Z Z Z Z Z Z Z) (a7 Z (b5 Z Z (p9 G Z Z Z) (a7 Z (b5 Z Z (d5 G Z Z Z Z) (a7 Z (b5 Z Z (d5 G Z Z Z Z) (a7 Z (b5 Z Z (f9 G Z Z Z Z Z Z Z) (a7 Z (b5 Z Z (p9 G Z Z Z) (a7 Z ?_)))))))))))))))))))))
     first | refine b5 Z Z (a5n Z Z Z J J) ?_ | refine b5 Z Z (b4i Z Z Z J) ?_
     refine a7 Z ?_
     first | refine b5 Z Z (q9 Z Z Z Z J J) ?_ | refine b5 Z Z (s6 Z Z Z Z) ?_
     refine a7 Z (b5 Z Z (i7 Z (ArgsOK.of Z) (a8l (runC (m8 x1.1 x1.2.1).1 lg0 (csT x2.2) (g8 x2.2 10).length).2 (((runC (m8 x1.1 x1.2.1).1 lg0 (csT x2.2) (g8 x2.2 10).length).2.p.size:Int) - ((runC (m8 x1.1 x1.2.1).1 lg0 (csT x2.2) (g8 x2.2 10).length).2.p.size:Int) % 7) hL) Z) (a7 Z (b5 Z Z (b8 Z Z) (a7 Z (b5 Z Z (e7 Z Z Z) (a7 Z (b5 Z Z (e7 Z Z Z) (a7 Z (b5 Z Z (b9 Z Z) (a7 Z (b5 Z Z (b9 Z Z) (b4 (hK25 _ ?_)))))))))))))
     clear hK25 K25
     refine c1 (λK26 hK26=>?_)
     refine b6 (a7 Z (b5 Z Z (b8 Z Z) (a7 Z (b5 Z Z (i7 Z (ArgsOK.of Z) cV Z) (a7 Z (b5 Z Z (b8 Z Z) (a7 Z (b5 Z Z (e7 Z Z Z) (a7 Z (b5 Z Z (e7 Z Z Z) (a7 Z (b5 Z Z (e7 Z Z Z) (a7 Z (d6 G 19 Z Z Z Z Z (a7 Z (f6 G Z Z Z Z Z Z Z Z Z Z Z (a7 Z (b5 Z Z (b9 Z Z) (a7 Z (b5 Z Z (b9 Z Z) (b4 (hK26 _ ?_))))))))))))))))))))))
     clear hK26 K26
     refine c1 (λK27 hK27=>?_)
     refine b6 (a7 Z (b5 Z Z (b8 Z Z) (a7 Z (b5 Z Z (b8 Z Z) (a7 Z (b5 Z Z (c6 G Z Z Z Z Z Z) (a7 Z (b5 Z Z (i7 Z (ArgsOK.of Z) cR2 Z) (a7 Z (b5 Z Z (b8 Z Z) (a7 Z (b5 Z Z (e7 Z Z Z) (a7 Z (b5 Z Z (e7 Z Z Z) (a7 Z (b5 Z Z (b9 Z Z) (a7 Z (b5 Z Z (b9 Z Z) (b4 (hK27 _ ?_))))))))))))))))))))
     clear hK27 K27
     refine c1 (λK28 hK28=>?_)
     refine b6 (a7 Z (b5 Z Z (b8 Z Z) (a7 Z (b5 Z Z (b8 Z Z) (m7 Z Z Z (b5 Z Z (b8 Z Z) (m7 Z Z Z (b5 Z Z (d5 G Z Z Z Z) (m7 Z Z Z (b5 Z Z (d5 G Z Z Z Z) (m7 Z Z Z (b5 Z Z (f9 G Z Z Z Z Z Z Z) (m7 Z Z Z (b5 Z Z (a1B (v':=.bool true) (u4 Z Z Z Z) (by first | rfl | (simp;done) | (simp [E0,Y9];done))) (a7 Z (b5 Z Z (z6 Z Z Z) (a7 Z (b5 Z Z (b8 Z Z) (m7 Z Z Z (b5 Z Z (b8 Z Z) (a7 Z (b5 Z Z (z6 Z Z Z) (a7 Z (b5 Z Z (b8 Z Z) (m7 Z Z Z (b5 Z Z (b8 Z Z) (a7 Z (b5 Z Z (z6 Z Z Z) (a7 Z (b5 Z Z (b8 Z Z) (m7 Z Z Z (b5 Z Z (b8 Z Z) (m7 Z Z Z (b5 Z Z (d5 G Z Z Z Z) (m7 Z Z Z (b5 Z Z (f9 G Z Z Z Z Z Z Z) (m7 Z Z Z (b5 Z Z (a1B (v':=.bool true) (u4 Z Z Z Z) (by first | rfl | (simp;done) | (simp [E0,Y9];done))) (a7 Z (b5 Z Z (z6 Z Z Z) (a7 Z (b5 Z Z (b9 Z Z) (b4 (hK28 _ ?_))))))))))))))))))))))))))))))))))))))))))))
     clear hK28 K28
     exact b7Z
end Go.Proofs.YtdhckhjphmjniaaGreatDoor
