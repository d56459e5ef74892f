/- Texts merged into one: L5, L6, L7, G1, W5, M1, M2. -/
import Derived.Test.YtdhckhjphmjniaaGreatDoorPFnConsoleA
set_option maxHeartbeats 4000000
set_option linter.unusedSimpArgs false
set_option linter.unusedVariables false
set_option maxRecDepth 20000
namespace Go.Proofs.YtdhckhjphmjniaaGreatDoor
open Go Go.Rf
theorem a4T (s:ByteArray) (hs:s.size<=1048576):Ctr Tryz.prog 94 [.v (.string s)] (.many [.fr 48 2 ((pre (Z2 s) (r6 s)).map a4o),.v (.int .i64 (V9 s (r6 s)))]):=by
 refine Ctr.of (n:=52) G Tryz.func94 Z Y Z Z Z (λw0=>?_)
 refine c6 (λK1 hK1=>?_)
 refine b7 (a7 Z (b5 Z Z (b9 Z Z) (a7 Z (b5 Z Z (b9 Z Z) (b4 (hK1 _ ?_))))))
 clear hK1 K1
 refine c6 (λK2 hK2=>?_)
 refine b7 (a7 Z (o8 G 1 Z Z Z Z Z Z Z Z (a7 Z (b5 Z Z (b9 Z Z) (b4 (hK2 _ ?_))))))
 clear hK2 K2
 refine c6 (λK3 hK3=>?_)
 refine b7 (a7 Z (b5 Z Z (b9 Z Z) (b4 (hK3 _ ?_))))
 clear hK3 K3
 refine c6 (λK4 hK4=>?_)
 refine r9 ?_
 refine g9 [0] [] (λ(n:Nat)=>[(4,.own 0),(5,.v (.int .i64 (V9 s n)))]) (λ(n:Nat)=>[(0,some (.row 48 2 ((pre (Z2 s) n).map a4o)))]) (λ(n:Nat)=>∀j,j < n→okN s j=true) (λ(n:Nat)=>60 - n) 0 Z Z ?_ ?_ ?_ ?_
 ·exact λj hj=>by omega
 ·exact Y2
 ·exact a1M
 ·intro n hinv
  have hp:=b2C hinv
  have hpi:V9 s n=(B9 s n:Int):=rfl
  obtain ⟨hs1,hs2⟩:=X4 (s:=G0 s n) (b:=10)
  have hl1:=a0e (s:=G0 s n) (b:=10)
  have hre:(G0 s n).size<=s.size:=a3y
  have hll:(O3 s n).size<=(G0 s n).size:=a1c
  have hln:(j7 (G0 s n) 10).getD ((0:Int)).toNat default=O3 s n:=hs1
  have hlz:((j7 (G0 s n) 10).getD ((0:Int)).toNat default).size<=(G0 s n).size:=(by rw [hln];omega)
  have hpl:((pre (Z2 s) n).length:Int)=n:=(by simp [T5])
  simp only [List.cons_append,List.nil_append]
  refine c6 (λK5 hK5=>?_)
  refine c6 (λK6 hK6=>?_)
  refine b7 (a7 Z (b5 Z Z (b8 Z Z) (a7 Z (b5 Z Z (b8 Z Z) (a7 Z (b5 Z Z (q9 G Z Z Z) (a7 Z (b5 Z Z (w4 Z Z Z Z) (a7 Z (b5 Z Z (b8 Z Z) (B2 Z Z Z (λh1=>?_) (λh1=>?_))))))))))))
  ·try rw [h1]
   try simp only [rfb] at h1
   refine l7 Z Z Z (b5 Z Z (b8 Z Z) (l7 Z Z Z ?_))
   first | refine b5 Z Z (R6 G Z Z Z Z (List.length_map _)) ?_ | refine b5 Z Z (a0T G Z Z Z Z) ?_
   refine l7 Z Z Z (b5 Z Z (w4 Z Z Z Z) (a7 Z (b5 Z Z (u9 Z Z Z) (b4 (hK6 _ ?_)))))
   clear hK6 K6
   refine l4 Z (λh2=>?_) (λh2=>?_)
   ·try rw [h2]
    try simp only [rfb] at h2
    refine r8 (hK5 _ ?_)
    clear hK5 K5
    refine r9 ?_
    refine c6 (λK7 hK7=>?_)
    refine b7 (a7 Z (b5 Z Z (b8 Z Z) (a7 Z (b5 Z Z (b8 Z Z) (a7 Z (b5 Z Z (z6 G Z Z Z Z Z J J J) (a7 Z (d3 2 Z Z Z (ArgsOK.of Z) (Y6 _ 10 (Nat.le_trans a3y hs)) Z Z (a7 Z (b5 Z Z (b9 Z Z) (b4 (hK7 _ ?_))))))))))))
    clear hK7 K7
    rw [b30]
    refine c6 (λK8 hK8=>?_)
    refine b7 (a7 Z (b5 Z Z (b8 Z Z) (a7 Z ?_)))
    first | refine b5 Z Z (c8 G Z Z Z Z Z J (by simp;omega)) ?_ | refine b5 Z Z (c8 G Z Z Z Z Z J J) ?_
    refine a7 Z (b5 Z Z (j9 G Z Z Z Z Z (B6 J (by simp;omega)) Z) (a7 Z (b5 Z Z (b8 Z Z) (a7 Z ?_))))
    first | refine b5 Z Z (R6 G Z Z Z Z (List.length_map _)) ?_ | refine b5 Z Z (a0T G Z Z Z Z) ?_
    refine a7 Z (b5 Z Z (i7 Z (ArgsOK.of Z) (b0N _ _ (by rw [hln];omega) J J) Z) (a7 Z (b5 Z Z (b8 Z Z) (a7 Z (b5 Z Z (f9 Z Z Z) (a7 Z (b5 Z Z (f9 Z Z Z) (a7 Z (d6 G 3 Z Z Z Z Z (a7 Z (e9 G Z Z Z Z Z Z Z Z Z Z Z (a7 Z (b5 Z Z (b9 Z Z) (b4 (hK8 _ ?_)))))))))))))))
    clear hK8 K8
    rw [hln,hpl]
    refine c6 (λK9 hK9=>?_)
    refine c6 (λK10 hK10=>?_)
    refine b7 (a7 Z (b5 Z Z (b8 Z Z) (a7 Z ?_)))
    first | refine b5 Z Z (R6 G Z Z Z Z (List.length_map _)) ?_ | refine b5 Z Z (a0T G Z Z Z Z) ?_
    refine a7 Z (b5 Z Z (w4 Z Z Z Z) (a7 Z (b5 Z Z (b8 Z Z) (B2 Z Z Z (λh3=>?_) (λh3=>?_)))))
    ·try rw [h3]
     try simp only [rfb] at h3
     have hN:=a1W hinv (c5p J)
     refine l9 Z Z Z Z Z Z (l9 Z Z Z Z Z Z (a7 Z (b5 Z Z (u9 Z Z Z) (b4 (hK10 _ ?_)))))
     clear hK10 K10
     refine N1 Z (R5 (hK4 _ ?_))
     clear hK9 K9 hK4 K4
     refine c6 (λK11 hK11=>?_)
     refine b7 (a7 Z (b5 Z Z (b8 Z Z) (a7 Z (b5 Z Z (b8 Z Z) (a7 Z (b5 Z Z (b9 Z Z) (a7 Z (b5 Z Z (b9 Z Z) (b4 (hK11 _ ?_))))))))))
     clear hK11 K11
     exact b7c
    ·try rw [h3]
     try simp only [rfb] at h3
     refine l7 Z Z Z (b5 Z Z (b8 Z Z) (l7 Z Z Z (b5 Z Z (a4c Z Z) (a7 Z (b5 Z Z (B4 Z Z Z) (b4 (hK10 _ ?_)))))))
     clear hK10 K10
     refine l4 Z (λh4=>?_) (λh4=>?_)
     ·try rw [h4]
      try simp only [rfb] at h4
      have hN:=a1W hinv (c5q h4)
      refine R5 (hK4 _ ?_)
      clear hK9 K9 hK4 K4
      refine c6 (λK12 hK12=>?_)
      refine b7 (a7 Z (b5 Z Z (b8 Z Z) (a7 Z (b5 Z Z (b8 Z Z) (a7 Z (b5 Z Z (b9 Z Z) (a7 Z (b5 Z Z (b9 Z Z) (b4 (hK12 _ ?_))))))))))
      clear hK12 K12
      exact b7c
     ·try rw [h4]
      try simp only [rfb] at h4
      have hok:=c7M (s:=s) (n:=n) J J h4
      refine r8 (hK9 _ ?_)
      clear hK9 K9
      refine c6 (λK13 hK13=>?_)
      refine b7 (a7 Z (b5 Z Z (b8 Z Z) (a7 Z (b5 Z Z (c1 G Z Z Z Z Z Z) (a7 Z (o8 G 4 Z Z Z Z Z Z Z Z (a7 Z (j8 G np Z Z Z Z Z Z Z Z Z (by simp [T5];omega) Z Z (a7 Z (b5 Z Z (b9 Z Z) (b4 (hK13 _ ?_))))))))))))
      clear hK13 K13
      refine b7 (a7 Z (b5 Z Z (b8 Z Z) (a7 Z (b5 Z Z (b8 Z Z) (a7 Z ?_)))))
      first | refine b5 Z Z (c8 G Z Z Z Z Z J (by simp;omega)) ?_ | refine b5 Z Z (c8 G Z Z Z Z Z J J) ?_
      refine a7 Z (b5 Z Z (j9 G Z Z Z Z Z (B6 J (by simp;omega)) Z) (a7 Z (b5 Z Z (q9 G Z Z Z) (a7 Z ?_))))
      first | refine b5 Z Z (r3 Z Z Z Z J J) ?_ | refine b5 Z Z (t7 Z Z Z Z) ?_
      refine a7 Z ?_
      first | refine b5 Z Z (r3 Z Z Z Z J J) ?_ | refine b5 Z Z (t7 Z Z Z Z) ?_
      refine a7 Z (b5 Z Z (b9 Z Z) ?_)
      refine b4 ⟨(n+1),?_,?_,⟨⟨_,Z,by (first | exact (rfl:AV.own 0=AV.own 0) | (rw [hln,b1D (s:=s) (n:=n)];done))⟩,Z,⟨⟨_,Z,by (first | exact (rfl:AV.own 0=AV.own 0) | (rw [hln,b1D (s:=s) (n:=n)];done))⟩,Z,trivial⟩⟩,⟨⟨_,Z,by (exact congrArg (Row.row _ _) (a4m (g:=Z2 s) (f:=a4o) (i:=n)))⟩,Z,Z,trivial⟩,Z,Z,Z⟩
      ·exact s2 hinv hok
      ·omega
   ·try rw [h2]
    try simp only [rfb] at h2
    have hN:=a1W hinv (c5o J)
    refine R5 (hK4 _ ?_)
    clear hK5 K5 hK4 K4
    refine c6 (λK14 hK14=>?_)
    refine b7 (a7 Z (b5 Z Z (b8 Z Z) (a7 Z (b5 Z Z (b8 Z Z) (a7 Z (b5 Z Z (b9 Z Z) (a7 Z (b5 Z Z (b9 Z Z) (b4 (hK14 _ ?_))))))))))
    clear hK14 K14
    exact b7c
  ·try rw [h1]
   try simp only [rfb] at h1
   have hN:=a1W hinv (b48 J)
   refine l9 Z Z Z Z Z Z (l9 Z Z Z Z Z Z (l9 Z Z Z Z Z Z (a7 Z (b5 Z Z (B4 Z Z Z) (b4 (hK6 _ ?_))))))
   clear hK6 K6
   refine a0Y Z (R5 (hK4 _ ?_))
   clear hK5 K5 hK4 K4
   refine c6 (λK15 hK15=>?_)
   refine b7 (a7 Z (b5 Z Z (b8 Z Z) (a7 Z (b5 Z Z (b8 Z Z) (a7 Z (b5 Z Z (b9 Z Z) (a7 Z (b5 Z Z (b9 Z Z) (b4 (hK15 _ ?_))))))))))
   clear hK15 K15
   exact b7c
theorem a1F (s:ByteArray) (hs:s.size<=1048576):Ctr Tryz.prog 52 [.v (.string s)] (.many [.fr 48 2 ((pre (Z2 s) (r6 s)).map a4o),.fr 3 1 ((pre (V9 s) (r6 s+1)).map Rf.r5)]):=by
 refine Ctr.of (n:=37) G Tryz.func52 Z Y Z Z Z (λw0=>?_)
 refine c6 (λK1 hK1=>?_)
 refine b7 (a7 Z (b5 Z Z (b9 Z Z) (a7 Z (b5 Z Z (b9 Z Z) (b4 (hK1 _ ?_))))))
 clear hK1 K1
 refine c6 (λK2 hK2=>?_)
 refine b7 (a7 Z (o8 G 1 Z Z Z Z Z Z Z Z (a7 Z (o8 G 2 Z Z Z Z Z Z Z Z (a7 Z (b5 Z Z (b9 Z Z) (a7 Z (b5 Z Z (b9 Z Z) (a7 Z (b5 Z Z (b9 Z Z) (b4 (hK2 _ ?_))))))))))))
 clear hK2 K2
 refine r9 ?_
 refine g9 [0] [] (λ(n:Nat)=>[(4,.own 0),(5,.own 1),(6,.v (.int .i64 (V9 s n)))]) (λ(n:Nat)=>[(0,some (.row 48 2 ((pre (Z2 s) n).map a4o))),(1,some (.row 3 1 ((pre (V9 s) (n+1)).map Rf.r5)))]) (λ(n:Nat)=>∀j,j < n→okN s j=true) (λ(n:Nat)=>61 - n) 0 Z Z ?_ ?_ ?_ ?_
 ·exact λj hj=>by omega
 ·exact c4t
 ·exact b5X
 ·intro n hinv
  have hp:=b2C hinv
  have hpi:V9 s n=(B9 s n:Int):=rfl
  have hre:(G0 s n).size<=s.size:=a3y
  have hll:(O3 s n).size<=(G0 s n).size:=a1c
  have hpl:((pre (Z2 s) n).length:Int)=n:=(by simp [T5])
  simp only [List.cons_append,List.nil_append]
  refine r9 ?_
  refine c6 (λK3 hK3=>?_)
  refine b7 (a7 Z (b5 Z Z (b8 Z Z) (a7 Z (b5 Z Z (b8 Z Z) (a7 Z (b5 Z Z (z6 G Z Z Z Z Z J J J) (a7 Z (b5 Z Z (b8 Z Z) (a7 Z ?_)))))))))
  first | refine b5 Z Z (R6 G Z Z Z Z (List.length_map _)) ?_ | refine b5 Z Z (a0T G Z Z Z Z) ?_
  refine a7 Z (b5 Z Z (i7 Z (ArgsOK.of Z) (a7J _ _ (Nat.le_trans a3y hs) J J) Z) (a7 Z (b5 Z Z (b8 Z Z) (a7 Z (b5 Z Z (f9 Z Z Z) (a7 Z (b5 Z Z (f9 Z Z Z) (a7 Z (b5 Z Z (f9 Z Z Z) (a7 Z (d6 G 3 Z Z Z Z Z (a7 Z (e9 G Z Z Z Z Z Z Z Z Z Z Z (a7 Z (b5 Z Z (b9 Z Z) (a7 Z (b5 Z Z (b9 Z Z) (b4 (hK3 _ ?_)))))))))))))))))))
  clear hK3 K3
  refine c6 (λK4 hK4=>?_)
  refine c6 (λK5 hK5=>?_)
  refine b7 (a7 Z (b5 Z Z (b8 Z Z) (a7 Z (b5 Z Z (a4c Z Z) (b4 (hK5 _ ?_))))))
  clear hK5 K5
  rw [b30,hpl]
  refine l4 Z (λh1=>?_) (λh1=>?_)
  ·try rw [h1]
   try simp only [rfb] at h1
   have hN:=a1W hinv h1
   refine c6 (λK6 hK6=>?_)
   refine b7 (a7 Z (b5 Z Z (b8 Z Z) (a7 Z (b5 Z Z (b8 Z Z) (a7 Z (b5 Z Z (b9 Z Z) (a7 Z (b5 Z Z (b9 Z Z) (b4 (hK6 _ ?_))))))))))
   clear hK6 K6
   refine d8 (s1 Z Z Z Z (b3 (c7 Z ?_) (b3 (c7 Z ?_) d9)))
   all_goals clear hK4 K4
   all_goals ((rw [hN]))
  ·try rw [h1]
   try simp only [rfb] at h1
   have hok:okN s n=true:=h1
   obtain ⟨he1,he2⟩:=c5r hok
   rw [he1,he2]
   have hb1:=a6X hok
   refine r8 (hK4 _ ?_)
   clear hK4 K4
   refine c6 (λK7 hK7=>?_)
   refine b7 (a7 Z (b5 Z Z (b8 Z Z) (a7 Z (b5 Z Z (b8 Z Z) (a7 Z ?_)))))
   first | refine b5 Z Z (r3 Z Z Z Z J J) ?_ | refine b5 Z Z (t7 Z Z Z Z) ?_
   refine a7 Z (b5 Z Z (b9 Z Z) (b4 (hK7 _ ?_)))
   clear hK7 K7
   refine c6 (λK8 hK8=>?_)
   refine b7 (a7 Z (b5 Z Z (b8 Z Z) (a7 Z (b5 Z Z (c1 G Z Z Z Z Z Z) (a7 Z (o8 G 4 Z Z Z Z Z Z Z Z (a7 Z (j8 G np Z Z Z Z Z Z Z Z Z (by simp [T5];omega) Z Z (a7 Z (b5 Z Z (b9 Z Z) (b4 (hK8 _ ?_))))))))))))
   clear hK8 K8
   refine b7 (a7 Z (b5 Z Z (b8 Z Z) (a7 Z (b5 Z Z (b8 Z Z) (a7 Z (o8 G 5 Z Z Z Z Z Z Z Z (a7 Z (j8 G np Z Z Z Z Z Z Z Z Z (by simp [T5];omega) Z Z (a7 Z (b5 Z Z (b9 Z Z) ?_))))))))))
   refine b4 ⟨(n+1),?_,?_,⟨⟨_,Z,by (first | exact (rfl:AV.own 0=AV.own 0) | exact (rfl:AV.own 1=AV.own 1) | (rw [a1l (s:=s) (n:=n)];done))⟩,Z,⟨⟨_,Z,by (first | exact (rfl:AV.own 0=AV.own 0) | exact (rfl:AV.own 1=AV.own 1) | (rw [a1l (s:=s) (n:=n)];done))⟩,Z,⟨⟨_,Z,by (first | exact (rfl:AV.own 0=AV.own 0) | exact (rfl:AV.own 1=AV.own 1) | (rw [a1l (s:=s) (n:=n)];done))⟩,Z,trivial⟩⟩⟩,⟨⟨_,Z,by (first | exact congrArg (Row.row _ _) (a4m (g:=Z2 s) (f:=a4o) (i:=n)) | (rw [a1l];exact congrArg (Row.row _ _) (a4m (g:=V9 s) (f:=Rf.r5) (i:=n+1))))⟩,Z,Z,⟨⟨_,Z,by (first | exact congrArg (Row.row _ _) (a4m (g:=Z2 s) (f:=a4o) (i:=n)) | (rw [a1l];exact congrArg (Row.row _ _) (a4m (g:=V9 s) (f:=Rf.r5) (i:=n+1))))⟩,Z,Z,trivial⟩⟩,Z,Z,Z⟩
   ·exact s2 hinv hok
   ·omega
theorem a2t (x:Lg) (hx:x.d.size+x.p.size<=1048576):Ctr Tryz.prog 55 [.v (a97 x)] (.one (.v (.bool (okLg x)))):=by
 have hl1:=a16 (s:=x.d++x.p)
 have hl2:=a16 (s:=x.d)
 have hp1:V9 (x.d++x.p) (r6 (x.d++x.p))=(B9 (x.d++x.p) (r6 (x.d++x.p)):Int):=rfl
 have hp2:V9 x.d (r6 x.d)=(B9 x.d (r6 x.d):Int):=rfl
 have hrl:=b4x (s:=x.d++x.p)
 have hap:(x.d++x.p).size=x.d.size+x.p.size:=ByteArray.size_append
 have hge:=b6H (s:=x.d++x.p)
 have hel:(pre (V9 (x.d++x.p)) (r6 (x.d++x.p)+1)).length=r6 (x.d++x.p)+1:=T5
 have hem:((pre (V9 (x.d++x.p)) (r6 (x.d++x.p)+1)).map Rf.r5).length=r6 (x.d++x.p)+1:=(by rw [List.length_map,T5])
 refine Ctr.of (n:=53) G Tryz.func55 Z a8 Z Z Z (λw0=>?_)
 refine vm1 ?_
 refine a8s ?_
 refine a8s ?_
 refine zcd (λh1=>?_) (λh1=>?_)
 ·have hO:=c1Q (x:=x) J
  exact b7e
 refine vm3 ?_
 refine b4I ?_
 refine p6 ?_
 refine d3 2 Z Z Z (ArgsOK.of Z) (a4T _ a1A) Z Z ?_
 refine vm3 ?_
 refine d3 3 Z Z Z (ArgsOK.of Z) (a4T _ a1A) Z Z ?_
 refine a8s ?_
 refine a8s ?_
 refine zcd (λh2=>?_) (λh2=>?_)
 ·refine zgo ?_
  refine W8 ?_
  refine b5 Z Z (q9 G Z Z Z) ?_
  refine zcd (λh3=>?_) (λh3=>?_)
  ·have hO:=c54 (x:=x) J J J
   exact b7e
  have hO:=c1R (x:=x) J
  exact b7e
 have hO:=b6I (x:=x) J
 exact b7e
theorem Y7 (x:Lg) (hx:x.d.size+x.p.size<=1048576):Ctr Tryz.prog 51 [.v (a97 x)] (.one (.v (.bool (okLg x)))):=by
 have hl1:=a16 (s:=x.d++x.p)
 have hl2:=a16 (s:=x.d)
 have hp1:V9 (x.d++x.p) (r6 (x.d++x.p))=(B9 (x.d++x.p) (r6 (x.d++x.p)):Int):=rfl
 have hp2:V9 x.d (r6 x.d)=(B9 x.d (r6 x.d):Int):=rfl
 have hrl:=b4x (s:=x.d++x.p)
 have hap:(x.d++x.p).size=x.d.size+x.p.size:=ByteArray.size_append
 have hge:=b6H (s:=x.d++x.p)
 have hel:(pre (V9 (x.d++x.p)) (r6 (x.d++x.p)+1)).length=r6 (x.d++x.p)+1:=T5
 have hem:((pre (V9 (x.d++x.p)) (r6 (x.d++x.p)+1)).map Rf.r5).length=r6 (x.d++x.p)+1:=(by rw [List.length_map,T5])
 refine Ctr.of (n:=45) G Tryz.func51 Z a8 Z Z Z (λw0=>?_)
 refine vm1 ?_
 refine vm3 ?_
 refine b4I ?_
 refine vm3 ?_
 refine d3 3 Z Z Z (ArgsOK.of Z) (a1F _ a1A) Z Z ?_
 refine vm4 ?_
 refine c7a ?_
 refine a8s ?_
 refine zcd (λh1=>?_) (λh1=>?_)
 ·have hO:=b6I (x:=x) J
  refine zwt ?_
  refine zf1 ?_
  all_goals ((rw [hO]))
 refine zcd (λh2=>?_) (λh2=>?_)
 ·have hO:=c1S (x:=x) J
  refine zf1 ?_
  all_goals ((rw [hO]))
 refine zgo ?_
 refine g9 [1,33,34] [0,2] (λ(i:Nat)=>[(35,.v (.int .i64 (i:Int)))]) (λ(i:Nat)=>[]) (λ(i:Nat)=>i<=r6 (x.d++x.p)+1/\∀j,j < i→¬ B9 (x.d++x.p) j=x.d.size) (λ(i:Nat)=>r6 (x.d++x.p)+1 - i) 0 Z Z ?_ ?_ ?_ ?_
 ·exact S9
 ·exact a88
 ·exact trivial
 intro i hinv
 have hi:=hinv.1
 have hpi:V9 (x.d++x.p) i=(B9 (x.d++x.p) i:Int):=rfl
 have hgi:i < r6 (x.d++x.p)+1→(pre (V9 (x.d++x.p)) (r6 (x.d++x.p)+1)).getD ((i:Int)).toNat default=V9 (x.d++x.p) i:=λh=>b4c h
 refine vm2 ?_
 refine zcd (λh3=>?_) (λh3=>?_)
 ·refine vm4 ?_
  refine c7a ?_
  refine a8s ?_
  refine zcd (λh4=>?_) (λh4=>?_)
  ·have hO:=b7S (x:=x) (j:=i) J J J J
   refine zf1 ?_
   all_goals ((rw [hO]))
  refine zgo ?_
  refine ⟨(i+1),?_,?_,⟨⟨_,Z,by rfl⟩,Z,trivial⟩,trivial,Z,Z,Z⟩
  ·exact ⟨by omega,s2 hinv.2 J⟩
  omega
 have hO:=b7T (x:=x) (λj hj=>hinv.2 j J)
 refine zf1 ?_
 all_goals ((rw [hO]))
theorem a4U (x:Lg) (hx:x.d.size+x.p.size<=1048576):Ctr Tryz.prog 154 [.v (a97 x)] (.many [.v (a97 (syE x)),.v (.bool (okLg x))]):=by
 refine Ctr.of (n:=16) G Tryz.func154 Z a8 Z Z Z (λw0=>?_)
 refine vm1 ?_
 refine vm9 ?_
 refine zcl (a2t _ a1A) ?_
 refine zcd (λh1=>?_) (λh1=>?_)
 ·have hO:=c9Z h1
  exact c4o
 have hO:=c90 h1
 refine vm3 ?_
 refine b4I ?_
 exact c4o
theorem t8 (x:Lg) (r:Rec) (hx:x.d.size+x.p.size<=1048576) (hr:r.c.size<=9223372036854775807/\r.r.size<=9223372036854775807):Ctr Tryz.prog 40 [.v (a97 x),.v (b2A r)] (.many [.v (a97 (apE x r)),.v (.int .i64 (apN x r))]):=by
 refine Ctr.of (n:=32) G Tryz.func40 Z a8 Z Z Z (λw0=>?_)
 refine b5V ?_
 refine zcl (a2t _ a1A) ?_
 refine zcd (λh1=>?_) (λh1=>?_)
 ·have hO:=c1T (x:=x) (r:=r) (c28 h1)
  refine zwt ?_
  exact b2o
 refine zcl (a1E _ j5) ?_
 refine zcd (λh2=>?_) (λh2=>?_)
 ·have hO:=c1T (x:=x) (r:=r) (c29 h2)
  exact b2o
 refine zcd (λh3=>?_) (λh3=>?_)
 ·have hO:=c8b (x:=x) (r:=r) h1 h2 h3
  exact b2o
 have hz:=a5v (x:=x) j5
 have hls:=a5w (k:=x.n) (x:=r) J J j5
 have hO:=b7U (x:=x) (r:=r) h1 h2 h3
 refine zgo ?_
 apply C6 [2,4] [0,2] 3 9 [1,2] mixed a8 Z Z (λ_ h=>znk h)
 ·intro r0
  refine zsa 0 ?_
  refine zsa 2 ?_
  refine zsa 4 ?_
  refine b6 (rs:=[1,3]) a8 Z (AllB.cons ?_ (AllB.cons ?_ AllB.nil))
  ·refine f8 [1,2] Z Z ?_
   refine R9 ?_
   refine b6 (rs:=[3]) a8 Z (AllB.cons ?_ AllB.nil)
   exact c47
  refine f8 [1,2] Z Z ?_
  refine R9 ?_
  refine b6 (rs:=[1,5]) a8 Z (AllB.cons ?_ (AllB.cons ?_ AllB.nil))
  ·exact c47
  refine f8 [1,2] Z Z (b5 Z Z (i7 Z (ArgsOK.of Z) (a1C _ _ a1A a1A j5) Z) (b4 ⟨Z,?_⟩))
  refine b6 (rs:=[1]) a8 Z (AllB.cons ?_ AllB.nil)
  refine f8 [1,2] Z Z ?_
  refine R9 ?_
  exact c4J
 refine zgo ?_
 refine d8 (s1 Z Z Z Z (b3 (C4 Z ?_) (b3 (j4 ?_) d9)))
 all_goals (first | (rw [hO.1];done) | (rw [hO.1];rfl) | (rw [hO.2];done) | (rw [hO.2];rfl))
theorem a0W (x:Lg) (r:Rec) (hx:x.d.size+x.p.size<=1048576) (hr:r.c.size<=9223372036854775807/\r.r.size<=9223372036854775807):Ctr Tryz.prog 45 [.v (a97 x),.v (b2A r)] (.many [.v (a97 (apE x r)),.v (.int .i64 (apN x r))]):=by
 refine Ctr.of (n:=34) G Tryz.func45 Z a8 Z Z Z (λw0=>?_)
 refine b5V ?_
 refine zcl (Y7 _ a1A) ?_
 refine zcd (λh1=>?_) (λh1=>?_)
 ·have hO:=c1T (x:=x) (r:=r) (c28 h1)
  refine zwt ?_
  exact b2o
 refine zcl (P9 _ j5) ?_
 refine zcd (λh2=>?_) (λh2=>?_)
 ·have hO:=c1T (x:=x) (r:=r) (c29 h2)
  exact b2o
 refine zcd (λh3=>?_) (λh3=>?_)
 ·have hO:=c8b (x:=x) (r:=r) h1 h2 h3
  exact b2o
 have hz:=a5v (x:=x) j5
 have hls:=a5w (k:=x.n) (x:=r) J J j5
 have hO:=b7U (x:=x) (r:=r) h1 h2 h3
 refine zgn ?_
 refine s5 (l1 15 [0,1] mixed a8 Z Z (λr0=>?_) (λ_ h=>h))
 refine a06 ?_
 refine a8t ?_
 refine zsa 9 ?_
 refine zsa 10 ?_
 first | refine d7 11 Z a8 a8 Z Z Z Z (r3 Z Z Z Z J J) ?_ | refine d7 11 Z a8 a8 Z Z Z Z (t7 Z Z Z Z) ?_
 refine b6 (rs:=[7]) a8 Z (AllB.cons ?_ AllB.nil)
 refine f8 [0,1] Z Z (b5 Z Z (i7 Z (ArgsOK.of Z) (a0X _ _ a1A a1A j5) Z) (b4 ⟨Z,?_⟩))
 refine d7 8 Z a8 a8 Z Z Z Z (B5 Z Z Z b68) ?_
 refine zsa 12 ?_
 refine b6 (rs:=[13]) a8 Z (AllB.cons ?_ AllB.nil)
 refine f8 [0,1] Z Z ?_
 refine R9 ?_
 refine zsa 14 ?_
 refine G9 ?_
 exact c9n
theorem T2 {x:Cur} {n:Int} (h:okC n x) (hn:n<=900000000000):CtrX (α:=Rec×Cur) Tryz.prog 54 [.ptr 0 0] [.box [.lst 1 (x.c.map B7),.v (.int .i64 x.a),.v (.int .u64 x.s)]] (λy=>(y.1.c.size<=20/\y.1.r.size<=20)/\okC (n+20) y.2) (λy=>.one (.v (b2A y.1))) (λy=>[some (.box [.lst 1 (y.2.c.map B7),.v (.int .i64 y.2.a),.v (.int .u64 y.2.s)])]):=by
 refine CtrX.of (n:=28) (k:=1) G Tryz.func54 Z Y Z Z Z Z (λ_=>Z) Z Z (λw0 _ hpin=>?_)
 refine c6 (λK1 hK1=>?_)
 refine b7 (a7 Z (d6 G 2 Z Z Z Z Z (b4 (hK1 _ ?_))))
 clear hK1 K1
 refine c6 (λK2 hK2=>?_)
 refine b7 (a7 Z (b5 Z Z (b8 Z Z) (a7 Z (o8 G 3 Z Z Z Z Z Z Z Z (a7 Z ?_)))))
 refine d1 3 [0,2] Z Z Z (b4U h J [⟨#[99,111,117,110,116]⟩,⟨#[115,111,114,116,32,109,101,114,103,101]⟩,⟨#[120]⟩,⟨#[115,101,108,101,99,116,32,50]⟩,⟨#[48,32,49]⟩] (by decide)) Z (RowsIn.cons Z (RowsIn.cons Z RowsIn.nil)) Z (λ_=>Z) Z (λx1 ⟨hv1,hc1⟩=>?_)
 have hs1:=a0H (n:=20) hv1 (by decide)
 refine a7 Z (b5 Z Z (b8 Z Z) (a7 Z (o8 G 4 Z Z Z Z Z Z Z Z (a7 Z ?_))))
 refine d1 4 [0,3] Z Z Z (b4U hc1 J [⟨#[]⟩,⟨#[51]⟩,⟨#[63]⟩,⟨#[97,64,98]⟩,⟨#[51,32,49,32,50]⟩] (by decide)) Z (RowsIn.cons Z (RowsIn.cons Z RowsIn.nil)) Z (λ_=>Z) Z (λx2 ⟨hv2,hc2⟩=>?_)
 have hs2:=a0H (n:=20) hv2 (by decide)
 refine a7 Z (b5 Z Z (w3 G Z Z Z Z) (a7 Z (d6 G 5 Z Z Z Z Z (a7 Z (e9 G Z Z Z Z Z Z Z Z Z Z Z (b4 (hK2 _ ?_)))))))
 clear hK2 K2
 refine c6 (λK3 hK3=>?_)
 refine c6 (λK4 hK4=>?_)
 refine b7 (a7 Z (b5 Z Z (b8 Z Z) (a7 Z ?_)))
 refine d1 5 [0] Z Z Z (p7 hc2 J (24)) Z (RowsIn.cons Z RowsIn.nil) Z (λ_=>Z) Z (λx3 ⟨hv3,hc3⟩=>?_)
 refine b4 (hK4 _ ?_)
 clear hK4 K4
 refine r9 ?_
 refine c6 (λK5 hK5=>?_)
 refine b7 (a7 Z (b5 Z Z (w4 Z Z Z Z) (a7 Z (b5 Z Z (b9 Z Z) (b4 (hK5 _ ?_))))))
 clear hK5 K5
 refine l4 Z (λh1=>?_) (λh1=>?_)
 ·try rw [h1]
  try simp only [rfb] at h1
  refine b7 (a7 Z (b5 Z Z (b8 Z Z) (a7 Z (c00 (n:=3) G 6 Z Z Z Z Z Z Z Z Z J J (a7 Z (b5 Z Z (c7G G Z Z Z Z Z Z Z) (a7 Z (o8 G 7 Z Z Z Z Z Z Z Z (a7 Z ?_)))))))))
  refine d1 7 [0,6] Z Z Z (b4U hc3 J [⟨#[]⟩,⟨#[97,64,98]⟩,⟨#[97,35]⟩,⟨#[10]⟩,⟨#[0,0,0]⟩] (by decide)) Z (RowsIn.cons Z (RowsIn.cons Z RowsIn.nil)) Z (λ_=>Z) Z (λx4 ⟨hv4,hc4⟩=>?_)
  have hs4:=a0H (n:=20) hv4 (by decide)
  refine a7 Z (b5 Z Z (d5 G Z Z Z Z) (a7 Z (e9 G Z Z Z Z Z Z Z Z Z Z Z (b4 (hK3 _ ?_)))))
  clear hK3 K3
  refine c6 (λK6 hK6=>?_)
  refine b7 (a7 Z (b5 Z Z (c1 G Z Z Z Z Z Z) (a7 Z (e9 G Z Z Z Z Z Z Z Z Z Z Z (b4 (hK6 _ ?_))))))
  clear hK6 K6
  refine d8 (z8 ((⟨x4.1,x2.1⟩,x4.2)) (o7 Z (C4 Z ?_) Z (AftOK.stays Z ?_ Z AftOK.nil)) (⟨?_,?_⟩))
  all_goals (first | rfl | exact hc4.mono J | exact ⟨by assumption,by assumption⟩)
 ·try rw [h1]
  try simp only [rfb] at h1
  refine c6 (λK7 hK7=>?_)
  refine b7 (a7 Z (b5 Z Z (w4 Z Z Z Z) (a7 Z (b5 Z Z (b9 Z Z) (b4 (hK7 _ ?_))))))
  clear hK7 K7
  refine l4 Z (λh2=>?_) (λh2=>?_)
  ·try rw [h2]
   try simp only [rfb] at h2
   refine b7 (a7 Z (b5 Z Z (b8 Z Z) (a7 Z (o8 G 6 Z Z Z Z Z Z Z Z (a7 Z ?_)))))
   refine d1 6 [0,5] Z Z Z (b4U hc3 J [⟨#[35]⟩,⟨#[10]⟩,⟨#[127]⟩] (by decide)) Z (RowsIn.cons Z (RowsIn.cons Z RowsIn.nil)) Z (λ_=>Z) Z (λx5 ⟨hv5,hc5⟩=>?_)
   have hs5:=a0H (n:=20) hv5 (by decide)
   refine a7 Z (b5 Z Z (d5 G Z Z Z Z) (a7 Z (e9 G Z Z Z Z Z Z Z Z Z Z Z (b4 (hK3 _ ?_)))))
   clear hK3 K3
   refine c6 (λK8 hK8=>?_)
   refine b7 (a7 Z (b5 Z Z (c1 G Z Z Z Z Z Z) (a7 Z (e9 G Z Z Z Z Z Z Z Z Z Z Z (b4 (hK8 _ ?_))))))
   clear hK8 K8
   refine d8 (z8 ((⟨x1.1,x5.1⟩,x5.2)) (o7 Z (C4 Z ?_) Z (AftOK.stays Z ?_ Z AftOK.nil)) (⟨?_,?_⟩))
   all_goals (first | rfl | exact hc5.mono J | exact ⟨by assumption,by assumption⟩)
  ·try rw [h2]
   try simp only [rfb] at h2
   refine r8 (hK3 _ ?_)
   clear hK3 K3
   refine c6 (λK9 hK9=>?_)
   refine b7 (a7 Z (b5 Z Z (c1 G Z Z Z Z Z Z) (a7 Z (e9 G Z Z Z Z Z Z Z Z Z Z Z (b4 (hK9 _ ?_))))))
   clear hK9 K9
   refine d8 (z8 ((⟨x1.1,x2.1⟩,x3.2)) (o7 Z (C4 Z ?_) Z (AftOK.stays Z ?_ Z AftOK.nil)) (⟨?_,?_⟩))
   all_goals (first | rfl | exact hc3.mono J | exact ⟨by assumption,by assumption⟩)
theorem a6r {x:Cur} {n:Int} (h:okC n x) (hn:n<=890000000000):CtrX (α:=Lg×Cur) Tryz.prog 100 [.ptr 0 0] [.box [.lst 1 (x.c.map B7),.v (.int .i64 x.a),.v (.int .u64 x.s)]] (λy=>(y.1.d.size+y.1.p.size<=100000)/\okC (n+300) y.2) (λy=>.one (.v (a97 y.1))) (λy=>[some (.box [.lst 1 (y.2.c.map B7),.v (.int .i64 y.2.a),.v (.int .u64 y.2.s)])]):=by
 refine CtrX.of (n:=27) (k:=1) G Tryz.func100 Z Y Z Z Z Z (λ_=>Z) Z Z (λw0 _ hpin=>?_)
 refine c6 (λK1 hK1=>?_)
 refine b7 (a7 Z (d6 G 2 Z Z Z Z Z (b4 (hK1 _ ?_))))
 clear hK1 K1
 refine c6 (λK2 hK2=>?_)
 refine b7 (a7 Z (b5 Z Z (w3 G Z Z Z Z) (a7 Z (d6 G 3 Z Z Z Z Z (a7 Z (e9 G Z Z Z Z Z Z Z Z Z Z Z (b4 (hK2 _ ?_))))))))
 clear hK2 K2
 refine c6 (λK3 hK3=>?_)
 refine c6 (λK4 hK4=>?_)
 refine b7 (a7 Z (b5 Z Z (b8 Z Z) (a7 Z ?_)))
 refine d1 3 [0] Z Z Z (p7 h J (7)) Z (RowsIn.cons Z RowsIn.nil) Z (λ_=>Z) Z (λx1 ⟨hv1,hc1⟩=>?_)
 refine a7 Z (b5 Z Z (b9 Z Z) (b4 (hK4 _ ?_)))
 clear hK4 K4
 refine r9 ?_
 refine g9 [0,2,3] [1] (λ(z:Nat×Cur×Lg)=>[(4,.v (.int .i64 (x1.1 - z.1)))]) (λ(z:Nat×Cur×Lg)=>[(0,some (.box [.lst 1 (z.2.1.c.map B7),.v (.int .i64 z.2.1.a),.v (.int .u64 z.2.1.s)])),(2,some (.box [.v (.string z.2.2.d),.v (.string z.2.2.p),.v (.int .i64 z.2.2.n)]))]) (λ(z:Nat×Cur×Lg)=>(z.1:Int)<=x1.1/\(z.2.2.d.size+z.2.2.p.size<=100000)/\okC (n+2+30 * z.1) z.2.1) (λ(z:Nat×Cur×Lg)=>x1.1.toNat - z.1) (0,x1.2,lg0) Z Z ?_ ?_ ?_ ?_
 ·exact ⟨hv1.1,(Nat.zero_le 100000:lg0.d.size+lg0.p.size<=100000),hc1.mono (by simp)⟩
 ·exact b0K
 ·exact b5X
 ·intro z hinv
  obtain ⟨hz1,hz2,hz⟩:=hinv
  simp only [List.cons_append,List.nil_append]
  refine c6 (λK5 hK5=>?_)
  refine c6 (λK6 hK6=>?_)
  refine b7 (a7 Z (b5 Z Z (b8 Z Z) (a7 Z (b5 Z Z (w4 Z Z Z Z) (b4 (hK6 _ ?_))))))
  clear hK6 K6
  refine l4 Z (λh1=>?_) (λh1=>?_)
  ·try rw [h1]
   try simp only [rfb] at h1
   refine r8 (hK5 _ ?_)
   clear hK5 K5
   refine c6 (λK7 hK7=>?_)
   refine r9 ?_
   refine c6 (λK8 hK8=>?_)
   refine l1 8 [1] mixed Y Z Z (λr0=>?_) (λ_ h=>h)
   refine d7 1 Z Y Y Z Z Z Z (b8 Z Z) ?_
   refine b6 (rs:=[0,2]) Y Z (AllB.cons ?_ (AllB.cons ?_ AllB.nil))
   ·refine f7 [1] Z Z (b5 Z Z (c1 G Z Z Z Z Z Z) (b4 ⟨Z,?_⟩))
    refine b6 (rs:=[2]) Y Z (AllB.cons ?_ AllB.nil)
    refine f7 [1] Z Z (d1 3 [0] Z Z Z (T2 hz J) Z (RowsIn.cons Z RowsIn.nil) Z (λ_=>Z) Z (λx2 ⟨hv2,hc2⟩=>b4 ⟨Z,?_⟩))
    refine b6 (rs:=[3]) Y Z (AllB.cons ?_ AllB.nil)
    refine f7 [1] Z Z (b5 Z Z (i7 Z (ArgsOK.of Z) (t8 z.2.2 x2.1 J J) Z) (b4 ⟨Z,?_⟩))
    refine d7 4 Z Y Y Z Z Z Z (b8 Z Z) (d7 5 Z Y Y Z Z Z Z (f9 Z Z Z) (d7 6 Z Y Y Z Z Z Z (f9 Z Z Z) ?_))
    refine b6 (rs:=[7]) Y Z (AllB.cons ?_ AllB.nil)
    refine f7 [1] Z Z (e9 G Z Z Z Z Z Z Z Z Z Z Z (b4 ⟨Z,?_⟩))
    refine E5 Y (hK8 _ ?_)
    clear hK8 K8
    refine c6 (λK9 hK9=>?_)
    refine b7 (a7 Z (b5 Z Z (b8 Z Z) (a7 Z ?_)))
    refine d1 3 [0] Z Z Z (a26 hc2 J (4)) Z (RowsIn.cons Z RowsIn.nil) Z (λ_=>Z) Z (λx3 ⟨hv3,hc3⟩=>?_)
    refine b4 (hK9 _ ?_)
    clear hK9 K9
    refine l4 Z (λh2=>?_) (λh2=>?_)
    ·try rw [h2]
     try simp only [rfb] at h2
     refine b7 (a7 Z (b5 Z Z (c1 G Z Z Z Z Z Z) (a7 Z (b5 Z Z (i7 Z (ArgsOK.of Z) (a4U (apE z.2.2 x2.1) (by have:=b7Y (x:=z.2.2) (r:=x2.1) (b:=100000) (by decide) hz2;omega)) Z) (a7 Z (b5 Z Z (b8 Z Z) (a7 Z (b5 Z Z (f9 Z Z Z) (a7 Z (b5 Z Z (f9 Z Z Z) (a7 Z (e9 G Z Z Z Z Z Z Z Z Z Z Z (b4 (hK7 _ ?_))))))))))))))
     clear hK7 K7
     refine b7 (a7 Z (b5 Z Z (b8 Z Z) (a7 Z ?_)))
     first | refine b5 Z Z (r3 Z Z Z Z J J) ?_ | refine b5 Z Z (t7 Z Z Z Z) ?_
     refine a7 Z (b5 Z Z (b9 Z Z) ?_)
     refine b4 ⟨(z.1+1,x3.2,syE (apE z.2.2 x2.1)),?_,?_,⟨⟨_,Z,by (first | rfl | exact congrArg (λv=>AV.v (.int .i64 v)) (by show x1.1 - (z.1:Int) - 1=x1.1 - ((z.1+1:Nat):Int);omega))⟩,Z,trivial⟩,⟨⟨_,Z,by rfl⟩,Z,Z,⟨⟨_,Z,by rfl⟩,Z,Z,trivial⟩⟩,Z,Z,Z⟩
     ·exact c4k
     ·exact Y3
    ·try rw [h2]
     try simp only [rfb] at h2
     refine r8 (hK7 _ ?_)
     clear hK7 K7
     refine b7 (a7 Z (b5 Z Z (b8 Z Z) (a7 Z ?_)))
     first | refine b5 Z Z (r3 Z Z Z Z J J) ?_ | refine b5 Z Z (t7 Z Z Z Z) ?_
     refine a7 Z (b5 Z Z (b9 Z Z) ?_)
     refine b4 ⟨(z.1+1,x3.2,apE z.2.2 x2.1),?_,?_,⟨⟨_,Z,by (first | rfl | exact congrArg (λv=>AV.v (.int .i64 v)) (by show x1.1 - (z.1:Int) - 1=x1.1 - ((z.1+1:Nat):Int);omega))⟩,Z,trivial⟩,⟨⟨_,Z,by rfl⟩,Z,Z,⟨⟨_,Z,by rfl⟩,Z,Z,trivial⟩⟩,Z,Z,Z⟩
     ·exact c4k
     ·exact Y3
   ·refine f7 [1] Z Z (d1 3 [0] Z Z Z (T2 hz J) Z (RowsIn.cons Z RowsIn.nil) Z (λ_=>Z) Z (λx4 ⟨hv4,hc4⟩=>b4 ⟨Z,?_⟩))
    refine b6 (rs:=[0]) Y Z (AllB.cons ?_ AllB.nil)
    refine f7 [1] Z Z (b5 Z Z (c1 G Z Z Z Z Z Z) (b4 ⟨Z,?_⟩))
    refine b6 (rs:=[3]) Y Z (AllB.cons ?_ AllB.nil)
    refine f7 [1] Z Z (b5 Z Z (i7 Z (ArgsOK.of Z) (t8 z.2.2 x4.1 J J) Z) (b4 ⟨Z,?_⟩))
    refine d7 4 Z Y Y Z Z Z Z (b8 Z Z) (d7 5 Z Y Y Z Z Z Z (f9 Z Z Z) (d7 6 Z Y Y Z Z Z Z (f9 Z Z Z) ?_))
    refine b6 (rs:=[7]) Y Z (AllB.cons ?_ AllB.nil)
    refine f7 [1] Z Z (e9 G Z Z Z Z Z Z Z Z Z Z Z (b4 ⟨Z,?_⟩))
    refine E5 Y (hK8 _ ?_)
    clear hK8 K8
    refine c6 (λK10 hK10=>?_)
    refine b7 (a7 Z (b5 Z Z (b8 Z Z) (a7 Z ?_)))
    refine d1 3 [0] Z Z Z (a26 hc4 J (4)) Z (RowsIn.cons Z RowsIn.nil) Z (λ_=>Z) Z (λx5 ⟨hv5,hc5⟩=>?_)
    refine b4 (hK10 _ ?_)
    clear hK10 K10
    refine l4 Z (λh3=>?_) (λh3=>?_)
    ·try rw [h3]
     try simp only [rfb] at h3
     refine b7 (a7 Z (b5 Z Z (c1 G Z Z Z Z Z Z) (a7 Z (b5 Z Z (i7 Z (ArgsOK.of Z) (a4U (apE z.2.2 x4.1) (by have:=b7Y (x:=z.2.2) (r:=x4.1) (b:=100000) (by decide) hz2;omega)) Z) (a7 Z (b5 Z Z (b8 Z Z) (a7 Z (b5 Z Z (f9 Z Z Z) (a7 Z (b5 Z Z (f9 Z Z Z) (a7 Z (e9 G Z Z Z Z Z Z Z Z Z Z Z (b4 (hK7 _ ?_))))))))))))))
     clear hK7 K7
     refine b7 (a7 Z (b5 Z Z (b8 Z Z) (a7 Z ?_)))
     first | refine b5 Z Z (r3 Z Z Z Z J J) ?_ | refine b5 Z Z (t7 Z Z Z Z) ?_
     refine a7 Z (b5 Z Z (b9 Z Z) ?_)
     refine b4 ⟨(z.1+1,x5.2,syE (apE z.2.2 x4.1)),?_,?_,⟨⟨_,Z,by (first | rfl | exact congrArg (λv=>AV.v (.int .i64 v)) (by show x1.1 - (z.1:Int) - 1=x1.1 - ((z.1+1:Nat):Int);omega))⟩,Z,trivial⟩,⟨⟨_,Z,by rfl⟩,Z,Z,⟨⟨_,Z,by rfl⟩,Z,Z,trivial⟩⟩,Z,Z,Z⟩
     ·exact c4l
     ·exact Y3
    ·try rw [h3]
     try simp only [rfb] at h3
     refine r8 (hK7 _ ?_)
     clear hK7 K7
     refine b7 (a7 Z (b5 Z Z (b8 Z Z) (a7 Z ?_)))
     first | refine b5 Z Z (r3 Z Z Z Z J J) ?_ | refine b5 Z Z (t7 Z Z Z Z) ?_
     refine a7 Z (b5 Z Z (b9 Z Z) ?_)
     refine b4 ⟨(z.1+1,x5.2,apE z.2.2 x4.1),?_,?_,⟨⟨_,Z,by (first | rfl | exact congrArg (λv=>AV.v (.int .i64 v)) (by show x1.1 - (z.1:Int) - 1=x1.1 - ((z.1+1:Nat):Int);omega))⟩,Z,trivial⟩,⟨⟨_,Z,by rfl⟩,Z,Z,⟨⟨_,Z,by rfl⟩,Z,Z,trivial⟩⟩,Z,Z,Z⟩
     ·exact c4l
     ·exact Y3
  ·try rw [h1]
   try simp only [rfb] at h1
   refine R5 (hK3 _ ?_)
   clear hK5 K5 hK3 K3
   refine c6 (λK11 hK11=>?_)
   refine b7 (a7 Z (b5 Z Z (c1 G Z Z Z Z Z Z) (a7 Z (e9 G Z Z Z Z Z Z Z Z Z Z Z (b4 (hK11 _ ?_))))))
   clear hK11 K11
   refine d8 (z8 ((z.2.2,z.2.1)) (o7 Z (C4 Z ?_) Z (AftOK.stays Z ?_ Z AftOK.nil)) (⟨?_,?_⟩))
   all_goals (first | rfl | exact hz.mono J | assumption)
theorem N6 {x:Cur} {n:Int} (h:okC n x) (hn:n<=900000000000) (t w:ByteArray) (ht:t.size<=1048576) (hw:1<=w.size/\w.size<=10):CtrX (α:=ByteArray×Cur) Tryz.prog 41 [.ptr 0 0,.v (.string t),.v (.string w)] [.box [.lst 1 (x.c.map B7),.v (.int .i64 x.a),.v (.int .u64 x.s)]] (λy=>(y.1.size<=2 * t.size+10)/\okC (n+20) y.2) (λy=>.one (.v (.string y.1))) (λy=>[some (.box [.lst 1 (y.2.c.map B7),.v (.int .i64 y.2.a),.v (.int .u64 y.2.s)])]):=by
 have e0:(w.extract ((0:Int)).toNat ((1:Int)).toNat).size<=w.size:=a3y
 refine CtrX.of (n:=57) (k:=1) G Tryz.func41 Z Y Z Z Z Z (λ_=>Z) Z Z (λw0 _ hpin=>?_)
 refine c6 (λK1 hK1=>?_)
 refine b7 (a7 Z (b5 Z Z (b9 Z Z) (b4 (hK1 _ ?_))))
 clear hK1 K1
 refine c6 (λK2 hK2=>?_)
 refine c6 (λK3 hK3=>?_)
 refine b7 (a7 Z (b5 Z Z (b8 Z Z) (a7 Z (b5 Z Z (w5 Z Z Z Z) (b4 (hK3 _ ?_))))))
 clear hK3 K3
 refine l4 Z (λh1=>?_) (λh1=>?_)
 ·try rw [h1]
  try simp only [rfb] at h1
  refine c6 (λK4 hK4=>?_)
  refine b7 (a7 Z (b5 Z Z (b8 Z Z) (a7 Z (b5 Z Z (z6 G Z Z Z Z Z J J J) (a7 Z (b5 Z Z (b9 Z Z) (b4 (hK4 _ ?_))))))))
  clear hK4 K4
  refine d8 (z8 ((w.extract ((0:Int)).toNat ((1:Int)).toNat,x)) (o7 Z (j4 ?_) Z (AftOK.stays Z ?_ Z AftOK.nil)) (⟨?_,?_⟩))
  all_goals clear hK2 K2
  all_goals (first | rfl | exact h.mono J | (show ByteArray.size _<=_;(try simp only [ByteArray.size_append]);omega))
 ·try rw [h1]
  try simp only [rfb] at h1
  have hne:=c8z h1
  refine r8 (hK2 _ ?_)
  clear hK2 K2
  refine c6 (λK5 hK5=>?_)
  refine b7 (a7 Z (b5 Z Z (b8 Z Z) (a7 Z (b5 Z Z (b8 Z Z) (a7 Z (b5 Z Z (q9 G Z Z Z) (a7 Z ?_)))))))
  refine d1 1 [0] Z Z Z (p7 h J (t.size:Int)) Z (RowsIn.cons Z RowsIn.nil) Z (λ_=>Z) Z (λx1 ⟨hv1,hc1⟩=>?_)
  have e1:(t.extract ((0:Int)).toNat x1.1.toNat).size<=t.size:=a3y
  have e2:(t.extract x1.1.toNat ((t.size:Int)).toNat).size<=t.size:=a3y
  have e3:(t.extract (x1.1+1).toNat ((t.size:Int)).toNat).size<=t.size:=a3y
  refine a7 Z (b5 Z Z (b9 Z Z) (b4 (hK5 _ ?_)))
  clear hK5 K5
  refine c6 (λK6 hK6=>?_)
  refine b7 (a7 Z (b5 Z Z (b8 Z Z) (a7 Z (b5 Z Z (b8 Z Z) (a7 Z (b5 Z Z (b8 Z Z) (a7 Z (b5 Z Z (q9 G Z Z Z) (a7 Z ?_)))))))))
  refine d1 1 [0] Z Z Z (p7 hc1 J (w.size:Int)) Z (RowsIn.cons Z RowsIn.nil) Z (λ_=>Z) Z (λx2 ⟨hv2,hc2⟩=>?_)
  have hwz:(w.extract x2.1.toNat ((w.size:Int)).toNat).size=w.size - x2.1.toNat:=(by rw [show ((w.size:Int)).toNat=w.size from rfl,a2J (Nat.le_refl _)])
  have e4:((w.extract x2.1.toNat ((w.size:Int)).toNat).extract ((0:Int)).toNat ((1:Int)).toNat).size<=(w.extract x2.1.toNat ((w.size:Int)).toNat).size:=a3y
  refine a7 Z (b5 Z Z (z6 G Z Z Z Z Z J J J) (a7 Z (b5 Z Z (z6 G Z Z Z Z Z J J J) (a7 Z (b5 Z Z (b9 Z Z) (b4 (hK6 _ ?_)))))))
  clear hK6 K6
  refine c6 (λK7 hK7=>?_)
  refine c6 (λK8 hK8=>?_)
  refine b7 (a7 Z (b5 Z Z (b8 Z Z) (a7 Z ?_)))
  refine d1 1 [0] Z Z Z (p7 hc2 J (3)) Z (RowsIn.cons Z RowsIn.nil) Z (λ_=>Z) Z (λx3 ⟨hv3,hc3⟩=>?_)
  refine b4 (hK8 _ ?_)
  clear hK8 K8
  refine r9 ?_
  refine c6 (λK9 hK9=>?_)
  refine b7 (a7 Z (b5 Z Z (w4 Z Z Z Z) (a7 Z (b5 Z Z (b9 Z Z) (b4 (hK9 _ ?_))))))
  clear hK9 K9
  refine l4 Z (λh2=>?_) (λh2=>?_)
  ·try rw [h2]
   try simp only [rfb] at h2
   refine c6 (λK10 hK10=>?_)
   refine O0 mixed Y (d4 Z (l2 Z Z (b8 Z Z) (d4 Z (l2 Z Z (b8 Z Z) (d4 Z (l2 Z Z (z6 G Z Z Z Z Z J J J) (d4 Z (l2 Z Z (b8 Z Z) (d4 Z (l2 Z Z (B5 Z Z Z (by (try simp only [ByteArray.size_append]);omega)) (d4 Z (l2 Z Z (b8 Z Z) (d4 Z (l2 Z Z (b8 Z Z) (d4 Z (l2 Z Z (z6 G Z Z Z Z Z J J J) (d4 Z (l2 Z Z (B5 Z Z Z (by (try simp only [ByteArray.size_append]);omega)) (d4 Z (l2 Z Z (b9 Z Z) (Z7 (hK10 _ ?_))))))))))))))))))))))
   clear hK10 K10
   refine d8 (z8 ((t.extract ((0:Int)).toNat x1.1.toNat++((w.extract x2.1.toNat ((w.size:Int)).toNat).extract ((0:Int)).toNat ((1:Int)).toNat)++t.extract x1.1.toNat ((t.size:Int)).toNat,x3.2)) (o7 Z (j4 ?_) Z (AftOK.stays Z ?_ Z AftOK.nil)) (⟨?_,?_⟩))
   all_goals clear hK7 K7
   all_goals (first | rfl | exact hc3.mono J | (show ByteArray.size _<=_;(try simp only [ByteArray.size_append]);omega))
  ·try rw [h2]
   try simp only [rfb] at h2
   refine c6 (λK11 hK11=>?_)
   refine b7 (a7 Z (b5 Z Z (w4 Z Z Z Z) (a7 Z (b5 Z Z (b9 Z Z) (b4 (hK11 _ ?_))))))
   clear hK11 K11
   refine l4 Z (λh3=>?_) (λh3=>?_)
   ·try rw [h3]
    try simp only [rfb] at h3
    refine c6 (λK12 hK12=>?_)
    refine O0 mixed Y (d4 Z (l2 Z Z (b8 Z Z) (d4 Z (l2 Z Z (b8 Z Z) (d4 Z (l2 Z Z (z6 G Z Z Z Z Z J J J) (d4 Z (l2 Z Z (b8 Z Z) (d4 Z (l2 Z Z (B5 Z Z Z (by (try simp only [ByteArray.size_append]);omega)) (d4 Z (l2 Z Z (b8 Z Z) (d4 Z (l2 Z Z (b8 Z Z) (d4 Z ?_)))))))))))))))
    first | refine l2 Z Z (r3 Z Z Z Z J J) ?_ | refine l2 Z Z (t7 Z Z Z Z) ?_
    refine d4 Z (l2 Z Z (z6 G Z Z Z Z Z J J J) (d4 Z (l2 Z Z (B5 Z Z Z (by (try simp only [ByteArray.size_append]);omega)) (d4 Z (l2 Z Z (b9 Z Z) (Z7 (hK12 _ ?_)))))))
    clear hK12 K12
    refine d8 (z8 ((t.extract ((0:Int)).toNat x1.1.toNat++((w.extract x2.1.toNat ((w.size:Int)).toNat).extract ((0:Int)).toNat ((1:Int)).toNat)++t.extract (x1.1+1).toNat ((t.size:Int)).toNat,x3.2)) (o7 Z (j4 ?_) Z (AftOK.stays Z ?_ Z AftOK.nil)) (⟨?_,?_⟩))
    all_goals clear hK7 K7
    all_goals (first | rfl | exact hc3.mono J | (show ByteArray.size _<=_;(try simp only [ByteArray.size_append]);omega))
   ·try rw [h3]
    try simp only [rfb] at h3
    refine r8 (hK7 _ ?_)
    clear hK7 K7
    refine c6 (λK13 hK13=>?_)
    refine O0 mixed Y (d4 Z (l2 Z Z (b8 Z Z) (d4 Z (l2 Z Z (b8 Z Z) (d4 Z (l2 Z Z (z6 G Z Z Z Z Z J J J) (d4 Z (l2 Z Z (b8 Z Z) (d4 Z (l2 Z Z (b8 Z Z) (d4 Z ?_)))))))))))
    first | refine l2 Z Z (r3 Z Z Z Z J J) ?_ | refine l2 Z Z (t7 Z Z Z Z) ?_
    refine d4 Z (l2 Z Z (z6 G Z Z Z Z Z J J J) (d4 Z (l2 Z Z (B5 Z Z Z (by (try simp only [ByteArray.size_append]);omega)) (d4 Z (l2 Z Z (b9 Z Z) (Z7 (hK13 _ ?_)))))))
    clear hK13 K13
    refine d8 (z8 ((t.extract ((0:Int)).toNat x1.1.toNat++t.extract (x1.1+1).toNat ((t.size:Int)).toNat,x3.2)) (o7 Z (j4 ?_) Z (AftOK.stays Z ?_ Z AftOK.nil)) (⟨?_,?_⟩))
    all_goals (first | rfl | exact hc3.mono J | (show ByteArray.size _<=_;(try simp only [ByteArray.size_append]);omega))
theorem Z6 {x:Cur} {n:Int} (h:okC n x) (hn:n<=880000000000):CtrX (α:=Lg×Cur) Tryz.prog 61 [.ptr 0 0] [.box [.lst 1 (x.c.map B7),.v (.int .i64 x.a),.v (.int .u64 x.s)]] (λy=>(y.1.d.size+y.1.p.size<=1048576)/\okC (n+400) y.2) (λy=>.one (.v (a97 y.1))) (λy=>[some (.box [.lst 1 (y.2.c.map B7),.v (.int .i64 y.2.a),.v (.int .u64 y.2.s)])]):=by
 refine CtrX.of (n:=30) (k:=1) G Tryz.func61 Z Y Z Z Z Z (λ_=>Z) Z Z (λw0 _ hpin=>?_)
 refine c6 (λK1 hK1=>?_)
 refine b7 (a7 Z (d6 G 2 Z Z Z Z Z (b4 (hK1 _ ?_))))
 clear hK1 K1
 refine c6 (λK2 hK2=>?_)
 refine b7 (a7 Z (b5 Z Z (b8 Z Z) (a7 Z ?_)))
 refine d1 2 [0] Z Z Z (a6r h J) Z (RowsIn.cons Z RowsIn.nil) Z (λ_=>Z) Z (λx1 ⟨hv1,hc1⟩=>?_)
 refine a7 Z (d6 G 3 Z Z Z Z Z (a7 Z (e9 G Z Z Z Z Z Z Z Z Z Z Z (b4 (hK2 _ ?_)))))
 clear hK2 K2
 refine c6 (λK3 hK3=>?_)
 refine c6 (λK4 hK4=>?_)
 refine b7 (a7 Z (b5 Z Z (b8 Z Z) (a7 Z ?_)))
 refine d1 3 [0] Z Z Z (p7 hc1 J (24)) Z (RowsIn.cons Z RowsIn.nil) Z (λ_=>Z) Z (λx2 ⟨hv2,hc2⟩=>?_)
 refine b4 (hK4 _ ?_)
 clear hK4 K4
 refine r9 ?_
 refine c6 (λK5 hK5=>?_)
 refine b7 (a7 Z (b5 Z Z (w4 Z Z Z Z) (a7 Z (b5 Z Z (b9 Z Z) (b4 (hK5 _ ?_))))))
 clear hK5 K5
 refine l4 Z (λh1=>?_) (λh1=>?_)
 ·try rw [h1]
  try simp only [rfb] at h1
  refine b7 (a7 Z (b5 Z Z (d5 G Z Z Z Z) (a7 Z (b5 Z Z (i8 G Z Z Z Z Z Z Z) (a7 Z ?_)))))
  first | refine b5 Z Z (r3 Z Z Z Z J J) ?_ | refine b5 Z Z (t7 Z Z Z Z) ?_
  refine a7 Z (b5 Z Z (d5 G Z Z Z Z) (a7 Z (e9 G Z Z Z Z Z Z Z Z Z Z Z (b4 (hK3 _ ?_)))))
  clear hK3 K3
  refine c6 (λK6 hK6=>?_)
  refine b7 (a7 Z (b5 Z Z (c1 G Z Z Z Z Z Z) (a7 Z (e9 G Z Z Z Z Z Z Z Z Z Z Z (b4 (hK6 _ ?_))))))
  clear hK6 K6
  refine d8 (z8 ((⟨x1.1.d,x1.1.p,IntKind.i64.wrap (x1.1.n+1)⟩,x2.2)) (o7 Z (C4 Z ?_) Z (AftOK.stays Z ?_ Z AftOK.nil)) (⟨?_,?_⟩))
  all_goals (first | rfl | exact hc2.mono J | (show ByteArray.size _+ByteArray.size _<=1048576;(try simp only [ByteArray.size_append]);omega))
 ·try rw [h1]
  try simp only [rfb] at h1
  refine c6 (λK7 hK7=>?_)
  refine b7 (a7 Z (b5 Z Z (w4 Z Z Z Z) (a7 Z (b5 Z Z (b9 Z Z) (b4 (hK7 _ ?_))))))
  clear hK7 K7
  refine l4 Z (λh2=>?_) (λh2=>?_)
  ·try rw [h2]
   try simp only [rfb] at h2
   refine b7 (a7 Z (b5 Z Z (b8 Z Z) (a7 Z (b5 Z Z (d5 G Z Z Z Z) (a7 Z (b5 Z Z (i8 G Z Z Z Z Z Z Z) (a7 Z ?_)))))))
   refine d1 3 [0] Z Z Z (N6 hc2 J x1.1.p (⟨#[35,64,10,48,49]⟩:ByteArray) J (by decide)) Z (RowsIn.cons Z RowsIn.nil) Z (λ_=>Z) Z (λx3 ⟨hv3,hc3⟩=>?_)
   refine a7 Z (b5 Z Z (d5 G Z Z Z Z) (a7 Z (e9 G Z Z Z Z Z Z Z Z Z Z Z (b4 (hK3 _ ?_)))))
   clear hK3 K3
   refine c6 (λK8 hK8=>?_)
   refine b7 (a7 Z (b5 Z Z (c1 G Z Z Z Z Z Z) (a7 Z (e9 G Z Z Z Z Z Z Z Z Z Z Z (b4 (hK8 _ ?_))))))
   clear hK8 K8
   refine d8 (z8 ((⟨x1.1.d,x3.1,x1.1.n⟩,x3.2)) (o7 Z (C4 Z ?_) Z (AftOK.stays Z ?_ Z AftOK.nil)) (⟨?_,?_⟩))
   all_goals (first | rfl | exact hc3.mono J | (show ByteArray.size _+ByteArray.size _<=1048576;(try simp only [ByteArray.size_append]);omega))
  ·try rw [h2]
   try simp only [rfb] at h2
   refine c6 (λK9 hK9=>?_)
   refine b7 (a7 Z (b5 Z Z (w4 Z Z Z Z) (a7 Z (b5 Z Z (b9 Z Z) (b4 (hK9 _ ?_))))))
   clear hK9 K9
   refine l4 Z (λh3=>?_) (λh3=>?_)
   ·try rw [h3]
    try simp only [rfb] at h3
    refine b7 (a7 Z (b5 Z Z (d5 G Z Z Z Z) (a7 Z (b5 Z Z (i8 G Z Z Z Z Z Z Z) (a7 Z (b5 Z Z (d5 G Z Z Z Z) (a7 Z (b5 Z Z (i8 G Z Z Z Z Z Z Z) (a7 Z (b5 Z Z (B5 Z Z Z J) (a7 Z (b5 Z Z (d5 G Z Z Z Z) (a7 Z (e9 G Z Z Z Z Z Z Z Z Z Z Z (b4 (hK3 _ ?_))))))))))))))))
    clear hK3 K3
    refine c6 (λK10 hK10=>?_)
    refine b7 (a7 Z (b5 Z Z (c1 G Z Z Z Z Z Z) (a7 Z (e9 G Z Z Z Z Z Z Z Z Z Z Z (b4 (hK10 _ ?_))))))
    clear hK10 K10
    refine d8 (z8 ((⟨x1.1.d++x1.1.p,x1.1.p,x1.1.n⟩,x2.2)) (o7 Z (C4 Z ?_) Z (AftOK.stays Z ?_ Z AftOK.nil)) (⟨?_,?_⟩))
    all_goals (first | rfl | exact hc2.mono J | (show ByteArray.size _+ByteArray.size _<=1048576;(try simp only [ByteArray.size_append]);omega))
   ·try rw [h3]
    try simp only [rfb] at h3
    refine r8 (hK3 _ ?_)
    clear hK3 K3
    refine c6 (λK11 hK11=>?_)
    refine b7 (a7 Z (b5 Z Z (c1 G Z Z Z Z Z Z) (a7 Z (e9 G Z Z Z Z Z Z Z Z Z Z Z (b4 (hK11 _ ?_))))))
    clear hK11 K11
    refine d8 (z8 ((x1.1,x2.2)) (o7 Z (C4 Z ?_) Z (AftOK.stays Z ?_ Z AftOK.nil)) (⟨?_,?_⟩))
    all_goals (first | rfl | exact hc2.mono J | (show ByteArray.size _+ByteArray.size _<=1048576;(try simp only [ByteArray.size_append]);omega))
theorem E9 (l:List Int) (hn:l.length<=1048576):Ctr Tryz.prog 136 [.lst 1 (l.map Rf.r5)] (.one (.fr 3 1 (l.map Rf.r5))):=by
 refine Ctr.of (n:=6) G Tryz.func136 Z a8 Z Z Z (λw0=>?_)
 exact c4f
theorem H8 (l:List Int) (hn:l.length<=1048576):Ctr Tryz.prog 182 [.lst 1 (l.map Rf.r5)] (.one (.fr 3 1 (l.map Rf.r5))):=by
 refine Ctr.of (n:=6) G Tryz.func182 Z a8 Z Z Z (λw0=>?_)
 exact c4f
theorem a6s:J5 Tryz.prog 104 [.int .i64,.int .i64,.int .i64]=true:=by kernel_rfl
theorem a3W (x:Int):Ctr Tryz.prog 277 [.v (.int .i64 x)] (.one (.v (.bool (false)))):=by
 refine Ctr.of (n:=6) G Tryz.func277 Z a8 Z Z Z (λw0=>?_)
 refine zf1 ?_
 all_goals (simp)
theorem a2b (x y:Int):Ctr Tryz.prog 230 [.v (.int .i64 x),.v (.int .i64 y)] (.one (.v (.int .i64 (a6f x y)))):=by
 refine Ctr.of (n:=20) G Tryz.func230 Z a8 Z Z Z (λw0=>?_)
 refine zcl (a3W _) ?_
 refine zcl (a3W _) ?_
 refine zwf ?_
 refine zwf ?_
 refine zcd (λh1=>?_) (λh1=>?_)
 ·exact c7n
 refine zcd (λh2=>?_) (λh2=>?_)
 ·exact c7n
 exact c7n
theorem b3w (l:List Int) (hn:l.length<=1048576):Ctr Tryz.prog 229 [.lst 1 (l.map Rf.r5)] (.one (.v (.int .i64 (orI l)))):=by
 refine Ctr.of (n:=18) G Tryz.func229 Z a8 Z Z Z (λw0=>?_)
 refine zgo ?_
 refine g9 [3,6,7] [] (λ(i:Nat)=>[(8,.v (.int .i64 (i:Int)))]) (λ(i:Nat)=>[]) (λ(i:Nat)=>i<=l.length/\∀j,j < i→l.getD j default=0) (λ(i:Nat)=>l.length - i) 0 Z Z ?_ ?_ ?_ ?_
 ·exact S9
 ·exact B0
 ·exact trivial
 intro i hinv
 refine vm2 ?_
 refine zcd (λh1=>?_) (λh1=>?_)
 ·refine zcd (λh2=>?_) (λh2=>?_)
  ·refine zf1 ?_
   all_goals exact c3D
  exact c0y
 refine zf1 ?_
 all_goals exact c3D
theorem B8 (a b:Wtr):Ctr Tryz.prog 176 [.v (a5M a),.v (a5M b)] (.one (.v (.int .i64 (urg a b)))):=by
 refine Ctr.of (n:=17) G Tryz.func176 Z a8 Z Z Z (λw0=>?_)
 refine vm1 ?_
 refine b5W ?_
 refine zgn ?_
 refine s5 (l1 13 [0,1] mixed a8 Z Z (λr0=>?_) (λ_ h=>h))
 refine a06 ?_
 refine zsa 5 ?_
 refine zsa 6 ?_
 refine zsa 7 ?_
 refine zsa 8 ?_
 refine b6 (rs:=[4]) a8 Z (AllB.cons ?_ AllB.nil)
 refine f8 [0,1] Z Z (b5 Z Z (i7 Z (ArgsOK.of Z) (a2b _ _) Z) (b4 ⟨Z,?_⟩))
 refine b6 (rs:=[9]) a8 Z (AllB.cons ?_ AllB.nil)
 refine f8 [0,1] Z Z (b5 Z Z (i7 Z (ArgsOK.of Z) (a2b _ _) Z) (b4 ⟨Z,?_⟩))
 refine b6 (rs:=[10]) a8 Z (AllB.cons ?_ AllB.nil)
 refine f8 [0,1] Z Z (o8 G 3 Z Z Z Z Z Z Z Z (b4 ⟨Z,?_⟩))
 refine b6 (rs:=[11]) a8 Z (AllB.cons ?_ AllB.nil)
 refine f8 [0,1] Z Z (b5 Z Z (i7 Z (ArgsOK.of Z) (b3w [a6f a.p b.p,a6f a.q b.q] (by simp)) Z) (b4 ⟨Z,?_⟩))
 refine zsa 12 ?_
 refine G9 ?_
 refine zf1 ?_
 all_goals (rw [c1v])
theorem E8 (x:Slot):Ctr Tryz.prog 142 [.v (a8T x)] (.one (.v (a5M (wOf x)))):=by
 refine Ctr.of (n:=8) G Tryz.func142 Z a8 Z Z Z (λw0=>?_)
 refine vm1 ?_
 refine vm9 ?_
 refine zgo ?_
 refine d8 (O2 Z (C4 Z ?_))
 all_goals (rfl)
theorem T3 (a b c d:Int):Ctr Tryz.prog 260 [.v (.int .i64 a),.v (.int .i64 b),.v (.int .i64 c),.v (.int .i64 d)] (.one (.v (.bool (lessW ⟨b,a⟩ ⟨d,c⟩)))):=by
 refine Ctr.of (n:=22) G Tryz.func260 Z a8 Z Z Z (λw0=>?_)
 refine zcd (λh1=>?_) (λh1=>?_)
 ·exact c0M
 refine zcd (λh2=>?_) (λh2=>?_)
 ·exact c0M
 exact c0M
theorem a7K (x:Slot) (irq:Int):Ctr Tryz.prog 252 [.v (a8T x),.ept [.int .i64 irq]] (.one (.v (.bool (fdP irq x)))):=by
 refine Ctr.of (n:=13) G Tryz.func252 Z a8 Z Z Z (λw0=>?_)
 refine vm1 ?_
 refine zcd (λh1=>?_) (λh1=>?_)
 ·exact c4z
 exact c4z
theorem Q0 (xs:List Slot) (f:Nat) (c:List Value) (p:Slot→Bool) (hl:xs.length<=1048576) (hf:∀i,i < xs.length→Ctr Tryz.prog f [.v (a8T (xs.getD i default)),.ept c] (.one (.v (.bool (p (xs.getD i default)))))):Ctr Tryz.prog 251 [.lst 3 (xs.map g8),.fnc f [.ept c]] (.one (.v (.int .i64 (P3 (λi=>p (xs.getD i default)) xs.length)))):=by
 exact c4Z
theorem N7 (xs:List Slot) (f:Nat)  (p:Slot→Bool) (hl:xs.length<=1048576) (hf:∀i,i < xs.length→Ctr Tryz.prog f [.v (a8T (xs.getD i default))] (.one (.v (.bool (p (xs.getD i default)))))):Ctr Tryz.prog 251 [.lst 3 (xs.map g8),.fnc f []] (.one (.v (.int .i64 (P3 (λi=>p (xs.getD i default)) xs.length)))):=by
 exact c4Z
theorem H5 (sl:List Slot) (irq:Int) (hl:sl.length<=1048576):Ctr Tryz.prog 195 [.lst 3 (sl.map g8),.v (.int .i64 irq)] (.one (.v (.int .i64 (o9 sl irq)))):=by
 refine Ctr.of (n:=8) G Tryz.func195 Z a8 Z Z Z (λw0=>?_)
 refine vm1 ?_
 refine vm3 ?_
 refine b5 Z Z (a9Y Z Z) ?_
 refine zcl (Q0 sl 252 [.int .i64 irq] (λx=>fdP irq x) hl (λk hk=>a7K _ _)) ?_
 exact a8Y
theorem F6 (sl:List Slot) (irq:Int) (hl:sl.length<=1048576):Ctr Tryz.prog 214 [.lst 3 (sl.map g8),.v (.int .i64 irq)] (.one (.v (.int .i64 (o9 sl irq)))):=by
 refine Ctr.of (n:=28) G Tryz.func214 Z a8 Z Z Z (λw0=>?_)
 refine zgo ?_
 refine g9 [0,1] [] (λ(i:Nat)=>[(5,.v (.int .i64 (i:Int)))]) (λ(i:Nat)=>[]) (λ(i:Nat)=>i<=sl.length/\∀j,j < i→fdP irq (sl.getD j default)=false) (λ(i:Nat)=>sl.length - i) 0 Z Z ?_ ?_ ?_ ?_
 ·exact S9
 ·exact B0
 ·exact trivial
 intro i hinv
 refine vm2 ?_
 refine zcd (λh1=>?_) (λh1=>?_)
 ·refine zcd (λh2=>?_) (λh2=>?_)
  ·refine zcd (λh3=>?_) (λh3=>?_)
   ·refine zf1 ?_
    all_goals exact c3E
   exact c0I
  refine zwf ?_
  exact c0I
 refine zf1 ?_
 all_goals exact c3E
theorem a5A (x:Slot):Ctr Tryz.prog 284 [.v (a8T x)] (.one (.v (.bool (emP x)))):=by
 refine Ctr.of (n:=6) G Tryz.func284 Z a8 Z Z Z (λw0=>?_)
 exact c42
theorem a2c (sl:List Slot)  (hl:sl.length<=1048576):Ctr Tryz.prog 240 [.lst 3 (sl.map g8)] (.one (.v (.int .i64 (freS sl)))):=by
 refine Ctr.of (n:=5) G Tryz.func240 Z a8 Z Z Z (λw0=>?_)
 refine vm3 ?_
 refine b5 Z Z (i7 Z (ArgsOK.fn2 (ArgsOK.of Z)) (N7 sl 284 (λx=>emP x) hl (λk hk=>a5A _)) Z) ?_
 exact a8Y
theorem a2u (sl:List Slot)  (hl:sl.length<=1048576):Ctr Tryz.prog 262 [.lst 3 (sl.map g8)] (.one (.v (.int .i64 (freS sl)))):=by
 refine Ctr.of (n:=17) G Tryz.func262 Z a8 Z Z Z (λw0=>?_)
 refine zgo ?_
 refine g9 [0] [] (λ(i:Nat)=>[(3,.v (.int .i64 (i:Int)))]) (λ(i:Nat)=>[]) (λ(i:Nat)=>i<=sl.length/\∀j,j < i→emP (sl.getD j default)=false) (λ(i:Nat)=>sl.length - i) 0 Z Z ?_ ?_ ?_ ?_
 ·exact S9
 ·exact B0
 ·exact trivial
 intro i hinv
 refine vm2 ?_
 refine zcd (λh1=>?_) (λh1=>?_)
 ·refine zcd (λh2=>?_) (λh2=>?_)
  ·refine zf1 ?_
   all_goals exact c3F
  exact c0I
 refine zf1 ?_
 all_goals exact c3F
theorem a9d (sl:List Slot)  (hl:sl.length<=1048576):Ctr Tryz.prog 237 [.lst 3 (sl.map g8)] (.one (.v (.bool (a6e sl)))):=by
 refine Ctr.of (n:=47) G Tryz.func237 Z a8 Z Z Z (λw0=>?_)
 refine zcd (λh1=>?_) (λh1=>?_)
 ·exact b8b
 refine zgo ?_
 refine g9 [0,8,9] [] (λ(i:Nat)=>[(10,.v (.int .i64 (i:Int)))]) (λ(i:Nat)=>[]) (λ(i:Nat)=>i<=sl.length/\∀j,j < i→J3 sl j=true) (λ(i:Nat)=>sl.length - i) 0 Z Z ?_ ?_ ?_ ?_
 ·exact S9
 ·exact B0
 ·exact trivial
 intro i hinv
 refine vm2 ?_
 refine zcd (λh2=>?_) (λh2=>?_)
 ·refine a4Q ?_
  refine zcd (λh3=>?_) (λh3=>?_)
  ·refine vm3 ?_
   refine b5 Z Z (b3U [.int .i64,.int .i64,.int .i64] Z Z Z Z Z Z Z (.inl Z) (.inl Z) a6s ⟨_,_,Z,⟨_,Z⟩,_,_,Z,⟨_,Z⟩,_,_,Z,⟨_,Z⟩,Z⟩ ⟨_,_,Z,⟨_,Z⟩,_,_,Z,⟨_,Z⟩,_,_,Z,⟨_,Z⟩,Z⟩) ?_
   refine zcd (λh4=>?_) (λh4=>?_)
   ·exact b8b
   refine zgo ?_
   refine ⟨(i+1),?_,?_,⟨⟨_,Z,by rfl⟩,Z,trivial⟩,trivial,Z,Z,Z⟩
   ·exact c4d
   omega
  refine zgd ?_
  refine zcl (I2 _ _ _) ?_
  refine zcd (λh5=>?_) (λh5=>?_)
  ·refine zwt ?_
   exact b8b
  refine zcl (a07 _) ?_
  refine zcd (λh6=>?_) (λh6=>?_)
  ·refine zwt ?_
   exact b8b
  refine zcl (Y5 _) ?_
  refine zcd (λh7=>?_) (λh7=>?_)
  ·refine zwt ?_
   exact b8b
  refine zgo ?_
  refine c62 ?_
  refine zgo ?_
  refine b1d ?_
  refine l2 Z Z (i7 Z (ArgsOK.of (congrArg some (congrArg (λz=>[AV.lst 3 z,.v (.int .i64 (sl.getD i default).q)]) (a2F (xs:=sl) (i:=i))))) (Ctr.eq (H5 (sl.take i) _ m8) (congrArg (λz=>Res.one (.v (.int .i64 z))) (b8R J))) Z) ?_
  refine zcd (λh8=>?_) (λh8=>?_)
  ·exact b8b
  refine zgo ?_
  refine ⟨(i+1),?_,?_,⟨⟨_,Z,by rfl⟩,Z,trivial⟩,trivial,Z,Z,Z⟩
  ·exact c4d
  omega
 refine zf1 ?_
 all_goals exact c3q
theorem a5U (sl:List Slot)  (hl:sl.length<=1048576):Ctr Tryz.prog 261 [.lst 3 (sl.map g8)] (.one (.v (.bool (a6e sl)))):=by
 refine Ctr.of (n:=60) G Tryz.func261 Z a8 Z Z Z (λw0=>?_)
 refine zgo ?_
 refine g9 [0] [] (λ(i:Nat)=>[(3,.v (.int .i64 (i:Int)))]) (λ(i:Nat)=>[]) (λ(i:Nat)=>i<=sl.length/\∀j,j < i→J3 sl j=true) (λ(i:Nat)=>sl.length - i) 0 Z Z ?_ ?_ ?_ ?_
 ·exact S9
 ·exact B0
 ·exact trivial
 intro i hinv
 refine vm2 ?_
 refine zcd (λh1=>?_) (λh1=>?_)
 ·refine a4Q ?_
  refine b3s ?_
  refine zcd (λh2=>?_) (λh2=>?_)
  ·refine zwt ?_
   exact b8a
  refine zcl (a08 _) ?_
  refine zcd (λh3=>?_) (λh3=>?_)
  ·refine zwt ?_
   exact b8a
  refine zcl (a0u _) ?_
  refine zcd (λh4=>?_) (λh4=>?_)
  ·exact b8a
  refine zcd (λh5=>?_) (λh5=>?_)
  ·refine zcd (λh6=>?_) (λh6=>?_)
   ·refine zwt ?_
    exact b8a
   refine zcd (λh7=>?_) (λh7=>?_)
   ·refine zwt ?_
    exact b8a
   exact c4Q
  exact c4Q
 refine zf1 ?_
 all_goals exact c8O
theorem a0N (sl:List Slot) (i:Int) (x:Slot) (hl:sl.length<=1048576) (hi:0<=i/\i < sl.length):Ctr Tryz.prog 298 [.lst 3 (sl.map g8),.v (.int .i64 i),.v (a8T x)] (.one (.fr 104 3 ((sl.set i.toNat x).map g8))):=by
 refine Ctr.of (n:=16) G Tryz.func298 Z a8 Z Z Z (λw0=>?_)
 exact c9q
theorem N0 (sl:List Slot) (i:Int) (x:Slot) (hl:sl.length<=1048576) (hi:0<=i/\i < sl.length):Ctr Tryz.prog 290 [.lst 3 (sl.map g8),.v (.int .i64 i),.v (a8T x)] (.one (.fr 104 3 ((sl.set i.toNat x).map g8))):=by
 refine Ctr.of (n:=16) G Tryz.func290 Z a8 Z Z Z (λw0=>?_)
 exact c9q
theorem U4 (sl:List Slot) (most:Bool) (hl:sl.length<=1048576) (hd:b8P sl):Ctr Tryz.prog 239 [.lst 3 (sl.map g8),.v (.bool most)] (.one (.v (.int .i64 (bstS sl most)))):=by
 refine Ctr.of (n:=38) G Tryz.func239 Z a8 Z Z Z (λw0=>?_)
 refine zgo ?_
 refine g9 [0,1,8,9] [] (λ(i:Nat)=>[(5,.v (.int .i64 (F2 sl most i))),(10,.v (.int .i64 (i:Int)))]) (λ(i:Nat)=>[]) (λ(i:Nat)=>i<=sl.length) (λ(i:Nat)=>sl.length - i) 0 Z Z ?_ ?_ ?_ ?_
 ·exact R3
 ·exact Y2
 ·exact trivial
 intro i hinv
 have hb:=@a03 sl most i
 refine vm2 ?_
 refine zcd (λh1=>?_) (λh1=>?_)
 ·refine a4Q ?_
  refine zgd ?_
  refine zcd (λh2=>?_) (λh2=>?_)
  ·refine zcd (λh3=>?_) (λh3=>?_)
   ·refine zwt ?_
    exact c2y
   refine zcl (E8 _) ?_
   refine zcl (E8 _) ?_
   refine zcl (B8 _ _) ?_
   refine zgo ?_
   refine b1d ?_
   refine l2 Z Z (c7x (G 4 _ Z).1 Z Z Z) ?_
   refine zcd (λh4=>?_) (λh4=>?_)
   ·exact c2y
   exact c2y
  refine zwf ?_
  exact c2y
 refine zf1 ?_
 all_goals ((rw [b2T J]))
theorem a0O (sl:List Slot) (hl:sl.length<=1048576):Ctr Tryz.prog 263 [.lst 3 (sl.map g8),.v (.bool true)] (.one (.v (.int .i64 (bstS sl true)))):=by
 refine Ctr.of (n:=66) G Tryz.func263 Z a8 Z Z Z (λw0=>?_)
 refine zgo ?_
 refine g9 [0,1] [] (λ(i:Nat)=>[(5,.v (.int .i64 (F2 sl true i))),(6,.v (.int .i64 (i:Int)))]) (λ(i:Nat)=>[]) (λ(i:Nat)=>i<=sl.length) (λ(i:Nat)=>sl.length - i) 0 Z Z ?_ ?_ ?_ ?_
 ·exact R3
 ·exact Y2
 ·exact trivial
 intro i hinv
 have hb:=@a03 sl true i
 refine vm2 ?_
 refine zcd (λh1=>?_) (λh1=>?_)
 ·refine a4Q ?_
  refine zcd (λh2=>?_) (λh2=>?_)
  ·exact ws7
  refine zgd ?_
  refine zcd (λh3=>?_) (λh3=>?_)
  ·refine zwt ?_
   exact ws7
  refine zcl (T3 _ _ _ _) ?_
  refine zcd (λh4=>?_) (λh4=>?_)
  ·refine zwt ?_
   exact ws7
  refine zwf ?_
  exact ws7
 refine zf1 ?_
 all_goals ((rw [b2T J]))
theorem a3X (sl:List Slot) (hl:sl.length<=1048576):Ctr Tryz.prog 263 [.lst 3 (sl.map g8),.v (.bool false)] (.one (.v (.int .i64 (bstS sl false)))):=by
 refine Ctr.of (n:=66) G Tryz.func263 Z a8 Z Z Z (λw0=>?_)
 refine zgo ?_
 refine g9 [0,1] [] (λ(i:Nat)=>[(5,.v (.int .i64 (F2 sl false i))),(6,.v (.int .i64 (i:Int)))]) (λ(i:Nat)=>[]) (λ(i:Nat)=>i<=sl.length) (λ(i:Nat)=>sl.length - i) 0 Z Z ?_ ?_ ?_ ?_
 ·exact R3
 ·exact Y2
 ·exact trivial
 intro i hinv
 have hb:=@a03 sl false i
 refine vm2 ?_
 refine zcd (λh1=>?_) (λh1=>?_)
 ·refine a4Q ?_
  refine zcd (λh2=>?_) (λh2=>?_)
  ·exact ws7
  refine zgd ?_
  refine zcd (λh3=>?_) (λh3=>?_)
  ·refine zwt ?_
   exact ws7
  refine zcl (T3 _ _ _ _) ?_
  refine zcd (λh4=>?_) (λh4=>?_)
  ·exact ws7
  exact ws7
 refine zf1 ?_
 all_goals ((rw [b2T J]))
theorem a4V (x:Wtr) (irq:Int):Ctr Tryz.prog 283 [.v (a5M x),.ept [.int .i64 irq]] (.one (.v (.bool (decide (x.q=irq))))):=by
 refine Ctr.of (n:=8) G Tryz.func283 Z a8 Z Z Z (λw0=>?_)
 exact c42
theorem J6 (xs:List Wtr) (f:Nat) (c:List Value) (p:Wtr→Bool) (hl:xs.length<=1048576) (hf:∀i,i < xs.length→Ctr Tryz.prog f [.v (a5M (xs.getD i default)),.ept c] (.one (.v (.bool (p (xs.getD i default)))))):Ctr Tryz.prog 196 [.lst 2 (xs.map j6),.fnc f [.ept c]] (.one (.v (.int .i64 (P3 (λi=>p (xs.getD i default)) xs.length)))):=by
 exact c40
theorem a1G (wa:List Wtr) (irq:Int) (hw:wa.length<=1048576):Ctr Tryz.prog 238 [.lst 2 (wa.map j6),.v (.int .i64 irq)] (.one (.v (.int .i64 (inW wa irq)))):=by
 refine Ctr.of (n:=8) G Tryz.func238 Z a8 Z Z Z (λw0=>?_)
 refine vm1 ?_
 refine vm3 ?_
 refine b5 Z Z (a9Y Z Z) ?_
 refine zcl (J6 wa 283 [.int .i64 irq] (λx=>decide (x.q=irq)) hw (λk hk=>a4V _ _)) ?_
 exact a8Y
theorem b3x (wa:List Wtr) (irq:Int) (hw:wa.length<=1048576):Ctr Tryz.prog 257 [.lst 2 (wa.map j6),.v (.int .i64 irq)] (.one (.v (.int .i64 (inW wa irq)))):=by
 refine Ctr.of (n:=20) G Tryz.func257 Z a8 Z Z Z (λw0=>?_)
 refine zgo ?_
 refine g9 [0,1] [] (λ(i:Nat)=>[(5,.v (.int .i64 (i:Int)))]) (λ(i:Nat)=>[]) (λ(i:Nat)=>i<=wa.length/\∀j,j < i→decide ((wa.getD j default).q=irq)=false) (λ(i:Nat)=>wa.length - i) 0 Z Z ?_ ?_ ?_ ?_
 ·exact S9
 ·exact B0
 ·exact trivial
 intro i hinv
 refine vm2 ?_
 refine zcd (λh1=>?_) (λh1=>?_)
 ·refine zcd (λh2=>?_) (λh2=>?_)
  ·refine zf1 ?_
   all_goals exact c3G
  refine zgo ?_
  refine ⟨(i+1),?_,?_,⟨⟨_,Z,by rfl⟩,Z,trivial⟩,trivial,Z,Z,Z⟩
  ·exact ⟨by omega,s2 hinv.2 (decide_eq_false j5)⟩
  omega
 refine zf1 ?_
 all_goals exact c3G
end Go.Proofs.YtdhckhjphmjniaaGreatDoor
