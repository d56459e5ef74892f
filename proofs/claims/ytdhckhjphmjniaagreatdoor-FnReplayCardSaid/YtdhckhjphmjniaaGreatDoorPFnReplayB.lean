/- Texts merged into one: L5, L6, L7, G1, W5, M1, M2. -/
import Derived.Test.YtdhckhjphmjniaaGreatDoorPFnReplayA
set_option maxHeartbeats 4000000
set_option linter.unusedSimpArgs false
set_option linter.unusedVariables false
set_option maxRecDepth 20000
namespace Go.Proofs.YtdhckhjphmjniaaGreatDoor
open Go Go.Rf
theorem a1Z (s:ByteArray) (hs:s.size<=1048576):Ctr Tryz.prog 94 [.v (.string s)] (.many [.fr 48 2 ((pre (U3 s) (l9 s)).map a54),.v (.int .i64 (J3 s (l9 s)))]):=by
 refine Ctr.of (n:=52) G Tryz.func94 Z Y Z Z Z (λw0=>?_)
 refine c1 (λK1 hK1=>?_)
 refine b6 (a7 Z (b5 Z Z (b9 Z Z) (a7 Z (b5 Z Z (b9 Z Z) (b4 (hK1 _ ?_))))))
 clear hK1 K1
 refine c1 (λK2 hK2=>?_)
 refine b6 (a7 Z (p6 G 1 Z Z Z Z Z Z Z Z (a7 Z (b5 Z Z (b9 Z Z) (b4 (hK2 _ ?_))))))
 clear hK2 K2
 refine c1 (λK3 hK3=>?_)
 refine b6 (a7 Z (b5 Z Z (b9 Z Z) (b4 (hK3 _ ?_))))
 clear hK3 K3
 refine c1 (λK4 hK4=>?_)
 refine p8 ?_
 refine i6 [0] [] (λ(n:Nat)=>[(4,.own 0),(5,.v (.int .i64 (J3 s n)))]) (λ(n:Nat)=>[(0,some (.row 48 2 ((pre (U3 s) n).map a54)))]) (λ(n:Nat)=>∀j,j < n→okN s j=true) (λ(n:Nat)=>60 - n) 0 Z Z ?_ ?_ ?_ ?_
 ·exact λj hj=>by omega
 ·exact Z8
 ·exact a1U
 ·intro n hinv
  have hp:=b3a hinv
  have hpi:J3 s n=(w4 s n:Int):=rfl
  obtain ⟨hs1,hs2⟩:=Z1 (s:=H7 s n) (b:=10)
  have hl1:=V9 (s:=H7 s n) (b:=10)
  have hre:(H7 s n).size<=s.size:=a2C
  have hll:(N4 s n).size<=(H7 s n).size:=a1w
  have hln:(g8 (H7 s n) 10).getD ((0:Int)).toNat default=N4 s n:=hs1
  have hlz:((g8 (H7 s n) 10).getD ((0:Int)).toNat default).size<=(H7 s n).size:=(by rw [hln];omega)
  have hpl:((pre (U3 s) n).length:Int)=n:=(by simp [G5])
  simp only [List.cons_append,List.nil_append]
  refine c1 (λK5 hK5=>?_)
  refine c1 (λK6 hK6=>?_)
  refine b6 (a7 Z (b5 Z Z (b8 Z Z) (a7 Z (b5 Z Z (b8 Z Z) (a7 Z (b5 Z Z (p9 G Z Z Z) (a7 Z (b5 Z Z (u4 Z Z Z Z) (a7 Z (b5 Z Z (b8 Z Z) (D9 Z Z Z (λh1=>?_) (λh1=>?_))))))))))))
  ·try rw [h1]
   try simp only [rfb] at h1
   refine m7 Z Z Z (b5 Z Z (b8 Z Z) (m7 Z Z Z ?_))
   first | refine b5 Z Z (V6 G Z Z Z Z (List.length_map _)) ?_ | refine b5 Z Z (a1y G Z Z Z Z) ?_
   refine m7 Z Z Z (b5 Z Z (u4 Z Z Z Z) (a7 Z (b5 Z Z (z6 Z Z Z) (b4 (hK6 _ ?_)))))
   clear hK6 K6
   refine l1 Z (λh2=>?_) (λh2=>?_)
   ·try rw [h2]
    try simp only [rfb] at h2
    refine r7 (hK5 _ ?_)
    clear hK5 K5
    refine p8 ?_
    refine c1 (λK7 hK7=>?_)
    refine b6 (a7 Z (b5 Z Z (b8 Z Z) (a7 Z (b5 Z Z (b8 Z Z) (a7 Z (b5 Z Z (z8 G Z Z Z Z Z J J J) (a7 Z (d3 2 Z Z Z (ArgsOK.of Z) (S2 _ 10 (Nat.le_trans a2C hs)) Z Z (a7 Z (b5 Z Z (b9 Z Z) (b4 (hK7 _ ?_))))))))))))
    clear hK7 K7
    rw [b4G]
    refine c1 (λK8 hK8=>?_)
    refine b6 (a7 Z (b5 Z Z (b8 Z Z) (a7 Z ?_)))
    first | refine b5 Z Z (d1 G Z Z Z Z Z J (by simp;omega)) ?_ | refine b5 Z Z (d1 G Z Z Z Z Z J J) ?_
    refine a7 Z (b5 Z Z (j9 G Z Z Z Z Z (C3 J (by simp;omega)) Z) (a7 Z (b5 Z Z (b8 Z Z) (a7 Z ?_))))
    first | refine b5 Z Z (V6 G Z Z Z Z (List.length_map _)) ?_ | refine b5 Z Z (a1y G Z Z Z Z) ?_
    refine a7 Z (b5 Z Z (i7 Z (ArgsOK.of Z) (b1l _ _ (by rw [hln];omega) J J) Z) (a7 Z (b5 Z Z (b8 Z Z) (a7 Z (b5 Z Z (e7 Z Z Z) (a7 Z (b5 Z Z (e7 Z Z Z) (a7 Z (d6 G 3 Z Z Z Z Z (a7 Z (f6 G Z Z Z Z Z Z Z Z Z Z Z (a7 Z (b5 Z Z (b9 Z Z) (b4 (hK8 _ ?_)))))))))))))))
    clear hK8 K8
    rw [hln,hpl]
    refine c1 (λK9 hK9=>?_)
    refine c1 (λK10 hK10=>?_)
    refine b6 (a7 Z (b5 Z Z (b8 Z Z) (a7 Z ?_)))
    first | refine b5 Z Z (V6 G Z Z Z Z (List.length_map _)) ?_ | refine b5 Z Z (a1y G Z Z Z Z) ?_
    refine a7 Z (b5 Z Z (u4 Z Z Z Z) (a7 Z (b5 Z Z (b8 Z Z) (D9 Z Z Z (λh3=>?_) (λh3=>?_)))))
    ·try rw [h3]
     try simp only [rfb] at h3
     have hN:=a0F hinv (c6s J)
     refine l7 Z Z Z Z Z Z (l7 Z Z Z Z Z Z (a7 Z (b5 Z Z (z6 Z Z Z) (b4 (hK10 _ ?_)))))
     clear hK10 K10
     refine M8 Z (J0 (hK4 _ ?_))
     clear hK9 K9 hK4 K4
     refine c1 (λK11 hK11=>?_)
     refine b6 (a7 Z (b5 Z Z (b8 Z Z) (a7 Z (b5 Z Z (b8 Z Z) (a7 Z (b5 Z Z (b9 Z Z) (a7 Z (b5 Z Z (b9 Z Z) (b4 (hK11 _ ?_))))))))))
     clear hK11 K11
     exact b7X
    ·try rw [h3]
     try simp only [rfb] at h3
     refine m7 Z Z Z (b5 Z Z (b8 Z Z) (m7 Z Z Z (b5 Z Z (a1d Z Z) (a7 Z (b5 Z Z (B7 Z Z Z) (b4 (hK10 _ ?_)))))))
     clear hK10 K10
     refine l1 Z (λh4=>?_) (λh4=>?_)
     ·try rw [h4]
      try simp only [rfb] at h4
      have hN:=a0F hinv (b9k h4)
      refine J0 (hK4 _ ?_)
      clear hK9 K9 hK4 K4
      refine c1 (λK12 hK12=>?_)
      refine b6 (a7 Z (b5 Z Z (b8 Z Z) (a7 Z (b5 Z Z (b8 Z Z) (a7 Z (b5 Z Z (b9 Z Z) (a7 Z (b5 Z Z (b9 Z Z) (b4 (hK12 _ ?_))))))))))
      clear hK12 K12
      exact b7X
     ·try rw [h4]
      try simp only [rfb] at h4
      have hok:=c8U (s:=s) (n:=n) J J h4
      refine r7 (hK9 _ ?_)
      clear hK9 K9
      refine c1 (λK13 hK13=>?_)
      refine b6 (a7 Z (b5 Z Z (b8 Z Z) (a7 Z (b5 Z Z (c6 G Z Z Z Z Z Z) (a7 Z (p6 G 4 Z Z Z Z Z Z Z Z (a7 Z (l2 G np Z Z Z Z Z Z Z Z Z (by simp [G5];omega) Z Z (a7 Z (b5 Z Z (b9 Z Z) (b4 (hK13 _ ?_))))))))))))
      clear hK13 K13
      refine b6 (a7 Z (b5 Z Z (b8 Z Z) (a7 Z (b5 Z Z (b8 Z Z) (a7 Z ?_)))))
      first | refine b5 Z Z (d1 G Z Z Z Z Z J (by simp;omega)) ?_ | refine b5 Z Z (d1 G Z Z Z Z Z J J) ?_
      refine a7 Z (b5 Z Z (j9 G Z Z Z Z Z (C3 J (by simp;omega)) Z) (a7 Z (b5 Z Z (p9 G Z Z Z) (a7 Z ?_))))
      first | refine b5 Z Z (q9 Z Z Z Z J J) ?_ | refine b5 Z Z (s6 Z Z Z Z) ?_
      refine a7 Z ?_
      first | refine b5 Z Z (q9 Z Z Z Z J J) ?_ | refine b5 Z Z (s6 Z Z Z Z) ?_
      refine a7 Z (b5 Z Z (b9 Z Z) ?_)
      refine b4 ⟨(n+1),?_,?_,⟨⟨_,Z,by (first | exact (rfl:AV.own 0=AV.own 0) | (rw [hln,b2c (s:=s) (n:=n)];done))⟩,Z,⟨⟨_,Z,by (first | exact (rfl:AV.own 0=AV.own 0) | (rw [hln,b2c (s:=s) (n:=n)];done))⟩,Z,trivial⟩⟩,⟨⟨_,Z,by (exact congrArg (Row.row _ _) (a4A (g:=U3 s) (f:=a54) (i:=n)))⟩,Z,Z,trivial⟩,Z,Z,Z⟩
      ·exact s4 hinv hok
      ·omega
   ·try rw [h2]
    try simp only [rfb] at h2
    have hN:=a0F hinv (c6r J)
    refine J0 (hK4 _ ?_)
    clear hK5 K5 hK4 K4
    refine c1 (λK14 hK14=>?_)
    refine b6 (a7 Z (b5 Z Z (b8 Z Z) (a7 Z (b5 Z Z (b8 Z Z) (a7 Z (b5 Z Z (b9 Z Z) (a7 Z (b5 Z Z (b9 Z Z) (b4 (hK14 _ ?_))))))))))
    clear hK14 K14
    exact b7X
  ·try rw [h1]
   try simp only [rfb] at h1
   have hN:=a0F hinv (b0B J)
   refine l7 Z Z Z Z Z Z (l7 Z Z Z Z Z Z (l7 Z Z Z Z Z Z (a7 Z (b5 Z Z (B7 Z Z Z) (b4 (hK6 _ ?_))))))
   clear hK6 K6
   refine Y6 Z (J0 (hK4 _ ?_))
   clear hK5 K5 hK4 K4
   refine c1 (λK15 hK15=>?_)
   refine b6 (a7 Z (b5 Z Z (b8 Z Z) (a7 Z (b5 Z Z (b8 Z Z) (a7 Z (b5 Z Z (b9 Z Z) (a7 Z (b5 Z Z (b9 Z Z) (b4 (hK15 _ ?_))))))))))
   clear hK15 K15
   exact b7X
theorem W9 (s:ByteArray) (hs:s.size<=1048576):Ctr Tryz.prog 52 [.v (.string s)] (.many [.fr 48 2 ((pre (U3 s) (l9 s)).map a54),.fr 3 1 ((pre (J3 s) (l9 s+1)).map Rf.s3)]):=by
 refine Ctr.of (n:=37) G Tryz.func52 Z Y Z Z Z (λw0=>?_)
 refine c1 (λK1 hK1=>?_)
 refine b6 (a7 Z (b5 Z Z (b9 Z Z) (a7 Z (b5 Z Z (b9 Z Z) (b4 (hK1 _ ?_))))))
 clear hK1 K1
 refine c1 (λK2 hK2=>?_)
 refine b6 (a7 Z (p6 G 1 Z Z Z Z Z Z Z Z (a7 Z (p6 G 2 Z Z Z Z Z Z Z Z (a7 Z (b5 Z Z (b9 Z Z) (a7 Z (b5 Z Z (b9 Z Z) (a7 Z (b5 Z Z (b9 Z Z) (b4 (hK2 _ ?_))))))))))))
 clear hK2 K2
 refine p8 ?_
 refine i6 [0] [] (λ(n:Nat)=>[(4,.own 0),(5,.own 1),(6,.v (.int .i64 (J3 s n)))]) (λ(n:Nat)=>[(0,some (.row 48 2 ((pre (U3 s) n).map a54))),(1,some (.row 3 1 ((pre (J3 s) (n+1)).map Rf.s3)))]) (λ(n:Nat)=>∀j,j < n→okN s j=true) (λ(n:Nat)=>61 - n) 0 Z Z ?_ ?_ ?_ ?_
 ·exact λj hj=>by omega
 ·exact c5u
 ·exact b5t
 ·intro n hinv
  have hp:=b3a hinv
  have hpi:J3 s n=(w4 s n:Int):=rfl
  have hre:(H7 s n).size<=s.size:=a2C
  have hll:(N4 s n).size<=(H7 s n).size:=a1w
  have hpl:((pre (U3 s) n).length:Int)=n:=(by simp [G5])
  simp only [List.cons_append,List.nil_append]
  refine p8 ?_
  refine c1 (λK3 hK3=>?_)
  refine b6 (a7 Z (b5 Z Z (b8 Z Z) (a7 Z (b5 Z Z (b8 Z Z) (a7 Z (b5 Z Z (z8 G Z Z Z Z Z J J J) (a7 Z (b5 Z Z (b8 Z Z) (a7 Z ?_)))))))))
  first | refine b5 Z Z (V6 G Z Z Z Z (List.length_map _)) ?_ | refine b5 Z Z (a1y G Z Z Z Z) ?_
  refine a7 Z (b5 Z Z (i7 Z (ArgsOK.of Z) (a8a _ _ (Nat.le_trans a2C hs) J J) Z) (a7 Z (b5 Z Z (b8 Z Z) (a7 Z (b5 Z Z (e7 Z Z Z) (a7 Z (b5 Z Z (e7 Z Z Z) (a7 Z (b5 Z Z (e7 Z Z Z) (a7 Z (d6 G 3 Z Z Z Z Z (a7 Z (f6 G Z Z Z Z Z Z Z Z Z Z Z (a7 Z (b5 Z Z (b9 Z Z) (a7 Z (b5 Z Z (b9 Z Z) (b4 (hK3 _ ?_)))))))))))))))))))
  clear hK3 K3
  refine c1 (λK4 hK4=>?_)
  refine c1 (λK5 hK5=>?_)
  refine b6 (a7 Z (b5 Z Z (b8 Z Z) (a7 Z (b5 Z Z (a1d Z Z) (b4 (hK5 _ ?_))))))
  clear hK5 K5
  rw [b4G,hpl]
  refine l1 Z (λh1=>?_) (λh1=>?_)
  ·try rw [h1]
   try simp only [rfb] at h1
   have hN:=a0F hinv h1
   refine c1 (λK6 hK6=>?_)
   refine b6 (a7 Z (b5 Z Z (b8 Z Z) (a7 Z (b5 Z Z (b8 Z Z) (a7 Z (b5 Z Z (b9 Z Z) (a7 Z (b5 Z Z (b9 Z Z) (b4 (hK6 _ ?_))))))))))
   clear hK6 K6
   refine d7 (s1 Z Z Z Z (b3 (c7 Z ?_) (b3 (c7 Z ?_) d9)))
   all_goals clear hK4 K4
   all_goals ((rw [hN]))
  ·try rw [h1]
   try simp only [rfb] at h1
   have hok:okN s n=true:=h1
   obtain ⟨he1,he2⟩:=c6t hok
   rw [he1,he2]
   have hb1:=a7g hok
   refine r7 (hK4 _ ?_)
   clear hK4 K4
   refine c1 (λK7 hK7=>?_)
   refine b6 (a7 Z (b5 Z Z (b8 Z Z) (a7 Z (b5 Z Z (b8 Z Z) (a7 Z ?_)))))
   first | refine b5 Z Z (q9 Z Z Z Z J J) ?_ | refine b5 Z Z (s6 Z Z Z Z) ?_
   refine a7 Z (b5 Z Z (b9 Z Z) (b4 (hK7 _ ?_)))
   clear hK7 K7
   refine c1 (λK8 hK8=>?_)
   refine b6 (a7 Z (b5 Z Z (b8 Z Z) (a7 Z (b5 Z Z (c6 G Z Z Z Z Z Z) (a7 Z (p6 G 4 Z Z Z Z Z Z Z Z (a7 Z (l2 G np Z Z Z Z Z Z Z Z Z (by simp [G5];omega) Z Z (a7 Z (b5 Z Z (b9 Z Z) (b4 (hK8 _ ?_))))))))))))
   clear hK8 K8
   refine b6 (a7 Z (b5 Z Z (b8 Z Z) (a7 Z (b5 Z Z (b8 Z Z) (a7 Z (p6 G 5 Z Z Z Z Z Z Z Z (a7 Z (l2 G np Z Z Z Z Z Z Z Z Z (by simp [G5];omega) Z Z (a7 Z (b5 Z Z (b9 Z Z) ?_))))))))))
   refine b4 ⟨(n+1),?_,?_,⟨⟨_,Z,by (first | exact (rfl:AV.own 0=AV.own 0) | exact (rfl:AV.own 1=AV.own 1) | (rw [a1F (s:=s) (n:=n)];done))⟩,Z,⟨⟨_,Z,by (first | exact (rfl:AV.own 0=AV.own 0) | exact (rfl:AV.own 1=AV.own 1) | (rw [a1F (s:=s) (n:=n)];done))⟩,Z,⟨⟨_,Z,by (first | exact (rfl:AV.own 0=AV.own 0) | exact (rfl:AV.own 1=AV.own 1) | (rw [a1F (s:=s) (n:=n)];done))⟩,Z,trivial⟩⟩⟩,⟨⟨_,Z,by (first | exact congrArg (Row.row _ _) (a4A (g:=U3 s) (f:=a54) (i:=n)) | (rw [a1F];exact congrArg (Row.row _ _) (a4A (g:=J3 s) (f:=Rf.s3) (i:=n+1))))⟩,Z,Z,⟨⟨_,Z,by (first | exact congrArg (Row.row _ _) (a4A (g:=U3 s) (f:=a54) (i:=n)) | (rw [a1F];exact congrArg (Row.row _ _) (a4A (g:=J3 s) (f:=Rf.s3) (i:=n+1))))⟩,Z,Z,trivial⟩⟩,Z,Z,Z⟩
   ·exact s4 hinv hok
   ·omega
theorem U6 (x:Lg) (hx:x.d.size+x.p.size<=1048576):Ctr Tryz.prog 55 [.v (a4F x)] (.one (.v (.bool (okLg x)))):=by
 have hl1:=T4 (s:=x.d++x.p)
 have hl2:=T4 (s:=x.d)
 have hp1:J3 (x.d++x.p) (l9 (x.d++x.p))=(w4 (x.d++x.p) (l9 (x.d++x.p)):Int):=rfl
 have hp2:J3 x.d (l9 x.d)=(w4 x.d (l9 x.d):Int):=rfl
 have hrl:=b06 (s:=x.d++x.p)
 have hap:(x.d++x.p).size=x.d.size+x.p.size:=ByteArray.size_append
 have hge:=b3N (s:=x.d++x.p)
 have hel:(pre (J3 (x.d++x.p)) (l9 (x.d++x.p)+1)).length=l9 (x.d++x.p)+1:=G5
 have hem:((pre (J3 (x.d++x.p)) (l9 (x.d++x.p)+1)).map Rf.s3).length=l9 (x.d++x.p)+1:=(by rw [List.length_map,G5])
 refine Ctr.of (n:=53) G Tryz.func55 Z a8 Z Z Z (λw0=>?_)
 refine vm1 ?_
 refine a78 ?_
 refine a78 ?_
 refine zcd (λh1=>?_) (λh1=>?_)
 ·have hO:=c2K (x:=x) J
  exact b70
 refine vm3 ?_
 refine b33 ?_
 refine r6 ?_
 refine d3 2 Z Z Z (ArgsOK.of Z) (a1Z _ Z7) Z Z ?_
 refine vm3 ?_
 refine d3 3 Z Z Z (ArgsOK.of Z) (a1Z _ Z7) Z Z ?_
 refine a78 ?_
 refine a78 ?_
 refine zcd (λh2=>?_) (λh2=>?_)
 ·refine zgo ?_
  refine Y5 ?_
  refine b5 Z Z (p9 G Z Z Z) ?_
  refine zcd (λh3=>?_) (λh3=>?_)
  ·have hO:=c65 (x:=x) J J J
   exact b70
  have hO:=c2L (x:=x) J
  exact b70
 have hO:=b7o (x:=x) J
 exact b70
theorem P6 (x:Lg) (hx:x.d.size+x.p.size<=1048576):Ctr Tryz.prog 51 [.v (a4F x)] (.one (.v (.bool (okLg x)))):=by
 have hl1:=T4 (s:=x.d++x.p)
 have hl2:=T4 (s:=x.d)
 have hp1:J3 (x.d++x.p) (l9 (x.d++x.p))=(w4 (x.d++x.p) (l9 (x.d++x.p)):Int):=rfl
 have hp2:J3 x.d (l9 x.d)=(w4 x.d (l9 x.d):Int):=rfl
 have hrl:=b06 (s:=x.d++x.p)
 have hap:(x.d++x.p).size=x.d.size+x.p.size:=ByteArray.size_append
 have hge:=b3N (s:=x.d++x.p)
 have hel:(pre (J3 (x.d++x.p)) (l9 (x.d++x.p)+1)).length=l9 (x.d++x.p)+1:=G5
 have hem:((pre (J3 (x.d++x.p)) (l9 (x.d++x.p)+1)).map Rf.s3).length=l9 (x.d++x.p)+1:=(by rw [List.length_map,G5])
 refine Ctr.of (n:=45) G Tryz.func51 Z a8 Z Z Z (λw0=>?_)
 refine vm1 ?_
 refine vm3 ?_
 refine b33 ?_
 refine vm3 ?_
 refine d3 3 Z Z Z (ArgsOK.of Z) (W9 _ Z7) Z Z ?_
 refine vm4 ?_
 refine c3n ?_
 refine a78 ?_
 refine zcd (λh1=>?_) (λh1=>?_)
 ·have hO:=b7o (x:=x) J
  refine zwt ?_
  refine zf1 ?_
  all_goals ((rw [hO]))
 refine zcd (λh2=>?_) (λh2=>?_)
 ·have hO:=c2M (x:=x) J
  refine zf1 ?_
  all_goals ((rw [hO]))
 refine zgo ?_
 refine i6 [1,33,34] [0,2] (λ(i:Nat)=>[(35,.v (.int .i64 (i:Int)))]) (λ(i:Nat)=>[]) (λ(i:Nat)=>i<=l9 (x.d++x.p)+1/\∀j,j < i→¬ w4 (x.d++x.p) j=x.d.size) (λ(i:Nat)=>l9 (x.d++x.p)+1 - i) 0 Z Z ?_ ?_ ?_ ?_
 ·exact T5
 ·exact a6F
 ·exact trivial
 intro i hinv
 have hi:=hinv.1
 have hpi:J3 (x.d++x.p) i=(w4 (x.d++x.p) i:Int):=rfl
 have hgi:i < l9 (x.d++x.p)+1→(pre (J3 (x.d++x.p)) (l9 (x.d++x.p)+1)).getD ((i:Int)).toNat default=J3 (x.d++x.p) i:=λh=>a4J h
 refine vm2 ?_
 refine zcd (λh3=>?_) (λh3=>?_)
 ·refine vm4 ?_
  refine c3n ?_
  refine a78 ?_
  refine zcd (λh4=>?_) (λh4=>?_)
  ·have hO:=b8E (x:=x) (j:=i) J J J J
   refine zf1 ?_
   all_goals ((rw [hO]))
  refine zgo ?_
  refine ⟨(i+1),?_,?_,⟨⟨_,Z,by rfl⟩,Z,trivial⟩,trivial,Z,Z,Z⟩
  ·exact ⟨by omega,s4 hinv.2 J⟩
  omega
 have hO:=b8F (x:=x) (λj hj=>hinv.2 j J)
 refine zf1 ?_
 all_goals ((rw [hO]))
theorem a48 (x:Lg) (hx:x.d.size+x.p.size<=1048576):Ctr Tryz.prog 154 [.v (a4F x)] (.many [.v (a4F (syE x)),.v (.bool (okLg x))]):=by
 refine Ctr.of (n:=16) G Tryz.func154 Z a8 Z Z Z (λw0=>?_)
 refine vm1 ?_
 refine vm9 ?_
 refine zcl (U6 _ Z7) ?_
 refine zcd (λh1=>?_) (λh1=>?_)
 ·have hO:=d1a h1
  exact c5p
 have hO:=c9j h1
 refine vm3 ?_
 refine b33 ?_
 exact c5p
theorem t7 (x:Lg) (r:Rec) (hx:x.d.size+x.p.size<=1048576) (hr:r.c.size<=9223372036854775807/\r.r.size<=9223372036854775807):Ctr Tryz.prog 40 [.v (a4F x),.v (b28 r)] (.many [.v (a4F (apE x r)),.v (.int .i64 (apN x r))]):=by
 refine Ctr.of (n:=32) G Tryz.func40 Z a8 Z Z Z (λw0=>?_)
 refine b6E ?_
 refine zcl (U6 _ Z7) ?_
 refine zcd (λh1=>?_) (λh1=>?_)
 ·have hO:=c2N (x:=x) (r:=r) (c31 h1)
  refine zwt ?_
  exact b2W
 refine zcl (a1Y _ j6) ?_
 refine zcd (λh2=>?_) (λh2=>?_)
 ·have hO:=c2N (x:=x) (r:=r) (c32 h2)
  exact b2W
 refine zcd (λh3=>?_) (λh3=>?_)
 ·have hO:=c9k (x:=x) (r:=r) h1 h2 h3
  exact b2W
 have hz:=a5K (x:=x) j6
 have hls:=a5L (k:=x.n) (x:=r) J J j6
 have hO:=b8G (x:=x) (r:=r) h1 h2 h3
 refine zgo ?_
 apply C4 [2,4] [0,2] 3 9 [1,2] mixed a8 Z Z (λ_ h=>znk h)
 ·intro r0
  refine zsa 0 ?_
  refine zsa 2 ?_
  refine zsa 4 ?_
  refine b7 (rs:=[1,3]) a8 Z (AllB.cons ?_ (AllB.cons ?_ AllB.nil))
  ·refine g9 [1,2] Z Z ?_
   refine R9 ?_
   refine b7 (rs:=[3]) a8 Z (AllB.cons ?_ AllB.nil)
   exact c6a
  refine g9 [1,2] Z Z ?_
  refine R9 ?_
  refine b7 (rs:=[1,5]) a8 Z (AllB.cons ?_ (AllB.cons ?_ AllB.nil))
  ·exact c6a
  refine g9 [1,2] Z Z (b5 Z Z (i7 Z (ArgsOK.of Z) (a1W _ _ Z7 Z7 j6) Z) (b4 ⟨Z,?_⟩))
  refine b7 (rs:=[1]) a8 Z (AllB.cons ?_ AllB.nil)
  refine g9 [1,2] Z Z ?_
  refine R9 ?_
  exact c5J
 refine zgo ?_
 refine d7 (s1 Z Z Z Z (b3 (A8 Z ?_) (b3 (i8 ?_) d9)))
 all_goals (first | (rw [hO.1];done) | (rw [hO.1];rfl) | (rw [hO.2];done) | (rw [hO.2];rfl))
theorem a1h (x:Lg) (r:Rec) (hx:x.d.size+x.p.size<=1048576) (hr:r.c.size<=9223372036854775807/\r.r.size<=9223372036854775807):Ctr Tryz.prog 45 [.v (a4F x),.v (b28 r)] (.many [.v (a4F (apE x r)),.v (.int .i64 (apN x r))]):=by
 refine Ctr.of (n:=34) G Tryz.func45 Z a8 Z Z Z (λw0=>?_)
 refine b6E ?_
 refine zcl (P6 _ Z7) ?_
 refine zcd (λh1=>?_) (λh1=>?_)
 ·have hO:=c2N (x:=x) (r:=r) (c31 h1)
  refine zwt ?_
  exact b2W
 refine zcl (S0 _ j6) ?_
 refine zcd (λh2=>?_) (λh2=>?_)
 ·have hO:=c2N (x:=x) (r:=r) (c32 h2)
  exact b2W
 refine zcd (λh3=>?_) (λh3=>?_)
 ·have hO:=c9k (x:=x) (r:=r) h1 h2 h3
  exact b2W
 have hz:=a5K (x:=x) j6
 have hls:=a5L (k:=x.n) (x:=r) J J j6
 have hO:=b8G (x:=x) (r:=r) h1 h2 h3
 refine zgn ?_
 refine t8 (j7 15 [0,1] mixed a8 Z Z (λr0=>?_) (λ_ h=>h))
 refine a1q ?_
 refine a8V ?_
 refine zsa 9 ?_
 refine zsa 10 ?_
 first | refine c8 11 Z a8 a8 Z Z Z Z (q9 Z Z Z Z J J) ?_ | refine c8 11 Z a8 a8 Z Z Z Z (s6 Z Z Z Z) ?_
 refine b7 (rs:=[7]) a8 Z (AllB.cons ?_ AllB.nil)
 refine g9 [0,1] Z Z (b5 Z Z (i7 Z (ArgsOK.of Z) (a1i _ _ Z7 Z7 j6) Z) (b4 ⟨Z,?_⟩))
 refine c8 8 Z a8 a8 Z Z Z Z (B0 Z Z Z b7S) ?_
 refine zsa 12 ?_
 refine b7 (rs:=[13]) a8 Z (AllB.cons ?_ AllB.nil)
 refine g9 [0,1] Z Z ?_
 refine R9 ?_
 refine zsa 14 ?_
 refine H8 ?_
 exact d0x
theorem E2 {x:Cur} {n:Int} (h:okC n x) (hn:n<=900000000000):CtrX (α:=Rec×Cur) Tryz.prog 54 [.ptr 0 0] [.box [.lst 1 (x.c.map B1),.v (.int .i64 x.a),.v (.int .u64 x.s)]] (λy=>(y.1.c.size<=20/\y.1.r.size<=20)/\okC (n+20) y.2) (λy=>.one (.v (b28 y.1))) (λy=>[some (.box [.lst 1 (y.2.c.map B1),.v (.int .i64 y.2.a),.v (.int .u64 y.2.s)])]):=by
 refine CtrX.of (n:=28) (k:=1) G Tryz.func54 Z Y Z Z Z Z (λ_=>Z) Z Z (λw0 _ hpin=>?_)
 refine c1 (λK1 hK1=>?_)
 refine b6 (a7 Z (d6 G 2 Z Z Z Z Z (b4 (hK1 _ ?_))))
 clear hK1 K1
 refine c1 (λK2 hK2=>?_)
 refine b6 (a7 Z (b5 Z Z (b8 Z Z) (a7 Z (p6 G 3 Z Z Z Z Z Z Z Z (a7 Z ?_)))))
 refine d4 3 [0,2] Z Z Z (b5A h J [⟨#[99,111,117,110,116]⟩,⟨#[115,111,114,116,32,109,101,114,103,101]⟩,⟨#[120]⟩,⟨#[115,101,108,101,99,116,32,50]⟩,⟨#[48,32,49]⟩] (by decide)) Z (RowsIn.cons Z (RowsIn.cons Z RowsIn.nil)) Z (λ_=>Z) Z (λx1 ⟨hv1,hc1⟩=>?_)
 have hs1:=a0Z (n:=20) hv1 (by decide)
 refine a7 Z (b5 Z Z (b8 Z Z) (a7 Z (p6 G 4 Z Z Z Z Z Z Z Z (a7 Z ?_))))
 refine d4 4 [0,3] Z Z Z (b5A hc1 J [⟨#[]⟩,⟨#[51]⟩,⟨#[63]⟩,⟨#[97,64,98]⟩,⟨#[51,32,49,32,50]⟩] (by decide)) Z (RowsIn.cons Z (RowsIn.cons Z RowsIn.nil)) Z (λ_=>Z) Z (λx2 ⟨hv2,hc2⟩=>?_)
 have hs2:=a0Z (n:=20) hv2 (by decide)
 refine a7 Z (b5 Z Z (u3 G Z Z Z Z) (a7 Z (d6 G 5 Z Z Z Z Z (a7 Z (f6 G Z Z Z Z Z Z Z Z Z Z Z (b4 (hK2 _ ?_)))))))
 clear hK2 K2
 refine c1 (λK3 hK3=>?_)
 refine c1 (λK4 hK4=>?_)
 refine b6 (a7 Z (b5 Z Z (b8 Z Z) (a7 Z ?_)))
 refine d4 5 [0] Z Z Z (r3 hc2 J (24)) Z (RowsIn.cons Z RowsIn.nil) Z (λ_=>Z) Z (λx3 ⟨hv3,hc3⟩=>?_)
 refine b4 (hK4 _ ?_)
 clear hK4 K4
 refine p8 ?_
 refine c1 (λK5 hK5=>?_)
 refine b6 (a7 Z (b5 Z Z (u4 Z Z Z Z) (a7 Z (b5 Z Z (b9 Z Z) (b4 (hK5 _ ?_))))))
 clear hK5 K5
 refine l1 Z (λh1=>?_) (λh1=>?_)
 ·try rw [h1]
  try simp only [rfb] at h1
  refine b6 (a7 Z (b5 Z Z (b8 Z Z) (a7 Z (c1W (n:=3) G 6 Z Z Z Z Z Z Z Z Z J J (a7 Z (b5 Z Z (c8O G Z Z Z Z Z Z Z) (a7 Z (p6 G 7 Z Z Z Z Z Z Z Z (a7 Z ?_)))))))))
  refine d4 7 [0,6] Z Z Z (b5A hc3 J [⟨#[]⟩,⟨#[97,64,98]⟩,⟨#[97,35]⟩,⟨#[10]⟩,⟨#[0,0,0]⟩] (by decide)) Z (RowsIn.cons Z (RowsIn.cons Z RowsIn.nil)) Z (λ_=>Z) Z (λx4 ⟨hv4,hc4⟩=>?_)
  have hs4:=a0Z (n:=20) hv4 (by decide)
  refine a7 Z (b5 Z Z (d5 G Z Z Z Z) (a7 Z (f6 G Z Z Z Z Z Z Z Z Z Z Z (b4 (hK3 _ ?_)))))
  clear hK3 K3
  refine c1 (λK6 hK6=>?_)
  refine b6 (a7 Z (b5 Z Z (c6 G Z Z Z Z Z Z) (a7 Z (f6 G Z Z Z Z Z Z Z Z Z Z Z (b4 (hK6 _ ?_))))))
  clear hK6 K6
  refine d7 (A3 ((⟨x4.1,x2.1⟩,x4.2)) (o9 Z (A8 Z ?_) Z (AftOK.stays Z ?_ Z AftOK.nil)) (⟨?_,?_⟩))
  all_goals (first | rfl | exact hc4.mono J | exact ⟨by assumption,by assumption⟩)
 ·try rw [h1]
  try simp only [rfb] at h1
  refine c1 (λK7 hK7=>?_)
  refine b6 (a7 Z (b5 Z Z (u4 Z Z Z Z) (a7 Z (b5 Z Z (b9 Z Z) (b4 (hK7 _ ?_))))))
  clear hK7 K7
  refine l1 Z (λh2=>?_) (λh2=>?_)
  ·try rw [h2]
   try simp only [rfb] at h2
   refine b6 (a7 Z (b5 Z Z (b8 Z Z) (a7 Z (p6 G 6 Z Z Z Z Z Z Z Z (a7 Z ?_)))))
   refine d4 6 [0,5] Z Z Z (b5A hc3 J [⟨#[35]⟩,⟨#[10]⟩,⟨#[127]⟩] (by decide)) Z (RowsIn.cons Z (RowsIn.cons Z RowsIn.nil)) Z (λ_=>Z) Z (λx5 ⟨hv5,hc5⟩=>?_)
   have hs5:=a0Z (n:=20) hv5 (by decide)
   refine a7 Z (b5 Z Z (d5 G Z Z Z Z) (a7 Z (f6 G Z Z Z Z Z Z Z Z Z Z Z (b4 (hK3 _ ?_)))))
   clear hK3 K3
   refine c1 (λK8 hK8=>?_)
   refine b6 (a7 Z (b5 Z Z (c6 G Z Z Z Z Z Z) (a7 Z (f6 G Z Z Z Z Z Z Z Z Z Z Z (b4 (hK8 _ ?_))))))
   clear hK8 K8
   refine d7 (A3 ((⟨x1.1,x5.1⟩,x5.2)) (o9 Z (A8 Z ?_) Z (AftOK.stays Z ?_ Z AftOK.nil)) (⟨?_,?_⟩))
   all_goals (first | rfl | exact hc5.mono J | exact ⟨by assumption,by assumption⟩)
  ·try rw [h2]
   try simp only [rfb] at h2
   refine r7 (hK3 _ ?_)
   clear hK3 K3
   refine c1 (λK9 hK9=>?_)
   refine b6 (a7 Z (b5 Z Z (c6 G Z Z Z Z Z Z) (a7 Z (f6 G Z Z Z Z Z Z Z Z Z Z Z (b4 (hK9 _ ?_))))))
   clear hK9 K9
   refine d7 (A3 ((⟨x1.1,x2.1⟩,x3.2)) (o9 Z (A8 Z ?_) Z (AftOK.stays Z ?_ Z AftOK.nil)) (⟨?_,?_⟩))
   all_goals (first | rfl | exact hc3.mono J | exact ⟨by assumption,by assumption⟩)
theorem a6I {x:Cur} {n:Int} (h:okC n x) (hn:n<=890000000000):CtrX (α:=Lg×Cur) Tryz.prog 100 [.ptr 0 0] [.box [.lst 1 (x.c.map B1),.v (.int .i64 x.a),.v (.int .u64 x.s)]] (λy=>(y.1.d.size+y.1.p.size<=100000)/\okC (n+300) y.2) (λy=>.one (.v (a4F y.1))) (λy=>[some (.box [.lst 1 (y.2.c.map B1),.v (.int .i64 y.2.a),.v (.int .u64 y.2.s)])]):=by
 refine CtrX.of (n:=27) (k:=1) G Tryz.func100 Z Y Z Z Z Z (λ_=>Z) Z Z (λw0 _ hpin=>?_)
 refine c1 (λK1 hK1=>?_)
 refine b6 (a7 Z (d6 G 2 Z Z Z Z Z (b4 (hK1 _ ?_))))
 clear hK1 K1
 refine c1 (λK2 hK2=>?_)
 refine b6 (a7 Z (b5 Z Z (u3 G Z Z Z Z) (a7 Z (d6 G 3 Z Z Z Z Z (a7 Z (f6 G Z Z Z Z Z Z Z Z Z Z Z (b4 (hK2 _ ?_))))))))
 clear hK2 K2
 refine c1 (λK3 hK3=>?_)
 refine c1 (λK4 hK4=>?_)
 refine b6 (a7 Z (b5 Z Z (b8 Z Z) (a7 Z ?_)))
 refine d4 3 [0] Z Z Z (r3 h J (7)) Z (RowsIn.cons Z RowsIn.nil) Z (λ_=>Z) Z (λx1 ⟨hv1,hc1⟩=>?_)
 refine a7 Z (b5 Z Z (b9 Z Z) (b4 (hK4 _ ?_)))
 clear hK4 K4
 refine p8 ?_
 refine i6 [0,2,3] [1] (λ(z:Nat×Cur×Lg)=>[(4,.v (.int .i64 (x1.1 - z.1)))]) (λ(z:Nat×Cur×Lg)=>[(0,some (.box [.lst 1 (z.2.1.c.map B1),.v (.int .i64 z.2.1.a),.v (.int .u64 z.2.1.s)])),(2,some (.box [.v (.string z.2.2.d),.v (.string z.2.2.p),.v (.int .i64 z.2.2.n)]))]) (λ(z:Nat×Cur×Lg)=>(z.1:Int)<=x1.1/\(z.2.2.d.size+z.2.2.p.size<=100000)/\okC (n+2+30 * z.1) z.2.1) (λ(z:Nat×Cur×Lg)=>x1.1.toNat - z.1) (0,x1.2,lg0) Z Z ?_ ?_ ?_ ?_
 ·exact ⟨hv1.1,(Nat.zero_le 100000:lg0.d.size+lg0.p.size<=100000),hc1.mono (by simp)⟩
 ·exact b1i
 ·exact b5t
 ·intro z hinv
  obtain ⟨hz1,hz2,hz⟩:=hinv
  simp only [List.cons_append,List.nil_append]
  refine c1 (λK5 hK5=>?_)
  refine c1 (λK6 hK6=>?_)
  refine b6 (a7 Z (b5 Z Z (b8 Z Z) (a7 Z (b5 Z Z (u4 Z Z Z Z) (b4 (hK6 _ ?_))))))
  clear hK6 K6
  refine l1 Z (λh1=>?_) (λh1=>?_)
  ·try rw [h1]
   try simp only [rfb] at h1
   refine r7 (hK5 _ ?_)
   clear hK5 K5
   refine c1 (λK7 hK7=>?_)
   refine p8 ?_
   refine c1 (λK8 hK8=>?_)
   refine j7 8 [1] mixed Y Z Z (λr0=>?_) (λ_ h=>h)
   refine c8 1 Z Y Y Z Z Z Z (b8 Z Z) ?_
   refine b7 (rs:=[0,2]) Y Z (AllB.cons ?_ (AllB.cons ?_ AllB.nil))
   ·refine e9 [1] Z Z (b5 Z Z (c6 G Z Z Z Z Z Z) (b4 ⟨Z,?_⟩))
    refine b7 (rs:=[2]) Y Z (AllB.cons ?_ AllB.nil)
    refine e9 [1] Z Z (d4 3 [0] Z Z Z (E2 hz J) Z (RowsIn.cons Z RowsIn.nil) Z (λ_=>Z) Z (λx2 ⟨hv2,hc2⟩=>b4 ⟨Z,?_⟩))
    refine b7 (rs:=[3]) Y Z (AllB.cons ?_ AllB.nil)
    refine e9 [1] Z Z (b5 Z Z (i7 Z (ArgsOK.of Z) (t7 z.2.2 x2.1 J J) Z) (b4 ⟨Z,?_⟩))
    refine c8 4 Z Y Y Z Z Z Z (b8 Z Z) (c8 5 Z Y Y Z Z Z Z (e7 Z Z Z) (c8 6 Z Y Y Z Z Z Z (e7 Z Z Z) ?_))
    refine b7 (rs:=[7]) Y Z (AllB.cons ?_ AllB.nil)
    refine e9 [1] Z Z (f6 G Z Z Z Z Z Z Z Z Z Z Z (b4 ⟨Z,?_⟩))
    refine z7 Y (hK8 _ ?_)
    clear hK8 K8
    refine c1 (λK9 hK9=>?_)
    refine b6 (a7 Z (b5 Z Z (b8 Z Z) (a7 Z ?_)))
    refine d4 3 [0] Z Z Z (a4b hc2 J (4)) Z (RowsIn.cons Z RowsIn.nil) Z (λ_=>Z) Z (λx3 ⟨hv3,hc3⟩=>?_)
    refine b4 (hK9 _ ?_)
    clear hK9 K9
    refine l1 Z (λh2=>?_) (λh2=>?_)
    ·try rw [h2]
     try simp only [rfb] at h2
     refine b6 (a7 Z (b5 Z Z (c6 G Z Z Z Z Z Z) (a7 Z (b5 Z Z (i7 Z (ArgsOK.of Z) (a48 (apE z.2.2 x2.1) (by have:=b8K (x:=z.2.2) (r:=x2.1) (b:=100000) (by decide) hz2;omega)) Z) (a7 Z (b5 Z Z (b8 Z Z) (a7 Z (b5 Z Z (e7 Z Z Z) (a7 Z (b5 Z Z (e7 Z Z Z) (a7 Z (f6 G Z Z Z Z Z Z Z Z Z Z Z (b4 (hK7 _ ?_))))))))))))))
     clear hK7 K7
     refine b6 (a7 Z (b5 Z Z (b8 Z Z) (a7 Z ?_)))
     first | refine b5 Z Z (q9 Z Z Z Z J J) ?_ | refine b5 Z Z (s6 Z Z Z Z) ?_
     refine a7 Z (b5 Z Z (b9 Z Z) ?_)
     refine b4 ⟨(z.1+1,x3.2,syE (apE z.2.2 x2.1)),?_,?_,⟨⟨_,Z,by (first | rfl | exact congrArg (λv=>AV.v (.int .i64 v)) (by show x1.1 - (z.1:Int) - 1=x1.1 - ((z.1+1:Nat):Int);omega))⟩,Z,trivial⟩,⟨⟨_,Z,by rfl⟩,Z,Z,⟨⟨_,Z,by rfl⟩,Z,Z,trivial⟩⟩,Z,Z,Z⟩
     ·exact c5l
     ·exact Z9
    ·try rw [h2]
     try simp only [rfb] at h2
     refine r7 (hK7 _ ?_)
     clear hK7 K7
     refine b6 (a7 Z (b5 Z Z (b8 Z Z) (a7 Z ?_)))
     first | refine b5 Z Z (q9 Z Z Z Z J J) ?_ | refine b5 Z Z (s6 Z Z Z Z) ?_
     refine a7 Z (b5 Z Z (b9 Z Z) ?_)
     refine b4 ⟨(z.1+1,x3.2,apE z.2.2 x2.1),?_,?_,⟨⟨_,Z,by (first | rfl | exact congrArg (λv=>AV.v (.int .i64 v)) (by show x1.1 - (z.1:Int) - 1=x1.1 - ((z.1+1:Nat):Int);omega))⟩,Z,trivial⟩,⟨⟨_,Z,by rfl⟩,Z,Z,⟨⟨_,Z,by rfl⟩,Z,Z,trivial⟩⟩,Z,Z,Z⟩
     ·exact c5l
     ·exact Z9
   ·refine e9 [1] Z Z (d4 3 [0] Z Z Z (E2 hz J) Z (RowsIn.cons Z RowsIn.nil) Z (λ_=>Z) Z (λx4 ⟨hv4,hc4⟩=>b4 ⟨Z,?_⟩))
    refine b7 (rs:=[0]) Y Z (AllB.cons ?_ AllB.nil)
    refine e9 [1] Z Z (b5 Z Z (c6 G Z Z Z Z Z Z) (b4 ⟨Z,?_⟩))
    refine b7 (rs:=[3]) Y Z (AllB.cons ?_ AllB.nil)
    refine e9 [1] Z Z (b5 Z Z (i7 Z (ArgsOK.of Z) (t7 z.2.2 x4.1 J J) Z) (b4 ⟨Z,?_⟩))
    refine c8 4 Z Y Y Z Z Z Z (b8 Z Z) (c8 5 Z Y Y Z Z Z Z (e7 Z Z Z) (c8 6 Z Y Y Z Z Z Z (e7 Z Z Z) ?_))
    refine b7 (rs:=[7]) Y Z (AllB.cons ?_ AllB.nil)
    refine e9 [1] Z Z (f6 G Z Z Z Z Z Z Z Z Z Z Z (b4 ⟨Z,?_⟩))
    refine z7 Y (hK8 _ ?_)
    clear hK8 K8
    refine c1 (λK10 hK10=>?_)
    refine b6 (a7 Z (b5 Z Z (b8 Z Z) (a7 Z ?_)))
    refine d4 3 [0] Z Z Z (a4b hc4 J (4)) Z (RowsIn.cons Z RowsIn.nil) Z (λ_=>Z) Z (λx5 ⟨hv5,hc5⟩=>?_)
    refine b4 (hK10 _ ?_)
    clear hK10 K10
    refine l1 Z (λh3=>?_) (λh3=>?_)
    ·try rw [h3]
     try simp only [rfb] at h3
     refine b6 (a7 Z (b5 Z Z (c6 G Z Z Z Z Z Z) (a7 Z (b5 Z Z (i7 Z (ArgsOK.of Z) (a48 (apE z.2.2 x4.1) (by have:=b8K (x:=z.2.2) (r:=x4.1) (b:=100000) (by decide) hz2;omega)) Z) (a7 Z (b5 Z Z (b8 Z Z) (a7 Z (b5 Z Z (e7 Z Z Z) (a7 Z (b5 Z Z (e7 Z Z Z) (a7 Z (f6 G Z Z Z Z Z Z Z Z Z Z Z (b4 (hK7 _ ?_))))))))))))))
     clear hK7 K7
     refine b6 (a7 Z (b5 Z Z (b8 Z Z) (a7 Z ?_)))
     first | refine b5 Z Z (q9 Z Z Z Z J J) ?_ | refine b5 Z Z (s6 Z Z Z Z) ?_
     refine a7 Z (b5 Z Z (b9 Z Z) ?_)
     refine b4 ⟨(z.1+1,x5.2,syE (apE z.2.2 x4.1)),?_,?_,⟨⟨_,Z,by (first | rfl | exact congrArg (λv=>AV.v (.int .i64 v)) (by show x1.1 - (z.1:Int) - 1=x1.1 - ((z.1+1:Nat):Int);omega))⟩,Z,trivial⟩,⟨⟨_,Z,by rfl⟩,Z,Z,⟨⟨_,Z,by rfl⟩,Z,Z,trivial⟩⟩,Z,Z,Z⟩
     ·exact c5m
     ·exact Z9
    ·try rw [h3]
     try simp only [rfb] at h3
     refine r7 (hK7 _ ?_)
     clear hK7 K7
     refine b6 (a7 Z (b5 Z Z (b8 Z Z) (a7 Z ?_)))
     first | refine b5 Z Z (q9 Z Z Z Z J J) ?_ | refine b5 Z Z (s6 Z Z Z Z) ?_
     refine a7 Z (b5 Z Z (b9 Z Z) ?_)
     refine b4 ⟨(z.1+1,x5.2,apE z.2.2 x4.1),?_,?_,⟨⟨_,Z,by (first | rfl | exact congrArg (λv=>AV.v (.int .i64 v)) (by show x1.1 - (z.1:Int) - 1=x1.1 - ((z.1+1:Nat):Int);omega))⟩,Z,trivial⟩,⟨⟨_,Z,by rfl⟩,Z,Z,⟨⟨_,Z,by rfl⟩,Z,Z,trivial⟩⟩,Z,Z,Z⟩
     ·exact c5m
     ·exact Z9
  ·try rw [h1]
   try simp only [rfb] at h1
   refine J0 (hK3 _ ?_)
   clear hK5 K5 hK3 K3
   refine c1 (λK11 hK11=>?_)
   refine b6 (a7 Z (b5 Z Z (c6 G Z Z Z Z Z Z) (a7 Z (f6 G Z Z Z Z Z Z Z Z Z Z Z (b4 (hK11 _ ?_))))))
   clear hK11 K11
   refine d7 (A3 ((z.2.2,z.2.1)) (o9 Z (A8 Z ?_) Z (AftOK.stays Z ?_ Z AftOK.nil)) (⟨?_,?_⟩))
   all_goals (first | rfl | exact hz.mono J | assumption)
theorem a4m {x:Cur} {n:Int} (h:okC n x) (hn:n<=900000000000) (t w:ByteArray) (ht:t.size<=1048576) (hw:1<=w.size/\w.size<=10):CtrX (α:=ByteArray×Cur) Tryz.prog 41 [.ptr 0 0,.v (.string t),.v (.string w)] [.box [.lst 1 (x.c.map B1),.v (.int .i64 x.a),.v (.int .u64 x.s)]] (λy=>(y.1.size<=2 * t.size+10)/\okC (n+20) y.2) (λy=>.one (.v (.string y.1))) (λy=>[some (.box [.lst 1 (y.2.c.map B1),.v (.int .i64 y.2.a),.v (.int .u64 y.2.s)])]):=by
 have e0:(w.extract ((0:Int)).toNat ((1:Int)).toNat).size<=w.size:=a2C
 refine CtrX.of (n:=57) (k:=1) G Tryz.func41 Z Y Z Z Z Z (λ_=>Z) Z Z (λw0 _ hpin=>?_)
 refine c1 (λK1 hK1=>?_)
 refine b6 (a7 Z (b5 Z Z (b9 Z Z) (b4 (hK1 _ ?_))))
 clear hK1 K1
 refine c1 (λK2 hK2=>?_)
 refine c1 (λK3 hK3=>?_)
 refine b6 (a7 Z (b5 Z Z (b8 Z Z) (a7 Z (b5 Z Z (A5 Z Z Z Z) (b4 (hK3 _ ?_))))))
 clear hK3 K3
 refine l1 Z (λh1=>?_) (λh1=>?_)
 ·try rw [h1]
  try simp only [rfb] at h1
  refine c1 (λK4 hK4=>?_)
  refine b6 (a7 Z (b5 Z Z (b8 Z Z) (a7 Z (b5 Z Z (z8 G Z Z Z Z Z J J J) (a7 Z (b5 Z Z (b9 Z Z) (b4 (hK4 _ ?_))))))))
  clear hK4 K4
  refine d7 (A3 ((w.extract ((0:Int)).toNat ((1:Int)).toNat,x)) (o9 Z (i8 ?_) Z (AftOK.stays Z ?_ Z AftOK.nil)) (⟨?_,?_⟩))
  all_goals clear hK2 K2
  all_goals (first | rfl | exact h.mono J | (show ByteArray.size _<=_;(try simp only [ByteArray.size_append]);omega))
 ·try rw [h1]
  try simp only [rfb] at h1
  have hne:=c9J h1
  refine r7 (hK2 _ ?_)
  clear hK2 K2
  refine c1 (λK5 hK5=>?_)
  refine b6 (a7 Z (b5 Z Z (b8 Z Z) (a7 Z (b5 Z Z (b8 Z Z) (a7 Z (b5 Z Z (p9 G Z Z Z) (a7 Z ?_)))))))
  refine d4 1 [0] Z Z Z (r3 h J (t.size:Int)) Z (RowsIn.cons Z RowsIn.nil) Z (λ_=>Z) Z (λx1 ⟨hv1,hc1⟩=>?_)
  have e1:(t.extract ((0:Int)).toNat x1.1.toNat).size<=t.size:=a2C
  have e2:(t.extract x1.1.toNat ((t.size:Int)).toNat).size<=t.size:=a2C
  have e3:(t.extract (x1.1+1).toNat ((t.size:Int)).toNat).size<=t.size:=a2C
  refine a7 Z (b5 Z Z (b9 Z Z) (b4 (hK5 _ ?_)))
  clear hK5 K5
  refine c1 (λK6 hK6=>?_)
  refine b6 (a7 Z (b5 Z Z (b8 Z Z) (a7 Z (b5 Z Z (b8 Z Z) (a7 Z (b5 Z Z (b8 Z Z) (a7 Z (b5 Z Z (p9 G Z Z Z) (a7 Z ?_)))))))))
  refine d4 1 [0] Z Z Z (r3 hc1 J (w.size:Int)) Z (RowsIn.cons Z RowsIn.nil) Z (λ_=>Z) Z (λx2 ⟨hv2,hc2⟩=>?_)
  have hwz:(w.extract x2.1.toNat ((w.size:Int)).toNat).size=w.size - x2.1.toNat:=(by rw [show ((w.size:Int)).toNat=w.size from rfl,U2 (Nat.le_refl _)])
  have e4:((w.extract x2.1.toNat ((w.size:Int)).toNat).extract ((0:Int)).toNat ((1:Int)).toNat).size<=(w.extract x2.1.toNat ((w.size:Int)).toNat).size:=a2C
  refine a7 Z (b5 Z Z (z8 G Z Z Z Z Z J J J) (a7 Z (b5 Z Z (z8 G Z Z Z Z Z J J J) (a7 Z (b5 Z Z (b9 Z Z) (b4 (hK6 _ ?_)))))))
  clear hK6 K6
  refine c1 (λK7 hK7=>?_)
  refine c1 (λK8 hK8=>?_)
  refine b6 (a7 Z (b5 Z Z (b8 Z Z) (a7 Z ?_)))
  refine d4 1 [0] Z Z Z (r3 hc2 J (3)) Z (RowsIn.cons Z RowsIn.nil) Z (λ_=>Z) Z (λx3 ⟨hv3,hc3⟩=>?_)
  refine b4 (hK8 _ ?_)
  clear hK8 K8
  refine p8 ?_
  refine c1 (λK9 hK9=>?_)
  refine b6 (a7 Z (b5 Z Z (u4 Z Z Z Z) (a7 Z (b5 Z Z (b9 Z Z) (b4 (hK9 _ ?_))))))
  clear hK9 K9
  refine l1 Z (λh2=>?_) (λh2=>?_)
  ·try rw [h2]
   try simp only [rfb] at h2
   refine c1 (λK10 hK10=>?_)
   refine S5 mixed Y (d8 Z (l8 Z Z (b8 Z Z) (d8 Z (l8 Z Z (b8 Z Z) (d8 Z (l8 Z Z (z8 G Z Z Z Z Z J J J) (d8 Z (l8 Z Z (b8 Z Z) (d8 Z (l8 Z Z (B0 Z Z Z (by (try simp only [ByteArray.size_append]);omega)) (d8 Z (l8 Z Z (b8 Z Z) (d8 Z (l8 Z Z (b8 Z Z) (d8 Z (l8 Z Z (z8 G Z Z Z Z Z J J J) (d8 Z (l8 Z Z (B0 Z Z Z (by (try simp only [ByteArray.size_append]);omega)) (d8 Z (l8 Z Z (b9 Z Z) (a03 (hK10 _ ?_))))))))))))))))))))))
   clear hK10 K10
   refine d7 (A3 ((t.extract ((0:Int)).toNat x1.1.toNat++((w.extract x2.1.toNat ((w.size:Int)).toNat).extract ((0:Int)).toNat ((1:Int)).toNat)++t.extract x1.1.toNat ((t.size:Int)).toNat,x3.2)) (o9 Z (i8 ?_) Z (AftOK.stays Z ?_ Z AftOK.nil)) (⟨?_,?_⟩))
   all_goals clear hK7 K7
   all_goals (first | rfl | exact hc3.mono J | (show ByteArray.size _<=_;(try simp only [ByteArray.size_append]);omega))
  ·try rw [h2]
   try simp only [rfb] at h2
   refine c1 (λK11 hK11=>?_)
   refine b6 (a7 Z (b5 Z Z (u4 Z Z Z Z) (a7 Z (b5 Z Z (b9 Z Z) (b4 (hK11 _ ?_))))))
   clear hK11 K11
   refine l1 Z (λh3=>?_) (λh3=>?_)
   ·try rw [h3]
    try simp only [rfb] at h3
    refine c1 (λK12 hK12=>?_)
    refine S5 mixed Y (d8 Z (l8 Z Z (b8 Z Z) (d8 Z (l8 Z Z (b8 Z Z) (d8 Z (l8 Z Z (z8 G Z Z Z Z Z J J J) (d8 Z (l8 Z Z (b8 Z Z) (d8 Z (l8 Z Z (B0 Z Z Z (by (try simp only [ByteArray.size_append]);omega)) (d8 Z (l8 Z Z (b8 Z Z) (d8 Z (l8 Z Z (b8 Z Z) (d8 Z ?_)))))))))))))))
    first | refine l8 Z Z (q9 Z Z Z Z J J) ?_ | refine l8 Z Z (s6 Z Z Z Z) ?_
    refine d8 Z (l8 Z Z (z8 G Z Z Z Z Z J J J) (d8 Z (l8 Z Z (B0 Z Z Z (by (try simp only [ByteArray.size_append]);omega)) (d8 Z (l8 Z Z (b9 Z Z) (a03 (hK12 _ ?_)))))))
    clear hK12 K12
    refine d7 (A3 ((t.extract ((0:Int)).toNat x1.1.toNat++((w.extract x2.1.toNat ((w.size:Int)).toNat).extract ((0:Int)).toNat ((1:Int)).toNat)++t.extract (x1.1+1).toNat ((t.size:Int)).toNat,x3.2)) (o9 Z (i8 ?_) Z (AftOK.stays Z ?_ Z AftOK.nil)) (⟨?_,?_⟩))
    all_goals clear hK7 K7
    all_goals (first | rfl | exact hc3.mono J | (show ByteArray.size _<=_;(try simp only [ByteArray.size_append]);omega))
   ·try rw [h3]
    try simp only [rfb] at h3
    refine r7 (hK7 _ ?_)
    clear hK7 K7
    refine c1 (λK13 hK13=>?_)
    refine S5 mixed Y (d8 Z (l8 Z Z (b8 Z Z) (d8 Z (l8 Z Z (b8 Z Z) (d8 Z (l8 Z Z (z8 G Z Z Z Z Z J J J) (d8 Z (l8 Z Z (b8 Z Z) (d8 Z (l8 Z Z (b8 Z Z) (d8 Z ?_)))))))))))
    first | refine l8 Z Z (q9 Z Z Z Z J J) ?_ | refine l8 Z Z (s6 Z Z Z Z) ?_
    refine d8 Z (l8 Z Z (z8 G Z Z Z Z Z J J J) (d8 Z (l8 Z Z (B0 Z Z Z (by (try simp only [ByteArray.size_append]);omega)) (d8 Z (l8 Z Z (b9 Z Z) (a03 (hK13 _ ?_)))))))
    clear hK13 K13
    refine d7 (A3 ((t.extract ((0:Int)).toNat x1.1.toNat++t.extract (x1.1+1).toNat ((t.size:Int)).toNat,x3.2)) (o9 Z (i8 ?_) Z (AftOK.stays Z ?_ Z AftOK.nil)) (⟨?_,?_⟩))
    all_goals (first | rfl | exact hc3.mono J | (show ByteArray.size _<=_;(try simp only [ByteArray.size_append]);omega))
theorem a0k {x:Cur} {n:Int} (h:okC n x) (hn:n<=880000000000):CtrX (α:=Lg×Cur) Tryz.prog 61 [.ptr 0 0] [.box [.lst 1 (x.c.map B1),.v (.int .i64 x.a),.v (.int .u64 x.s)]] (λy=>(y.1.d.size+y.1.p.size<=1048576)/\okC (n+400) y.2) (λy=>.one (.v (a4F y.1))) (λy=>[some (.box [.lst 1 (y.2.c.map B1),.v (.int .i64 y.2.a),.v (.int .u64 y.2.s)])]):=by
 refine CtrX.of (n:=30) (k:=1) G Tryz.func61 Z Y Z Z Z Z (λ_=>Z) Z Z (λw0 _ hpin=>?_)
 refine c1 (λK1 hK1=>?_)
 refine b6 (a7 Z (d6 G 2 Z Z Z Z Z (b4 (hK1 _ ?_))))
 clear hK1 K1
 refine c1 (λK2 hK2=>?_)
 refine b6 (a7 Z (b5 Z Z (b8 Z Z) (a7 Z ?_)))
 refine d4 2 [0] Z Z Z (a6I h J) Z (RowsIn.cons Z RowsIn.nil) Z (λ_=>Z) Z (λx1 ⟨hv1,hc1⟩=>?_)
 refine a7 Z (d6 G 3 Z Z Z Z Z (a7 Z (f6 G Z Z Z Z Z Z Z Z Z Z Z (b4 (hK2 _ ?_)))))
 clear hK2 K2
 refine c1 (λK3 hK3=>?_)
 refine c1 (λK4 hK4=>?_)
 refine b6 (a7 Z (b5 Z Z (b8 Z Z) (a7 Z ?_)))
 refine d4 3 [0] Z Z Z (r3 hc1 J (24)) Z (RowsIn.cons Z RowsIn.nil) Z (λ_=>Z) Z (λx2 ⟨hv2,hc2⟩=>?_)
 refine b4 (hK4 _ ?_)
 clear hK4 K4
 refine p8 ?_
 refine c1 (λK5 hK5=>?_)
 refine b6 (a7 Z (b5 Z Z (u4 Z Z Z Z) (a7 Z (b5 Z Z (b9 Z Z) (b4 (hK5 _ ?_))))))
 clear hK5 K5
 refine l1 Z (λh1=>?_) (λh1=>?_)
 ·try rw [h1]
  try simp only [rfb] at h1
  refine b6 (a7 Z (b5 Z Z (d5 G Z Z Z Z) (a7 Z (b5 Z Z (f9 G Z Z Z Z Z Z Z) (a7 Z ?_)))))
  first | refine b5 Z Z (q9 Z Z Z Z J J) ?_ | refine b5 Z Z (s6 Z Z Z Z) ?_
  refine a7 Z (b5 Z Z (d5 G Z Z Z Z) (a7 Z (f6 G Z Z Z Z Z Z Z Z Z Z Z (b4 (hK3 _ ?_)))))
  clear hK3 K3
  refine c1 (λK6 hK6=>?_)
  refine b6 (a7 Z (b5 Z Z (c6 G Z Z Z Z Z Z) (a7 Z (f6 G Z Z Z Z Z Z Z Z Z Z Z (b4 (hK6 _ ?_))))))
  clear hK6 K6
  refine d7 (A3 ((⟨x1.1.d,x1.1.p,IntKind.i64.wrap (x1.1.n+1)⟩,x2.2)) (o9 Z (A8 Z ?_) Z (AftOK.stays Z ?_ Z AftOK.nil)) (⟨?_,?_⟩))
  all_goals (first | rfl | exact hc2.mono J | (show ByteArray.size _+ByteArray.size _<=1048576;(try simp only [ByteArray.size_append]);omega))
 ·try rw [h1]
  try simp only [rfb] at h1
  refine c1 (λK7 hK7=>?_)
  refine b6 (a7 Z (b5 Z Z (u4 Z Z Z Z) (a7 Z (b5 Z Z (b9 Z Z) (b4 (hK7 _ ?_))))))
  clear hK7 K7
  refine l1 Z (λh2=>?_) (λh2=>?_)
  ·try rw [h2]
   try simp only [rfb] at h2
   refine b6 (a7 Z (b5 Z Z (b8 Z Z) (a7 Z (b5 Z Z (d5 G Z Z Z Z) (a7 Z (b5 Z Z (f9 G Z Z Z Z Z Z Z) (a7 Z ?_)))))))
   refine d4 3 [0] Z Z Z (a4m hc2 J x1.1.p (⟨#[35,64,10,48,49]⟩:ByteArray) J (by decide)) Z (RowsIn.cons Z RowsIn.nil) Z (λ_=>Z) Z (λx3 ⟨hv3,hc3⟩=>?_)
   refine a7 Z (b5 Z Z (d5 G Z Z Z Z) (a7 Z (f6 G Z Z Z Z Z Z Z Z Z Z Z (b4 (hK3 _ ?_)))))
   clear hK3 K3
   refine c1 (λK8 hK8=>?_)
   refine b6 (a7 Z (b5 Z Z (c6 G Z Z Z Z Z Z) (a7 Z (f6 G Z Z Z Z Z Z Z Z Z Z Z (b4 (hK8 _ ?_))))))
   clear hK8 K8
   refine d7 (A3 ((⟨x1.1.d,x3.1,x1.1.n⟩,x3.2)) (o9 Z (A8 Z ?_) Z (AftOK.stays Z ?_ Z AftOK.nil)) (⟨?_,?_⟩))
   all_goals (first | rfl | exact hc3.mono J | (show ByteArray.size _+ByteArray.size _<=1048576;(try simp only [ByteArray.size_append]);omega))
  ·try rw [h2]
   try simp only [rfb] at h2
   refine c1 (λK9 hK9=>?_)
   refine b6 (a7 Z (b5 Z Z (u4 Z Z Z Z) (a7 Z (b5 Z Z (b9 Z Z) (b4 (hK9 _ ?_))))))
   clear hK9 K9
   refine l1 Z (λh3=>?_) (λh3=>?_)
   ·try rw [h3]
    try simp only [rfb] at h3
    refine b6 (a7 Z (b5 Z Z (d5 G Z Z Z Z) (a7 Z (b5 Z Z (f9 G Z Z Z Z Z Z Z) (a7 Z (b5 Z Z (d5 G Z Z Z Z) (a7 Z (b5 Z Z (f9 G Z Z Z Z Z Z Z) (a7 Z (b5 Z Z (B0 Z Z Z J) (a7 Z (b5 Z Z (d5 G Z Z Z Z) (a7 Z (f6 G Z Z Z Z Z Z Z Z Z Z Z (b4 (hK3 _ ?_))))))))))))))))
    clear hK3 K3
    refine c1 (λK10 hK10=>?_)
    refine b6 (a7 Z (b5 Z Z (c6 G Z Z Z Z Z Z) (a7 Z (f6 G Z Z Z Z Z Z Z Z Z Z Z (b4 (hK10 _ ?_))))))
    clear hK10 K10
    refine d7 (A3 ((⟨x1.1.d++x1.1.p,x1.1.p,x1.1.n⟩,x2.2)) (o9 Z (A8 Z ?_) Z (AftOK.stays Z ?_ Z AftOK.nil)) (⟨?_,?_⟩))
    all_goals (first | rfl | exact hc2.mono J | (show ByteArray.size _+ByteArray.size _<=1048576;(try simp only [ByteArray.size_append]);omega))
   ·try rw [h3]
    try simp only [rfb] at h3
    refine r7 (hK3 _ ?_)
    clear hK3 K3
    refine c1 (λK11 hK11=>?_)
    refine b6 (a7 Z (b5 Z Z (c6 G Z Z Z Z Z Z) (a7 Z (f6 G Z Z Z Z Z Z Z Z Z Z Z (b4 (hK11 _ ?_))))))
    clear hK11 K11
    refine d7 (A3 ((x1.1,x2.2)) (o9 Z (A8 Z ?_) Z (AftOK.stays Z ?_ Z AftOK.nil)) (⟨?_,?_⟩))
    all_goals (first | rfl | exact hc2.mono J | (show ByteArray.size _+ByteArray.size _<=1048576;(try simp only [ByteArray.size_append]);omega))
theorem F8 (l:List Int) (hn:l.length<=1048576):Ctr Tryz.prog 136 [.lst 1 (l.map Rf.s3)] (.one (.fr 3 1 (l.map Rf.s3))):=by
 refine Ctr.of (n:=6) G Tryz.func136 Z a8 Z Z Z (λw0=>?_)
 exact c5e
theorem I9 (l:List Int) (hn:l.length<=1048576):Ctr Tryz.prog 182 [.lst 1 (l.map Rf.s3)] (.one (.fr 3 1 (l.map Rf.s3))):=by
 refine Ctr.of (n:=6) G Tryz.func182 Z a8 Z Z Z (λw0=>?_)
 exact c5e
theorem a6J:S8 Tryz.prog 104 [.int .i64,.int .i64,.int .i64]=true:=by kernel_rfl
theorem a4d (x:Int):Ctr Tryz.prog 277 [.v (.int .i64 x)] (.one (.v (.bool (false)))):=by
 refine Ctr.of (n:=6) G Tryz.func277 Z a8 Z Z Z (λw0=>?_)
 refine zf1 ?_
 all_goals (simp)
theorem a2r (x y:Int):Ctr Tryz.prog 230 [.v (.int .i64 x),.v (.int .i64 y)] (.one (.v (.int .i64 (a6v x y)))):=by
 refine Ctr.of (n:=20) G Tryz.func230 Z a8 Z Z Z (λw0=>?_)
 refine zcl (a4d _) ?_
 refine zcl (a4d _) ?_
 refine zwf ?_
 refine zwf ?_
 refine zcd (λh1=>?_) (λh1=>?_)
 ·exact c1D
 refine zcd (λh2=>?_) (λh2=>?_)
 ·exact c1D
 exact c1D
theorem b4b (l:List Int) (hn:l.length<=1048576):Ctr Tryz.prog 229 [.lst 1 (l.map Rf.s3)] (.one (.v (.int .i64 (orI l)))):=by
 refine Ctr.of (n:=18) G Tryz.func229 Z a8 Z Z Z (λw0=>?_)
 refine zgo ?_
 refine i6 [3,6,7] [] (λ(i:Nat)=>[(8,.v (.int .i64 (i:Int)))]) (λ(i:Nat)=>[]) (λ(i:Nat)=>i<=l.length/\∀j,j < i→l.getD j default=0) (λ(i:Nat)=>l.length - i) 0 Z Z ?_ ?_ ?_ ?_
 ·exact T5
 ·exact C0
 ·exact trivial
 intro i hinv
 refine vm2 ?_
 refine zcd (λh1=>?_) (λh1=>?_)
 ·refine zcd (λh2=>?_) (λh2=>?_)
  ·refine zf1 ?_
   all_goals exact c4B
  exact c1v
 refine zf1 ?_
 all_goals exact c4B
theorem C5 (a b:Wtr):Ctr Tryz.prog 176 [.v (a56 a),.v (a56 b)] (.one (.v (.int .i64 (urg a b)))):=by
 refine Ctr.of (n:=17) G Tryz.func176 Z a8 Z Z Z (λw0=>?_)
 refine vm1 ?_
 refine b6F ?_
 refine zgn ?_
 refine t8 (j7 13 [0,1] mixed a8 Z Z (λr0=>?_) (λ_ h=>h))
 refine a1q ?_
 refine zsa 5 ?_
 refine zsa 6 ?_
 refine zsa 7 ?_
 refine zsa 8 ?_
 refine b7 (rs:=[4]) a8 Z (AllB.cons ?_ AllB.nil)
 refine g9 [0,1] Z Z (b5 Z Z (i7 Z (ArgsOK.of Z) (a2r _ _) Z) (b4 ⟨Z,?_⟩))
 refine b7 (rs:=[9]) a8 Z (AllB.cons ?_ AllB.nil)
 refine g9 [0,1] Z Z (b5 Z Z (i7 Z (ArgsOK.of Z) (a2r _ _) Z) (b4 ⟨Z,?_⟩))
 refine b7 (rs:=[10]) a8 Z (AllB.cons ?_ AllB.nil)
 refine g9 [0,1] Z Z (p6 G 3 Z Z Z Z Z Z Z Z (b4 ⟨Z,?_⟩))
 refine b7 (rs:=[11]) a8 Z (AllB.cons ?_ AllB.nil)
 refine g9 [0,1] Z Z (b5 Z Z (i7 Z (ArgsOK.of Z) (b4b [a6v a.p b.p,a6v a.q b.q] (by simp)) Z) (b4 ⟨Z,?_⟩))
 refine zsa 12 ?_
 refine H8 ?_
 refine zf1 ?_
 all_goals (rw [c2q])
theorem F7 (x:Slot):Ctr Tryz.prog 142 [.v (a9m x)] (.one (.v (a56 (wOf x)))):=by
 refine Ctr.of (n:=8) G Tryz.func142 Z a8 Z Z Z (λw0=>?_)
 refine vm1 ?_
 refine vm9 ?_
 refine zgo ?_
 refine d7 (P3 Z (A8 Z ?_))
 all_goals (rfl)
theorem U7 (a b c d:Int):Ctr Tryz.prog 260 [.v (.int .i64 a),.v (.int .i64 b),.v (.int .i64 c),.v (.int .i64 d)] (.one (.v (.bool (lessW ⟨b,a⟩ ⟨d,c⟩)))):=by
 refine Ctr.of (n:=22) G Tryz.func260 Z a8 Z Z Z (λw0=>?_)
 refine zcd (λh1=>?_) (λh1=>?_)
 ·exact c1I
 refine zcd (λh2=>?_) (λh2=>?_)
 ·exact c1I
 exact c1I
theorem a8b (x:Slot) (irq:Int):Ctr Tryz.prog 252 [.v (a9m x),.ept [.int .i64 irq]] (.one (.v (.bool (fdP irq x)))):=by
 refine Ctr.of (n:=13) G Tryz.func252 Z a8 Z Z Z (λw0=>?_)
 refine vm1 ?_
 refine zcd (λh1=>?_) (λh1=>?_)
 ·exact c5z
 exact c5z
theorem S3 (xs:List Slot) (f:Nat) (c:List Value) (p:Slot→Bool) (hl:xs.length<=1048576) (hf:∀i,i < xs.length→Ctr Tryz.prog f [.v (a9m (xs.getD i default)),.ept c] (.one (.v (.bool (p (xs.getD i default)))))):Ctr Tryz.prog 251 [.lst 3 (xs.map j4),.fnc f [.ept c]] (.one (.v (.int .i64 (O4 (λi=>p (xs.getD i default)) xs.length)))):=by
 exact c52
theorem O8 (xs:List Slot) (f:Nat)  (p:Slot→Bool) (hl:xs.length<=1048576) (hf:∀i,i < xs.length→Ctr Tryz.prog f [.v (a9m (xs.getD i default))] (.one (.v (.bool (p (xs.getD i default)))))):Ctr Tryz.prog 251 [.lst 3 (xs.map j4),.fnc f []] (.one (.v (.int .i64 (O4 (λi=>p (xs.getD i default)) xs.length)))):=by
 exact c52
theorem I6 (sl:List Slot) (irq:Int) (hl:sl.length<=1048576):Ctr Tryz.prog 195 [.lst 3 (sl.map j4),.v (.int .i64 irq)] (.one (.v (.int .i64 (r5 sl irq)))):=by
 refine Ctr.of (n:=8) G Tryz.func195 Z a8 Z Z Z (λw0=>?_)
 refine vm1 ?_
 refine vm3 ?_
 refine b5 Z Z (b0s Z Z) ?_
 refine zcl (S3 sl 252 [.int .i64 irq] (λx=>fdP irq x) hl (λk hk=>a8b _ _)) ?_
 exact a9r
theorem H3 (sl:List Slot) (irq:Int) (hl:sl.length<=1048576):Ctr Tryz.prog 214 [.lst 3 (sl.map j4),.v (.int .i64 irq)] (.one (.v (.int .i64 (r5 sl irq)))):=by
 refine Ctr.of (n:=28) G Tryz.func214 Z a8 Z Z Z (λw0=>?_)
 refine zgo ?_
 refine i6 [0,1] [] (λ(i:Nat)=>[(5,.v (.int .i64 (i:Int)))]) (λ(i:Nat)=>[]) (λ(i:Nat)=>i<=sl.length/\∀j,j < i→fdP irq (sl.getD j default)=false) (λ(i:Nat)=>sl.length - i) 0 Z Z ?_ ?_ ?_ ?_
 ·exact T5
 ·exact C0
 ·exact trivial
 intro i hinv
 refine vm2 ?_
 refine zcd (λh1=>?_) (λh1=>?_)
 ·refine zcd (λh2=>?_) (λh2=>?_)
  ·refine zcd (λh3=>?_) (λh3=>?_)
   ·refine zf1 ?_
    all_goals exact c4C
   exact c1G
  refine zwf ?_
  exact c1G
 refine zf1 ?_
 all_goals exact c4C
theorem a5R (x:Slot):Ctr Tryz.prog 284 [.v (a9m x)] (.one (.v (.bool (emP x)))):=by
 refine Ctr.of (n:=6) G Tryz.func284 Z a8 Z Z Z (λw0=>?_)
 exact c56
theorem a2s (sl:List Slot)  (hl:sl.length<=1048576):Ctr Tryz.prog 240 [.lst 3 (sl.map j4)] (.one (.v (.int .i64 (freS sl)))):=by
 refine Ctr.of (n:=5) G Tryz.func240 Z a8 Z Z Z (λw0=>?_)
 refine vm3 ?_
 refine b5 Z Z (i7 Z (ArgsOK.fn2 (ArgsOK.of Z)) (O8 sl 284 (λx=>emP x) hl (λk hk=>a5R _)) Z) ?_
 exact a9r
theorem a2N (sl:List Slot)  (hl:sl.length<=1048576):Ctr Tryz.prog 262 [.lst 3 (sl.map j4)] (.one (.v (.int .i64 (freS sl)))):=by
 refine Ctr.of (n:=17) G Tryz.func262 Z a8 Z Z Z (λw0=>?_)
 refine zgo ?_
 refine i6 [0] [] (λ(i:Nat)=>[(3,.v (.int .i64 (i:Int)))]) (λ(i:Nat)=>[]) (λ(i:Nat)=>i<=sl.length/\∀j,j < i→emP (sl.getD j default)=false) (λ(i:Nat)=>sl.length - i) 0 Z Z ?_ ?_ ?_ ?_
 ·exact T5
 ·exact C0
 ·exact trivial
 intro i hinv
 refine vm2 ?_
 refine zcd (λh1=>?_) (λh1=>?_)
 ·refine zcd (λh2=>?_) (λh2=>?_)
  ·refine zf1 ?_
   all_goals exact c4D
  exact c1G
 refine zf1 ?_
 all_goals exact c4D
theorem a9E (sl:List Slot)  (hl:sl.length<=1048576):Ctr Tryz.prog 237 [.lst 3 (sl.map j4)] (.one (.v (.bool (a6u sl)))):=by
 refine Ctr.of (n:=47) G Tryz.func237 Z a8 Z Z Z (λw0=>?_)
 refine zcd (λh1=>?_) (λh1=>?_)
 ·exact b8Y
 refine zgo ?_
 refine i6 [0,8,9] [] (λ(i:Nat)=>[(10,.v (.int .i64 (i:Int)))]) (λ(i:Nat)=>[]) (λ(i:Nat)=>i<=sl.length/\∀j,j < i→M6 sl j=true) (λ(i:Nat)=>sl.length - i) 0 Z Z ?_ ?_ ?_ ?_
 ·exact T5
 ·exact C0
 ·exact trivial
 intro i hinv
 refine vm2 ?_
 refine zcd (λh2=>?_) (λh2=>?_)
 ·refine a3p ?_
  refine zcd (λh3=>?_) (λh3=>?_)
  ·refine vm3 ?_
   refine b5 Z Z (b4A [.int .i64,.int .i64,.int .i64] Z Z Z Z Z Z Z (.inl Z) (.inl Z) a6J ⟨_,_,Z,⟨_,Z⟩,_,_,Z,⟨_,Z⟩,_,_,Z,⟨_,Z⟩,Z⟩ ⟨_,_,Z,⟨_,Z⟩,_,_,Z,⟨_,Z⟩,_,_,Z,⟨_,Z⟩,Z⟩) ?_
   refine zcd (λh4=>?_) (λh4=>?_)
   ·exact b8Y
   refine zgo ?_
   refine ⟨(i+1),?_,?_,⟨⟨_,Z,by rfl⟩,Z,trivial⟩,trivial,Z,Z,Z⟩
   ·exact c5c
   omega
  refine zgd ?_
  refine zcl (H4 _ _ _) ?_
  refine zcd (λh5=>?_) (λh5=>?_)
  ·refine zwt ?_
   exact b8Y
  refine zcl (a1r _) ?_
  refine zcd (λh6=>?_) (λh6=>?_)
  ·refine zwt ?_
   exact b8Y
  refine zcl (a0b _) ?_
  refine zcd (λh7=>?_) (λh7=>?_)
  ·refine zwt ?_
   exact b8Y
  refine zgo ?_
  refine c8c ?_
  refine zgo ?_
  refine b1M ?_
  refine l8 Z Z (i7 Z (ArgsOK.of (congrArg some (congrArg (λz=>[AV.lst 3 z,.v (.int .i64 (sl.getD i default).q)]) (a2W (xs:=sl) (i:=i))))) (Ctr.eq (I6 (sl.take i) _ n8) (congrArg (λz=>Res.one (.v (.int .i64 z))) (b9F J))) Z) ?_
  refine zcd (λh8=>?_) (λh8=>?_)
  ·exact b8Y
  refine zgo ?_
  refine ⟨(i+1),?_,?_,⟨⟨_,Z,by rfl⟩,Z,trivial⟩,trivial,Z,Z,Z⟩
  ·exact c5c
  omega
 refine zf1 ?_
 all_goals exact c4o
theorem a6e (sl:List Slot)  (hl:sl.length<=1048576):Ctr Tryz.prog 261 [.lst 3 (sl.map j4)] (.one (.v (.bool (a6u sl)))):=by
 refine Ctr.of (n:=60) G Tryz.func261 Z a8 Z Z Z (λw0=>?_)
 refine zgo ?_
 refine i6 [0] [] (λ(i:Nat)=>[(3,.v (.int .i64 (i:Int)))]) (λ(i:Nat)=>[]) (λ(i:Nat)=>i<=sl.length/\∀j,j < i→M6 sl j=true) (λ(i:Nat)=>sl.length - i) 0 Z Z ?_ ?_ ?_ ?_
 ·exact T5
 ·exact C0
 ·exact trivial
 intro i hinv
 refine vm2 ?_
 refine zcd (λh1=>?_) (λh1=>?_)
 ·refine a3p ?_
  refine b38 ?_
  refine zcd (λh2=>?_) (λh2=>?_)
  ·refine zwt ?_
   exact b8X
  refine zcl (a1s _) ?_
  refine zcd (λh3=>?_) (λh3=>?_)
  ·refine zwt ?_
   exact b8X
  refine zcl (a0J _) ?_
  refine zcd (λh4=>?_) (λh4=>?_)
  ·exact b8X
  refine zcd (λh5=>?_) (λh5=>?_)
  ·refine zcd (λh6=>?_) (λh6=>?_)
   ·refine zwt ?_
    exact b8X
   refine zcd (λh7=>?_) (λh7=>?_)
   ·refine zwt ?_
    exact b8X
   exact c5S
  exact c5S
 refine zf1 ?_
 all_goals exact c4n
theorem a08 (sl:List Slot) (i:Int) (x:Slot) (hl:sl.length<=1048576) (hi:0<=i/\i < sl.length):Ctr Tryz.prog 298 [.lst 3 (sl.map j4),.v (.int .i64 i),.v (a9m x)] (.one (.fr 104 3 ((sl.set i.toNat x).map j4))):=by
 refine Ctr.of (n:=16) G Tryz.func298 Z a8 Z Z Z (λw0=>?_)
 exact d0A
theorem O2 (sl:List Slot) (i:Int) (x:Slot) (hl:sl.length<=1048576) (hi:0<=i/\i < sl.length):Ctr Tryz.prog 290 [.lst 3 (sl.map j4),.v (.int .i64 i),.v (a9m x)] (.one (.fr 104 3 ((sl.set i.toNat x).map j4))):=by
 refine Ctr.of (n:=16) G Tryz.func290 Z a8 Z Z Z (λw0=>?_)
 exact d0A
theorem X0 (sl:List Slot) (most:Bool) (hl:sl.length<=1048576) (hd:b9D sl):Ctr Tryz.prog 239 [.lst 3 (sl.map j4),.v (.bool most)] (.one (.v (.int .i64 (bstS sl most)))):=by
 refine Ctr.of (n:=38) G Tryz.func239 Z a8 Z Z Z (λw0=>?_)
 refine zgo ?_
 refine i6 [0,1,8,9] [] (λ(i:Nat)=>[(5,.v (.int .i64 (G0 sl most i))),(10,.v (.int .i64 (i:Int)))]) (λ(i:Nat)=>[]) (λ(i:Nat)=>i<=sl.length) (λ(i:Nat)=>sl.length - i) 0 Z Z ?_ ?_ ?_ ?_
 ·exact P9
 ·exact Z8
 ·exact trivial
 intro i hinv
 have hb:=@a1n sl most i
 refine vm2 ?_
 refine zcd (λh1=>?_) (λh1=>?_)
 ·refine a3p ?_
  refine zgd ?_
  refine zcd (λh2=>?_) (λh2=>?_)
  ·refine zcd (λh3=>?_) (λh3=>?_)
   ·refine zwt ?_
    exact c3s
   refine zcl (F7 _) ?_
   refine zcl (F7 _) ?_
   refine zcl (C5 _ _) ?_
   refine zgo ?_
   refine b1M ?_
   refine l8 Z Z (c8F (G 4 _ Z).1 Z Z Z) ?_
   refine zcd (λh4=>?_) (λh4=>?_)
   ·exact c3s
   exact c3s
  refine zwf ?_
  exact c3s
 refine zf1 ?_
 all_goals ((rw [b3t J]))
theorem a09 (sl:List Slot) (hl:sl.length<=1048576):Ctr Tryz.prog 263 [.lst 3 (sl.map j4),.v (.bool true)] (.one (.v (.int .i64 (bstS sl true)))):=by
 refine Ctr.of (n:=66) G Tryz.func263 Z a8 Z Z Z (λw0=>?_)
 refine zgo ?_
 refine i6 [0,1] [] (λ(i:Nat)=>[(5,.v (.int .i64 (G0 sl true i))),(6,.v (.int .i64 (i:Int)))]) (λ(i:Nat)=>[]) (λ(i:Nat)=>i<=sl.length) (λ(i:Nat)=>sl.length - i) 0 Z Z ?_ ?_ ?_ ?_
 ·exact P9
 ·exact Z8
 ·exact trivial
 intro i hinv
 have hb:=@a1n sl true i
 refine vm2 ?_
 refine zcd (λh1=>?_) (λh1=>?_)
 ·refine a3p ?_
  refine zcd (λh2=>?_) (λh2=>?_)
  ·exact ws7
  refine zgd ?_
  refine zcd (λh3=>?_) (λh3=>?_)
  ·refine zwt ?_
   exact ws7
  refine zcl (U7 _ _ _ _) ?_
  refine zcd (λh4=>?_) (λh4=>?_)
  ·refine zwt ?_
   exact ws7
  refine zwf ?_
  exact ws7
 refine zf1 ?_
 all_goals ((rw [b3t J]))
theorem a4e (sl:List Slot) (hl:sl.length<=1048576):Ctr Tryz.prog 263 [.lst 3 (sl.map j4),.v (.bool false)] (.one (.v (.int .i64 (bstS sl false)))):=by
 refine Ctr.of (n:=66) G Tryz.func263 Z a8 Z Z Z (λw0=>?_)
 refine zgo ?_
 refine i6 [0,1] [] (λ(i:Nat)=>[(5,.v (.int .i64 (G0 sl false i))),(6,.v (.int .i64 (i:Int)))]) (λ(i:Nat)=>[]) (λ(i:Nat)=>i<=sl.length) (λ(i:Nat)=>sl.length - i) 0 Z Z ?_ ?_ ?_ ?_
 ·exact P9
 ·exact Z8
 ·exact trivial
 intro i hinv
 have hb:=@a1n sl false i
 refine vm2 ?_
 refine zcd (λh1=>?_) (λh1=>?_)
 ·refine a3p ?_
  refine zcd (λh2=>?_) (λh2=>?_)
  ·exact ws7
  refine zgd ?_
  refine zcd (λh3=>?_) (λh3=>?_)
  ·refine zwt ?_
   exact ws7
  refine zcl (U7 _ _ _ _) ?_
  refine zcd (λh4=>?_) (λh4=>?_)
  ·exact ws7
  exact ws7
 refine zf1 ?_
 all_goals ((rw [b3t J]))
theorem a49 (x:Wtr) (irq:Int):Ctr Tryz.prog 283 [.v (a56 x),.ept [.int .i64 irq]] (.one (.v (.bool (decide (x.q=irq))))):=by
 refine Ctr.of (n:=8) G Tryz.func283 Z a8 Z Z Z (λw0=>?_)
 exact c56
theorem N0 (xs:List Wtr) (f:Nat) (c:List Value) (p:Wtr→Bool) (hl:xs.length<=1048576) (hf:∀i,i < xs.length→Ctr Tryz.prog f [.v (a56 (xs.getD i default)),.ept c] (.one (.v (.bool (p (xs.getD i default)))))):Ctr Tryz.prog 196 [.lst 2 (xs.map j8),.fnc f [.ept c]] (.one (.v (.int .i64 (O4 (λi=>p (xs.getD i default)) xs.length)))):=by
 exact c54
theorem a10 (wa:List Wtr) (irq:Int) (hw:wa.length<=1048576):Ctr Tryz.prog 238 [.lst 2 (wa.map j8),.v (.int .i64 irq)] (.one (.v (.int .i64 (inW wa irq)))):=by
 refine Ctr.of (n:=8) G Tryz.func238 Z a8 Z Z Z (λw0=>?_)
 refine vm1 ?_
 refine vm3 ?_
 refine b5 Z Z (b0s Z Z) ?_
 refine zcl (N0 wa 283 [.int .i64 irq] (λx=>decide (x.q=irq)) hw (λk hk=>a49 _ _)) ?_
 exact a9r
theorem b4c (wa:List Wtr) (irq:Int) (hw:wa.length<=1048576):Ctr Tryz.prog 257 [.lst 2 (wa.map j8),.v (.int .i64 irq)] (.one (.v (.int .i64 (inW wa irq)))):=by
 refine Ctr.of (n:=20) G Tryz.func257 Z a8 Z Z Z (λw0=>?_)
 refine zgo ?_
 refine i6 [0,1] [] (λ(i:Nat)=>[(5,.v (.int .i64 (i:Int)))]) (λ(i:Nat)=>[]) (λ(i:Nat)=>i<=wa.length/\∀j,j < i→decide ((wa.getD j default).q=irq)=false) (λ(i:Nat)=>wa.length - i) 0 Z Z ?_ ?_ ?_ ?_
 ·exact T5
 ·exact C0
 ·exact trivial
 intro i hinv
 refine vm2 ?_
 refine zcd (λh1=>?_) (λh1=>?_)
 ·refine zcd (λh2=>?_) (λh2=>?_)
  ·refine zf1 ?_
   all_goals exact c4E
  refine zgo ?_
  refine ⟨(i+1),?_,?_,⟨⟨_,Z,by rfl⟩,Z,trivial⟩,trivial,Z,Z,Z⟩
  ·exact ⟨by omega,s4 hinv.2 (decide_eq_false j6)⟩
  omega
 refine zf1 ?_
 all_goals exact c4E
end Go.Proofs.YtdhckhjphmjniaaGreatDoor
