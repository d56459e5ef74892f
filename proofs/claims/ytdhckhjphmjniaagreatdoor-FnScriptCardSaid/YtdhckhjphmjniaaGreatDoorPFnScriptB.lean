/- Texts merged into one: L5, L6, L7, G1, W5, M1, M2. -/
import Derived.Test.YtdhckhjphmjniaaGreatDoorPFnScriptA
set_option maxHeartbeats 4000000
set_option linter.unusedSimpArgs false
set_option linter.unusedVariables false
set_option maxRecDepth 20000
namespace Go.Proofs.YtdhckhjphmjniaaGreatDoor
open Go Go.Rf
theorem a4D (s:ByteArray) (hs:s.size<=1048576):Ctr Tryz.prog 94 [.v (.string s)] (.many [.fr 48 2 ((pre (a6S s) (z8 s)).map a8L),.v (.int .i64 (W9 s (z8 s)))]):=by
 refine Ctr.of (n:=52) G Tryz.func94 Z Y Z Z Z (λw0=>?_)
 refine c1 (λK1 hK1=>?_)
 refine b6 (a7 Z (b5 Z Z (b8 Z Z) (a7 Z (b5 Z Z (b8 Z Z) (b4 (hK1 _ ?_))))))
 clear hK1 K1
 refine c1 (λK2 hK2=>?_)
 refine b6 (a7 Z (m5 G 1 Z Z Z Z Z Z Z Z (a7 Z (b5 Z Z (b8 Z Z) (b4 (hK2 _ ?_))))))
 clear hK2 K2
 refine c1 (λK3 hK3=>?_)
 refine b6 (a7 Z (b5 Z Z (b8 Z Z) (b4 (hK3 _ ?_))))
 clear hK3 K3
 refine c1 (λK4 hK4=>?_)
 refine o7 ?_
 refine i7 [0] [] (λ(n:Nat)=>[(4,.own 0),(5,.v (.int .i64 (W9 s n)))]) (λ(n:Nat)=>[(0,some (.row 48 2 ((pre (a6S s) n).map a8L)))]) (λ(n:Nat)=>∀j,j < n→okN s j=true) (λ(n:Nat)=>60 - n) 0 Z Z ?_ ?_ ?_ ?_
 ·exact λj hj=>by omega
 ·exact a0O
 ·exact a07
 ·intro n hinv
  have hp:=b2p hinv
  have hpi:W9 s n=(E2 s n:Int):=rfl
  obtain ⟨hs1,hs2⟩:=R3 (s:=H4 s n) (b:=10)
  have hl1:=F7 (s:=H4 s n) (b:=10)
  have hre:(H4 s n).size<=s.size:=a3t
  have hll:(S2 s n).size<=(H4 s n).size:=a1c
  have hln:(i6 (H4 s n) 10).getD ((0:Int)).toNat default=S2 s n:=hs1
  have hlz:((i6 (H4 s n) 10).getD ((0:Int)).toNat default).size<=(H4 s n).size:=(by rw [hln];omega)
  have hpl:((pre (a6S s) n).length:Int)=n:=(by simp [U1])
  simp only [List.cons_append,List.nil_append]
  refine c1 (λK5 hK5=>?_)
  refine c1 (λK6 hK6=>?_)
  refine b6 (a7 Z (b5 Z Z (b9 Z Z) (a7 Z (b5 Z Z (b9 Z Z) (a7 Z (b5 Z Z (r5 G Z Z Z) (a7 Z (b5 Z Z (t8 Z Z Z Z) (a7 Z (b5 Z Z (b9 Z Z) (A5 Z Z Z (λh1=>?_) (λh1=>?_))))))))))))
  ·try rw [h1]
   try simp only [rfb] at h1
   refine o9 Z Z Z (b5 Z Z (b9 Z Z) (o9 Z Z Z ?_))
   first | refine b5 Z Z (E1 G Z Z Z Z (List.length_map _)) ?_ | refine b5 Z Z (K0 G Z Z Z Z) ?_
   refine o9 Z Z Z (b5 Z Z (t8 Z Z Z Z) (a7 Z (b5 Z Z (w5 Z Z Z) (b4 (hK6 _ ?_)))))
   clear hK6 K6
   refine l4 Z (λh2=>?_) (λh2=>?_)
   ·try rw [h2]
    try simp only [rfb] at h2
    refine p8 (hK5 _ ?_)
    clear hK5 K5
    refine o7 ?_
    refine c1 (λK7 hK7=>?_)
    refine b6 (a7 Z (b5 Z Z (b9 Z Z) (a7 Z (b5 Z Z (b9 Z Z) (a7 Z (b5 Z Z (z6 G Z Z Z Z Z J J J) (a7 Z (d4 2 Z Z Z (ArgsOK.of Z) (J0 _ 10 (Nat.le_trans a3t hs)) Z Z (a7 Z (b5 Z Z (b8 Z Z) (b4 (hK7 _ ?_))))))))))))
    clear hK7 K7
    rw [b3H]
    refine c1 (λK8 hK8=>?_)
    refine b6 (a7 Z (b5 Z Z (b9 Z Z) (a7 Z ?_)))
    first | refine b5 Z Z (c7 G Z Z Z Z Z J (by simp;omega)) ?_ | refine b5 Z Z (c7 G Z Z Z Z Z J J) ?_
    refine a7 Z (b5 Z Z (f8 G Z Z Z Z Z (A1 J (by simp;omega)) Z) (a7 Z (b5 Z Z (b9 Z Z) (a7 Z ?_))))
    first | refine b5 Z Z (E1 G Z Z Z Z (List.length_map _)) ?_ | refine b5 Z Z (K0 G Z Z Z Z) ?_
    refine a7 Z (b5 Z Z (j4 Z (ArgsOK.of Z) (b0F _ _ (by rw [hln];omega) J J) Z) (a7 Z (b5 Z Z (b9 Z Z) (a7 Z (b5 Z Z (i1 Z Z Z) (a7 Z (b5 Z Z (i1 Z Z Z) (a7 Z (d7 G 3 Z Z Z Z Z (a7 Z (e9 G Z Z Z Z Z Z Z Z Z Z Z (a7 Z (b5 Z Z (b8 Z Z) (b4 (hK8 _ ?_)))))))))))))))
    clear hK8 K8
    rw [hln,hpl]
    refine c1 (λK9 hK9=>?_)
    refine c1 (λK10 hK10=>?_)
    refine b6 (a7 Z (b5 Z Z (b9 Z Z) (a7 Z ?_)))
    first | refine b5 Z Z (E1 G Z Z Z Z (List.length_map _)) ?_ | refine b5 Z Z (K0 G Z Z Z Z) ?_
    refine a7 Z (b5 Z Z (t8 Z Z Z Z) (a7 Z (b5 Z Z (b9 Z Z) (A5 Z Z Z (λh3=>?_) (λh3=>?_)))))
    ·try rw [h3]
     try simp only [rfb] at h3
     have hN:=a3s hinv (c40 J)
     refine l7 Z Z Z Z Z Z (l7 Z Z Z Z Z Z (a7 Z (b5 Z Z (w5 Z Z Z) (b4 (hK10 _ ?_)))))
     clear hK10 K10
     refine J4 Z (G2 (hK4 _ ?_))
     clear hK9 K9 hK4 K4
     refine c1 (λK11 hK11=>?_)
     refine b6 (a7 Z (b5 Z Z (b9 Z Z) (a7 Z (b5 Z Z (b9 Z Z) (a7 Z (b5 Z Z (b8 Z Z) (a7 Z (b5 Z Z (b8 Z Z) (b4 (hK11 _ ?_))))))))))
     clear hK11 K11
     exact b6J
    ·try rw [h3]
     try simp only [rfb] at h3
     refine o9 Z Z Z (b5 Z Z (b9 Z Z) (o9 Z Z Z (b5 Z Z (a1z Z Z) (a7 Z (b5 Z Z (A6 Z Z Z) (b4 (hK10 _ ?_)))))))
     clear hK10 K10
     refine l4 Z (λh4=>?_) (λh4=>?_)
     ·try rw [h4]
      try simp only [rfb] at h4
      have hN:=a3s hinv (c41 h4)
      refine G2 (hK4 _ ?_)
      clear hK9 K9 hK4 K4
      refine c1 (λK12 hK12=>?_)
      refine b6 (a7 Z (b5 Z Z (b9 Z Z) (a7 Z (b5 Z Z (b9 Z Z) (a7 Z (b5 Z Z (b8 Z Z) (a7 Z (b5 Z Z (b8 Z Z) (b4 (hK12 _ ?_))))))))))
      clear hK12 K12
      exact b6J
     ·try rw [h4]
      try simp only [rfb] at h4
      have hok:=c7n (s:=s) (n:=n) J J h4
      refine p8 (hK9 _ ?_)
      clear hK9 K9
      refine c1 (λK13 hK13=>?_)
      refine b6 (a7 Z (b5 Z Z (b9 Z Z) (a7 Z (b5 Z Z (d1 G Z Z Z Z Z Z) (a7 Z (m5 G 4 Z Z Z Z Z Z Z Z (a7 Z (l1 G np Z Z Z Z Z Z Z Z Z (by simp [U1];omega) Z Z (a7 Z (b5 Z Z (b8 Z Z) (b4 (hK13 _ ?_))))))))))))
      clear hK13 K13
      refine b6 (a7 Z (b5 Z Z (b9 Z Z) (a7 Z (b5 Z Z (b9 Z Z) (a7 Z ?_)))))
      first | refine b5 Z Z (c7 G Z Z Z Z Z J (by simp;omega)) ?_ | refine b5 Z Z (c7 G Z Z Z Z Z J J) ?_
      refine a7 Z (b5 Z Z (f8 G Z Z Z Z Z (A1 J (by simp;omega)) Z) (a7 Z (b5 Z Z (r5 G Z Z Z) (a7 Z ?_))))
      first | refine b5 Z Z (p5 Z Z Z Z J J) ?_ | refine b5 Z Z (s3 Z Z Z Z) ?_
      refine a7 Z ?_
      first | refine b5 Z Z (p5 Z Z Z Z J J) ?_ | refine b5 Z Z (s3 Z Z Z Z) ?_
      refine a7 Z (b5 Z Z (b8 Z Z) ?_)
      refine b4 ⟨(n+1),?_,?_,⟨⟨_,Z,by (first | exact (rfl:AV.own 0=AV.own 0) | (rw [hln,b1q (s:=s) (n:=n)];done))⟩,Z,⟨⟨_,Z,by (first | exact (rfl:AV.own 0=AV.own 0) | (rw [hln,b1q (s:=s) (n:=n)];done))⟩,Z,trivial⟩⟩,⟨⟨_,Z,by (exact congrArg (Row.row _ _) (a4e (g:=a6S s) (f:=a8L) (i:=n)))⟩,Z,Z,trivial⟩,Z,Z,Z⟩
      ·exact s4 hinv hok
      ·omega
   ·try rw [h2]
    try simp only [rfb] at h2
    have hN:=a3s hinv (c4Z J)
    refine G2 (hK4 _ ?_)
    clear hK5 K5 hK4 K4
    refine c1 (λK14 hK14=>?_)
    refine b6 (a7 Z (b5 Z Z (b9 Z Z) (a7 Z (b5 Z Z (b9 Z Z) (a7 Z (b5 Z Z (b8 Z Z) (a7 Z (b5 Z Z (b8 Z Z) (b4 (hK14 _ ?_))))))))))
    clear hK14 K14
    exact b6J
  ·try rw [h1]
   try simp only [rfb] at h1
   have hN:=a3s hinv (b74 J)
   refine l7 Z Z Z Z Z Z (l7 Z Z Z Z Z Z (l7 Z Z Z Z Z Z (a7 Z (b5 Z Z (A6 Z Z Z) (b4 (hK6 _ ?_))))))
   clear hK6 K6
   refine a27 Z (G2 (hK4 _ ?_))
   clear hK5 K5 hK4 K4
   refine c1 (λK15 hK15=>?_)
   refine b6 (a7 Z (b5 Z Z (b9 Z Z) (a7 Z (b5 Z Z (b9 Z Z) (a7 Z (b5 Z Z (b8 Z Z) (a7 Z (b5 Z Z (b8 Z Z) (b4 (hK15 _ ?_))))))))))
   clear hK15 K15
   exact b6J
theorem a6l (s:ByteArray) (hs:s.size<=1048576):Ctr Tryz.prog 52 [.v (.string s)] (.many [.fr 48 2 ((pre (a6S s) (z8 s)).map a8L),.fr 3 1 ((pre (W9 s) (z8 s+1)).map Rf.r7)]):=by
 refine Ctr.of (n:=37) G Tryz.func52 Z Y Z Z Z (λw0=>?_)
 refine c1 (λK1 hK1=>?_)
 refine b6 (a7 Z (b5 Z Z (b8 Z Z) (a7 Z (b5 Z Z (b8 Z Z) (b4 (hK1 _ ?_))))))
 clear hK1 K1
 refine c1 (λK2 hK2=>?_)
 refine b6 (a7 Z (m5 G 1 Z Z Z Z Z Z Z Z (a7 Z (m5 G 2 Z Z Z Z Z Z Z Z (a7 Z (b5 Z Z (b8 Z Z) (a7 Z (b5 Z Z (b8 Z Z) (a7 Z (b5 Z Z (b8 Z Z) (b4 (hK2 _ ?_))))))))))))
 clear hK2 K2
 refine o7 ?_
 refine i7 [0] [] (λ(n:Nat)=>[(4,.own 0),(5,.own 1),(6,.v (.int .i64 (W9 s n)))]) (λ(n:Nat)=>[(0,some (.row 48 2 ((pre (a6S s) n).map a8L))),(1,some (.row 3 1 ((pre (W9 s) (n+1)).map Rf.r7)))]) (λ(n:Nat)=>∀j,j < n→okN s j=true) (λ(n:Nat)=>61 - n) 0 Z Z ?_ ?_ ?_ ?_
 ·exact λj hj=>by omega
 ·exact c33
 ·exact b3e
 ·intro n hinv
  have hp:=b2p hinv
  have hpi:W9 s n=(E2 s n:Int):=rfl
  have hre:(H4 s n).size<=s.size:=a3t
  have hll:(S2 s n).size<=(H4 s n).size:=a1c
  have hpl:((pre (a6S s) n).length:Int)=n:=(by simp [U1])
  simp only [List.cons_append,List.nil_append]
  refine o7 ?_
  refine c1 (λK3 hK3=>?_)
  refine b6 (a7 Z (b5 Z Z (b9 Z Z) (a7 Z (b5 Z Z (b9 Z Z) (a7 Z (b5 Z Z (z6 G Z Z Z Z Z J J J) (a7 Z (b5 Z Z (b9 Z Z) (a7 Z ?_)))))))))
  first | refine b5 Z Z (E1 G Z Z Z Z (List.length_map _)) ?_ | refine b5 Z Z (K0 G Z Z Z Z) ?_
  refine a7 Z (b5 Z Z (j4 Z (ArgsOK.of Z) (a7A _ _ (Nat.le_trans a3t hs) J J) Z) (a7 Z (b5 Z Z (b9 Z Z) (a7 Z (b5 Z Z (i1 Z Z Z) (a7 Z (b5 Z Z (i1 Z Z Z) (a7 Z (b5 Z Z (i1 Z Z Z) (a7 Z (d7 G 3 Z Z Z Z Z (a7 Z (e9 G Z Z Z Z Z Z Z Z Z Z Z (a7 Z (b5 Z Z (b8 Z Z) (a7 Z (b5 Z Z (b8 Z Z) (b4 (hK3 _ ?_)))))))))))))))))))
  clear hK3 K3
  refine c1 (λK4 hK4=>?_)
  refine c1 (λK5 hK5=>?_)
  refine b6 (a7 Z (b5 Z Z (b9 Z Z) (a7 Z (b5 Z Z (a1z Z Z) (b4 (hK5 _ ?_))))))
  clear hK5 K5
  rw [b3H,hpl]
  refine l4 Z (λh1=>?_) (λh1=>?_)
  ·try rw [h1]
   try simp only [rfb] at h1
   have hN:=a3s hinv h1
   refine c1 (λK6 hK6=>?_)
   refine b6 (a7 Z (b5 Z Z (b9 Z Z) (a7 Z (b5 Z Z (b9 Z Z) (a7 Z (b5 Z Z (b8 Z Z) (a7 Z (b5 Z Z (b8 Z Z) (b4 (hK6 _ ?_))))))))))
   clear hK6 K6
   refine d8 (r4 Z Z Z Z (b3 (c8 Z ?_) (b3 (c8 Z ?_) d9)))
   all_goals clear hK4 K4
   all_goals ((rw [hN]))
  ·try rw [h1]
   try simp only [rfb] at h1
   have hok:okN s n=true:=h1
   obtain ⟨he1,he2⟩:=c42 hok
   rw [he1,he2]
   have hb1:=a9y hok
   refine p8 (hK4 _ ?_)
   clear hK4 K4
   refine c1 (λK7 hK7=>?_)
   refine b6 (a7 Z (b5 Z Z (b9 Z Z) (a7 Z (b5 Z Z (b9 Z Z) (a7 Z ?_)))))
   first | refine b5 Z Z (p5 Z Z Z Z J J) ?_ | refine b5 Z Z (s3 Z Z Z Z) ?_
   refine a7 Z (b5 Z Z (b8 Z Z) (b4 (hK7 _ ?_)))
   clear hK7 K7
   refine c1 (λK8 hK8=>?_)
   refine b6 (a7 Z (b5 Z Z (b9 Z Z) (a7 Z (b5 Z Z (d1 G Z Z Z Z Z Z) (a7 Z (m5 G 4 Z Z Z Z Z Z Z Z (a7 Z (l1 G np Z Z Z Z Z Z Z Z Z (by simp [U1];omega) Z Z (a7 Z (b5 Z Z (b8 Z Z) (b4 (hK8 _ ?_))))))))))))
   clear hK8 K8
   refine b6 (a7 Z (b5 Z Z (b9 Z Z) (a7 Z (b5 Z Z (b9 Z Z) (a7 Z (m5 G 5 Z Z Z Z Z Z Z Z (a7 Z (l1 G np Z Z Z Z Z Z Z Z Z (by simp [U1];omega) Z Z (a7 Z (b5 Z Z (b8 Z Z) ?_))))))))))
   refine b4 ⟨(n+1),?_,?_,⟨⟨_,Z,by (first | exact (rfl:AV.own 0=AV.own 0) | exact (rfl:AV.own 1=AV.own 1) | (rw [a1l (s:=s) (n:=n)];done))⟩,Z,⟨⟨_,Z,by (first | exact (rfl:AV.own 0=AV.own 0) | exact (rfl:AV.own 1=AV.own 1) | (rw [a1l (s:=s) (n:=n)];done))⟩,Z,⟨⟨_,Z,by (first | exact (rfl:AV.own 0=AV.own 0) | exact (rfl:AV.own 1=AV.own 1) | (rw [a1l (s:=s) (n:=n)];done))⟩,Z,trivial⟩⟩⟩,⟨⟨_,Z,by (first | exact congrArg (Row.row _ _) (a4e (g:=a6S s) (f:=a8L) (i:=n)) | (rw [a1l];exact congrArg (Row.row _ _) (a4e (g:=W9 s) (f:=Rf.r7) (i:=n+1))))⟩,Z,Z,⟨⟨_,Z,by (first | exact congrArg (Row.row _ _) (a4e (g:=a6S s) (f:=a8L) (i:=n)) | (rw [a1l];exact congrArg (Row.row _ _) (a4e (g:=W9 s) (f:=Rf.r7) (i:=n+1))))⟩,Z,Z,trivial⟩⟩,Z,Z,Z⟩
   ·exact s4 hinv hok
   ·omega
theorem a2p (x:Lg) (hx:x.d.size+x.p.size<=1048576):Ctr Tryz.prog 55 [.v (b0V x)] (.one (.v (.bool (okLg x)))):=by
 have hl1:=a5i (s:=x.d++x.p)
 have hl2:=a5i (s:=x.d)
 have hp1:W9 (x.d++x.p) (z8 (x.d++x.p))=(E2 (x.d++x.p) (z8 (x.d++x.p)):Int):=rfl
 have hp2:W9 x.d (z8 x.d)=(E2 x.d (z8 x.d):Int):=rfl
 have hrl:=b4f (s:=x.d++x.p)
 have hap:(x.d++x.p).size=x.d.size+x.p.size:=ByteArray.size_append
 have hge:=b6g (s:=x.d++x.p)
 have hel:(pre (W9 (x.d++x.p)) (z8 (x.d++x.p)+1)).length=z8 (x.d++x.p)+1:=U1
 have hem:((pre (W9 (x.d++x.p)) (z8 (x.d++x.p)+1)).map Rf.r7).length=z8 (x.d++x.p)+1:=(by rw [List.length_map,U1])
 refine Ctr.of (n:=53) G Tryz.func55 Z a8 Z Z Z (λw0=>?_)
 refine vm1 ?_
 refine vm3 ?_
 refine a4z ?_
 refine vm3 ?_
 refine a4z ?_
 refine zcd (λh1=>?_) (λh1=>?_)
 ·have hO:=c1r (x:=x) J
  exact b6M
 refine vm3 ?_
 refine b5v ?_
 refine p6 ?_
 refine d4 2 Z Z Z (ArgsOK.of Z) (a4D _ a1X) Z Z ?_
 refine vm3 ?_
 refine d4 3 Z Z Z (ArgsOK.of Z) (a4D _ a1X) Z Z ?_
 refine vm3 ?_
 refine a4z ?_
 refine vm3 ?_
 refine a4z ?_
 refine zcd (λh2=>?_) (λh2=>?_)
 ·refine zgo ?_
  refine a0k ?_
  refine a4z ?_
  refine zcd (λh3=>?_) (λh3=>?_)
  ·have hO:=c5E (x:=x) J J J
   exact b6M
  have hO:=c1s (x:=x) J
  exact b6M
 have hO:=b6h (x:=x) J
 exact b6M
theorem a11 (x:Lg) (hx:x.d.size+x.p.size<=1048576):Ctr Tryz.prog 51 [.v (b0V x)] (.one (.v (.bool (okLg x)))):=by
 have hl1:=a5i (s:=x.d++x.p)
 have hl2:=a5i (s:=x.d)
 have hp1:W9 (x.d++x.p) (z8 (x.d++x.p))=(E2 (x.d++x.p) (z8 (x.d++x.p)):Int):=rfl
 have hp2:W9 x.d (z8 x.d)=(E2 x.d (z8 x.d):Int):=rfl
 have hrl:=b4f (s:=x.d++x.p)
 have hap:(x.d++x.p).size=x.d.size+x.p.size:=ByteArray.size_append
 have hge:=b6g (s:=x.d++x.p)
 have hel:(pre (W9 (x.d++x.p)) (z8 (x.d++x.p)+1)).length=z8 (x.d++x.p)+1:=U1
 have hem:((pre (W9 (x.d++x.p)) (z8 (x.d++x.p)+1)).map Rf.r7).length=z8 (x.d++x.p)+1:=(by rw [List.length_map,U1])
 refine Ctr.of (n:=45) G Tryz.func51 Z a8 Z Z Z (λw0=>?_)
 refine vm1 ?_
 refine vm3 ?_
 refine b5v ?_
 refine vm3 ?_
 refine d4 3 Z Z Z (ArgsOK.of Z) (a6l _ a1X) Z Z ?_
 refine vm5 ?_
 refine c6J ?_
 refine vm3 ?_
 refine a4z ?_
 refine zcd (λh1=>?_) (λh1=>?_)
 ·have hO:=b6h (x:=x) J
  refine zwt ?_
  refine zf1 ?_
  all_goals ((rw [hO]))
 refine zcd (λh2=>?_) (λh2=>?_)
 ·have hO:=c1t (x:=x) J
  refine zf1 ?_
  all_goals ((rw [hO]))
 refine zgo ?_
 refine i7 [1,33,34] [0,2] (λ(i:Nat)=>[(35,.v (.int .i64 (i:Int)))]) (λ(i:Nat)=>[]) (λ(i:Nat)=>i<=z8 (x.d++x.p)+1/\∀j,j < i→¬ E2 (x.d++x.p) j=x.d.size) (λ(i:Nat)=>z8 (x.d++x.p)+1 - i) 0 Z Z ?_ ?_ ?_ ?_
 ·exact T7
 ·exact a84
 ·exact trivial
 intro i hinv
 have hi:=hinv.1
 have hpi:W9 (x.d++x.p) i=(E2 (x.d++x.p) i:Int):=rfl
 have hgi:i < z8 (x.d++x.p)+1→(pre (W9 (x.d++x.p)) (z8 (x.d++x.p)+1)).getD ((i:Int)).toNat default=W9 (x.d++x.p) i:=λh=>b3T h
 refine vm2 ?_
 refine zcd (λh3=>?_) (λh3=>?_)
 ·refine vm5 ?_
  refine c6J ?_
  refine vm3 ?_
  refine a4z ?_
  refine zcd (λh4=>?_) (λh4=>?_)
  ·have hO:=b7q (x:=x) (j:=i) J J J J
   refine zf1 ?_
   all_goals ((rw [hO]))
  refine zgo ?_
  refine ⟨(i+1),?_,?_,⟨⟨_,Z,by rfl⟩,Z,trivial⟩,trivial,Z,Z,Z⟩
  ·exact ⟨by omega,s4 hinv.2 J⟩
  omega
 have hO:=b7r (x:=x) (λj hj=>hinv.2 j J)
 refine zf1 ?_
 all_goals ((rw [hO]))
theorem a4E (x:Lg) (hx:x.d.size+x.p.size<=1048576):Ctr Tryz.prog 154 [.v (b0V x)] (.many [.v (b0V (syE x)),.v (.bool (okLg x))]):=by
 refine Ctr.of (n:=16) G Tryz.func154 Z a8 Z Z Z (λw0=>?_)
 refine vm1 ?_
 refine vm9 ?_
 refine zcl (a2p _ a1X) ?_
 refine zcd (λh1=>?_) (λh1=>?_)
 ·have hO:=c9B h1
  exact c3Y
 have hO:=c9C h1
 refine vm3 ?_
 refine b5v ?_
 exact c3Y
theorem u6 (x:Lg) (r:Rec) (hx:x.d.size+x.p.size<=1048576) (hr:r.c.size<=9223372036854775807/\r.r.size<=9223372036854775807):Ctr Tryz.prog 40 [.v (b0V x),.v (b2n r)] (.many [.v (b0V (apE x r)),.v (.int .i64 (apN x r))]):=by
 refine Ctr.of (n:=32) G Tryz.func40 Z a8 Z Z Z (λw0=>?_)
 refine b5w ?_
 refine zcl (a2p _ a1X) ?_
 refine zcd (λh1=>?_) (λh1=>?_)
 ·have hO:=c1u (x:=x) (r:=r) (c2B h1)
  refine zwt ?_
  exact b2b
 refine zcl (a1u _ j7) ?_
 refine zcd (λh2=>?_) (λh2=>?_)
 ·have hO:=c1u (x:=x) (r:=r) (c2C h2)
  exact b2b
 refine zcd (λh3=>?_) (λh3=>?_)
 ·have hO:=c7N (x:=x) (r:=r) h1 h2 h3
  exact b2b
 have hz:=a3F (x:=x) j7
 have hls:=a5j (k:=x.n) (x:=r) J J j7
 have hO:=c7O (x:=x) (r:=r) h1 h2 h3
 refine zgo ?_
 apply C4 [2,4] [0,2] 3 9 [1,2] mixed a8 Z Z (λ_ h=>znk h)
 ·intro r0
  refine zsa 0 ?_
  refine zsa 2 ?_
  refine zsa 4 ?_
  refine b7 (rs:=[1,3]) a8 Z (AllB.cons ?_ (AllB.cons ?_ AllB.nil))
  ·refine g9 [1,2] Z Z ?_
   refine N8 ?_
   refine b7 (rs:=[3]) a8 Z (AllB.cons ?_ AllB.nil)
   exact c4H
  refine g9 [1,2] Z Z ?_
  refine N8 ?_
  refine b7 (rs:=[1,5]) a8 Z (AllB.cons ?_ (AllB.cons ?_ AllB.nil))
  ·exact c4H
  refine g9 [1,2] Z Z (b5 Z Z (j4 Z (ArgsOK.of Z) (a1s _ _ a1X a1X j7) Z) (b4 ⟨Z,?_⟩))
  refine b7 (rs:=[1]) a8 Z (AllB.cons ?_ AllB.nil)
  refine g9 [1,2] Z Z ?_
  refine N8 ?_
  exact c4j
 refine zgo ?_
 refine d8 (r4 Z Z Z Z (b3 (C2 Z ?_) (b3 (j8 ?_) d9)))
 all_goals (first | (rw [hO.1];done) | (rw [hO.1];rfl) | (rw [hO.2];done) | (rw [hO.2];rfl))
theorem a0W (x:Lg) (r:Rec) (hx:x.d.size+x.p.size<=1048576) (hr:r.c.size<=9223372036854775807/\r.r.size<=9223372036854775807):Ctr Tryz.prog 45 [.v (b0V x),.v (b2n r)] (.many [.v (b0V (apE x r)),.v (.int .i64 (apN x r))]):=by
 refine Ctr.of (n:=34) G Tryz.func45 Z a8 Z Z Z (λw0=>?_)
 refine b5w ?_
 refine zcl (a11 _ a1X) ?_
 refine zcd (λh1=>?_) (λh1=>?_)
 ·have hO:=c1u (x:=x) (r:=r) (c2B h1)
  refine zwt ?_
  exact b2b
 refine zcl (Q0 _ j7) ?_
 refine zcd (λh2=>?_) (λh2=>?_)
 ·have hO:=c1u (x:=x) (r:=r) (c2C h2)
  exact b2b
 refine zcd (λh3=>?_) (λh3=>?_)
 ·have hO:=c7N (x:=x) (r:=r) h1 h2 h3
  exact b2b
 have hz:=a3F (x:=x) j7
 have hls:=a5j (k:=x.n) (x:=r) J J j7
 have hO:=c7O (x:=x) (r:=r) h1 h2 h3
 refine zgn ?_
 refine s9 (l2 15 [0,1] mixed a8 Z Z (λr0=>?_) (λ_ h=>h))
 refine a06 ?_
 refine a8r ?_
 refine zsa 9 ?_
 refine zsa 10 ?_
 first | refine d5 11 Z a8 a8 Z Z Z Z (p5 Z Z Z Z J J) ?_ | refine d5 11 Z a8 a8 Z Z Z Z (s3 Z Z Z Z) ?_
 refine b7 (rs:=[7]) a8 Z (AllB.cons ?_ AllB.nil)
 refine g9 [0,1] Z Z (b5 Z Z (j4 Z (ArgsOK.of Z) (a0X _ _ a1X a1X j7) Z) (b4 ⟨Z,?_⟩))
 refine d5 8 Z a8 a8 Z Z Z Z (s6 Z Z Z b6C) ?_
 refine zsa 12 ?_
 refine b7 (rs:=[13]) a8 Z (AllB.cons ?_ AllB.nil)
 refine g9 [0,1] Z Z ?_
 refine N8 ?_
 refine zsa 14 ?_
 refine F3 ?_
 exact c8X
theorem T8 {x:Cur} {n:Int} (h:okC n x) (hn:n<=900000000000):CtrX (α:=Rec×Cur) Tryz.prog 54 [.ptr 0 0] [.box [.lst 1 (x.c.map B4),.v (.int .i64 x.a),.v (.int .u64 x.s)]] (λy=>(y.1.c.size<=20/\y.1.r.size<=20)/\okC (n+20) y.2) (λy=>.one (.v (b2n y.1))) (λy=>[some (.box [.lst 1 (y.2.c.map B4),.v (.int .i64 y.2.a),.v (.int .u64 y.2.s)])]):=by
 refine CtrX.of (n:=28) (k:=1) G Tryz.func54 Z Y Z Z Z Z (λ_=>Z) Z Z (λw0 _ hpin=>?_)
 refine c1 (λK1 hK1=>?_)
 refine b6 (a7 Z (d7 G 2 Z Z Z Z Z (b4 (hK1 _ ?_))))
 clear hK1 K1
 refine c1 (λK2 hK2=>?_)
 refine b6 (a7 Z (b5 Z Z (b9 Z Z) (a7 Z (m5 G 3 Z Z Z Z Z Z Z Z (a7 Z ?_)))))
 refine d6 3 [0,2] Z Z Z (b4y h J [⟨#[99,111,117,110,116]⟩,⟨#[115,111,114,116,32,109,101,114,103,101]⟩,⟨#[120]⟩,⟨#[115,101,108,101,99,116,32,50]⟩,⟨#[48,32,49]⟩] (by decide)) Z (RowsIn.cons Z (RowsIn.cons Z RowsIn.nil)) Z (λ_=>Z) Z (λx1 ⟨hv1,hc1⟩=>?_)
 have hs1:=a0G (n:=20) hv1 (by decide)
 refine a7 Z (b5 Z Z (b9 Z Z) (a7 Z (m5 G 4 Z Z Z Z Z Z Z Z (a7 Z ?_))))
 refine d6 4 [0,3] Z Z Z (b4y hc1 J [⟨#[]⟩,⟨#[51]⟩,⟨#[63]⟩,⟨#[97,64,98]⟩,⟨#[51,32,49,32,50]⟩] (by decide)) Z (RowsIn.cons Z (RowsIn.cons Z RowsIn.nil)) Z (λ_=>Z) Z (λx2 ⟨hv2,hc2⟩=>?_)
 have hs2:=a0G (n:=20) hv2 (by decide)
 refine a7 Z (b5 Z Z (w9 G Z Z Z Z) (a7 Z (d7 G 5 Z Z Z Z Z (a7 Z (e9 G Z Z Z Z Z Z Z Z Z Z Z (b4 (hK2 _ ?_)))))))
 clear hK2 K2
 refine c1 (λK3 hK3=>?_)
 refine c1 (λK4 hK4=>?_)
 refine b6 (a7 Z (b5 Z Z (b9 Z Z) (a7 Z ?_)))
 refine d6 5 [0] Z Z Z (p9 hc2 J (24)) Z (RowsIn.cons Z RowsIn.nil) Z (λ_=>Z) Z (λx3 ⟨hv3,hc3⟩=>?_)
 refine b4 (hK4 _ ?_)
 clear hK4 K4
 refine o7 ?_
 refine c1 (λK5 hK5=>?_)
 refine b6 (a7 Z (b5 Z Z (t8 Z Z Z Z) (a7 Z (b5 Z Z (b8 Z Z) (b4 (hK5 _ ?_))))))
 clear hK5 K5
 refine l4 Z (λh1=>?_) (λh1=>?_)
 ·try rw [h1]
  try simp only [rfb] at h1
  refine b6 (a7 Z (b5 Z Z (b9 Z Z) (a7 Z (c0E (n:=3) G 6 Z Z Z Z Z Z Z Z Z J J (a7 Z (b5 Z Z (c7h G Z Z Z Z Z Z Z) (a7 Z (m5 G 7 Z Z Z Z Z Z Z Z (a7 Z ?_)))))))))
  refine d6 7 [0,6] Z Z Z (b4y hc3 J [⟨#[]⟩,⟨#[97,64,98]⟩,⟨#[97,35]⟩,⟨#[10]⟩,⟨#[0,0,0]⟩] (by decide)) Z (RowsIn.cons Z (RowsIn.cons Z RowsIn.nil)) Z (λ_=>Z) Z (λx4 ⟨hv4,hc4⟩=>?_)
  have hs4:=a0G (n:=20) hv4 (by decide)
  refine a7 Z (b5 Z Z (d3 G Z Z Z Z) (a7 Z (e9 G Z Z Z Z Z Z Z Z Z Z Z (b4 (hK3 _ ?_)))))
  clear hK3 K3
  refine c1 (λK6 hK6=>?_)
  refine b6 (a7 Z (b5 Z Z (d1 G Z Z Z Z Z Z) (a7 Z (e9 G Z Z Z Z Z Z Z Z Z Z Z (b4 (hK6 _ ?_))))))
  clear hK6 K6
  refine d8 (A2 ((⟨x4.1,x2.1⟩,x4.2)) (n9 Z (C2 Z ?_) Z (AftOK.stays Z ?_ Z AftOK.nil)) (⟨?_,?_⟩))
  all_goals (first | rfl | exact hc4.mono J | exact ⟨by assumption,by assumption⟩)
 ·try rw [h1]
  try simp only [rfb] at h1
  refine c1 (λK7 hK7=>?_)
  refine b6 (a7 Z (b5 Z Z (t8 Z Z Z Z) (a7 Z (b5 Z Z (b8 Z Z) (b4 (hK7 _ ?_))))))
  clear hK7 K7
  refine l4 Z (λh2=>?_) (λh2=>?_)
  ·try rw [h2]
   try simp only [rfb] at h2
   refine b6 (a7 Z (b5 Z Z (b9 Z Z) (a7 Z (m5 G 6 Z Z Z Z Z Z Z Z (a7 Z ?_)))))
   refine d6 6 [0,5] Z Z Z (b4y hc3 J [⟨#[35]⟩,⟨#[10]⟩,⟨#[127]⟩] (by decide)) Z (RowsIn.cons Z (RowsIn.cons Z RowsIn.nil)) Z (λ_=>Z) Z (λx5 ⟨hv5,hc5⟩=>?_)
   have hs5:=a0G (n:=20) hv5 (by decide)
   refine a7 Z (b5 Z Z (d3 G Z Z Z Z) (a7 Z (e9 G Z Z Z Z Z Z Z Z Z Z Z (b4 (hK3 _ ?_)))))
   clear hK3 K3
   refine c1 (λK8 hK8=>?_)
   refine b6 (a7 Z (b5 Z Z (d1 G Z Z Z Z Z Z) (a7 Z (e9 G Z Z Z Z Z Z Z Z Z Z Z (b4 (hK8 _ ?_))))))
   clear hK8 K8
   refine d8 (A2 ((⟨x1.1,x5.1⟩,x5.2)) (n9 Z (C2 Z ?_) Z (AftOK.stays Z ?_ Z AftOK.nil)) (⟨?_,?_⟩))
   all_goals (first | rfl | exact hc5.mono J | exact ⟨by assumption,by assumption⟩)
  ·try rw [h2]
   try simp only [rfb] at h2
   refine p8 (hK3 _ ?_)
   clear hK3 K3
   refine c1 (λK9 hK9=>?_)
   refine b6 (a7 Z (b5 Z Z (d1 G Z Z Z Z Z Z) (a7 Z (e9 G Z Z Z Z Z Z Z Z Z Z Z (b4 (hK9 _ ?_))))))
   clear hK9 K9
   refine d8 (A2 ((⟨x1.1,x2.1⟩,x3.2)) (n9 Z (C2 Z ?_) Z (AftOK.stays Z ?_ Z AftOK.nil)) (⟨?_,?_⟩))
   all_goals (first | rfl | exact hc3.mono J | exact ⟨by assumption,by assumption⟩)
theorem a6m {x:Cur} {n:Int} (h:okC n x) (hn:n<=890000000000):CtrX (α:=Lg×Cur) Tryz.prog 100 [.ptr 0 0] [.box [.lst 1 (x.c.map B4),.v (.int .i64 x.a),.v (.int .u64 x.s)]] (λy=>(y.1.d.size+y.1.p.size<=100000)/\okC (n+300) y.2) (λy=>.one (.v (b0V y.1))) (λy=>[some (.box [.lst 1 (y.2.c.map B4),.v (.int .i64 y.2.a),.v (.int .u64 y.2.s)])]):=by
 refine CtrX.of (n:=27) (k:=1) G Tryz.func100 Z Y Z Z Z Z (λ_=>Z) Z Z (λw0 _ hpin=>?_)
 refine c1 (λK1 hK1=>?_)
 refine b6 (a7 Z (d7 G 2 Z Z Z Z Z (b4 (hK1 _ ?_))))
 clear hK1 K1
 refine c1 (λK2 hK2=>?_)
 refine b6 (a7 Z (b5 Z Z (w9 G Z Z Z Z) (a7 Z (d7 G 3 Z Z Z Z Z (a7 Z (e9 G Z Z Z Z Z Z Z Z Z Z Z (b4 (hK2 _ ?_))))))))
 clear hK2 K2
 refine c1 (λK3 hK3=>?_)
 refine c1 (λK4 hK4=>?_)
 refine b6 (a7 Z (b5 Z Z (b9 Z Z) (a7 Z ?_)))
 refine d6 3 [0] Z Z Z (p9 h J (7)) Z (RowsIn.cons Z RowsIn.nil) Z (λ_=>Z) Z (λx1 ⟨hv1,hc1⟩=>?_)
 refine a7 Z (b5 Z Z (b8 Z Z) (b4 (hK4 _ ?_)))
 clear hK4 K4
 refine o7 ?_
 refine i7 [0,2,3] [1] (λ(z:Nat×Cur×Lg)=>[(4,.v (.int .i64 (x1.1 - z.1)))]) (λ(z:Nat×Cur×Lg)=>[(0,some (.box [.lst 1 (z.2.1.c.map B4),.v (.int .i64 z.2.1.a),.v (.int .u64 z.2.1.s)])),(2,some (.box [.v (.string z.2.2.d),.v (.string z.2.2.p),.v (.int .i64 z.2.2.n)]))]) (λ(z:Nat×Cur×Lg)=>(z.1:Int)<=x1.1/\(z.2.2.d.size+z.2.2.p.size<=100000)/\okC (n+2+30 * z.1) z.2.1) (λ(z:Nat×Cur×Lg)=>x1.1.toNat - z.1) (0,x1.2,lg0) Z Z ?_ ?_ ?_ ?_
 ·exact ⟨hv1.1,(Nat.zero_le 100000:lg0.d.size+lg0.p.size<=100000),hc1.mono (by simp)⟩
 ·exact b19
 ·exact b3e
 ·intro z hinv
  obtain ⟨hz1,hz2,hz⟩:=hinv
  simp only [List.cons_append,List.nil_append]
  refine c1 (λK5 hK5=>?_)
  refine c1 (λK6 hK6=>?_)
  refine b6 (a7 Z (b5 Z Z (b9 Z Z) (a7 Z (b5 Z Z (t8 Z Z Z Z) (b4 (hK6 _ ?_))))))
  clear hK6 K6
  refine l4 Z (λh1=>?_) (λh1=>?_)
  ·try rw [h1]
   try simp only [rfb] at h1
   refine p8 (hK5 _ ?_)
   clear hK5 K5
   refine c1 (λK7 hK7=>?_)
   refine o7 ?_
   refine c1 (λK8 hK8=>?_)
   refine l2 8 [1] mixed Y Z Z (λr0=>?_) (λ_ h=>h)
   refine d5 1 Z Y Y Z Z Z Z (b9 Z Z) ?_
   refine b7 (rs:=[0,2]) Y Z (AllB.cons ?_ (AllB.cons ?_ AllB.nil))
   ·refine f9 [1] Z Z (b5 Z Z (d1 G Z Z Z Z Z Z) (b4 ⟨Z,?_⟩))
    refine b7 (rs:=[2]) Y Z (AllB.cons ?_ AllB.nil)
    refine f9 [1] Z Z (d6 3 [0] Z Z Z (T8 hz J) Z (RowsIn.cons Z RowsIn.nil) Z (λ_=>Z) Z (λx2 ⟨hv2,hc2⟩=>b4 ⟨Z,?_⟩))
    refine b7 (rs:=[3]) Y Z (AllB.cons ?_ AllB.nil)
    refine f9 [1] Z Z (b5 Z Z (j4 Z (ArgsOK.of Z) (u6 z.2.2 x2.1 J J) Z) (b4 ⟨Z,?_⟩))
    refine d5 4 Z Y Y Z Z Z Z (b9 Z Z) (d5 5 Z Y Y Z Z Z Z (i1 Z Z Z) (d5 6 Z Y Y Z Z Z Z (i1 Z Z Z) ?_))
    refine b7 (rs:=[7]) Y Z (AllB.cons ?_ AllB.nil)
    refine f9 [1] Z Z (e9 G Z Z Z Z Z Z Z Z Z Z Z (b4 ⟨Z,?_⟩))
    refine C3 Y (hK8 _ ?_)
    clear hK8 K8
    refine c1 (λK9 hK9=>?_)
    refine b6 (a7 Z (b5 Z Z (b9 Z Z) (a7 Z ?_)))
    refine d6 3 [0] Z Z Z (a4B hc2 J (4)) Z (RowsIn.cons Z RowsIn.nil) Z (λ_=>Z) Z (λx3 ⟨hv3,hc3⟩=>?_)
    refine b4 (hK9 _ ?_)
    clear hK9 K9
    refine l4 Z (λh2=>?_) (λh2=>?_)
    ·try rw [h2]
     try simp only [rfb] at h2
     refine b6 (a7 Z (b5 Z Z (d1 G Z Z Z Z Z Z) (a7 Z (b5 Z Z (j4 Z (ArgsOK.of Z) (a4E (apE z.2.2 x2.1) (by have:=b7x (x:=z.2.2) (r:=x2.1) (b:=100000) (by decide) hz2;omega)) Z) (a7 Z (b5 Z Z (b9 Z Z) (a7 Z (b5 Z Z (i1 Z Z Z) (a7 Z (b5 Z Z (i1 Z Z Z) (a7 Z (e9 G Z Z Z Z Z Z Z Z Z Z Z (b4 (hK7 _ ?_))))))))))))))
     clear hK7 K7
     refine b6 (a7 Z (b5 Z Z (b9 Z Z) (a7 Z ?_)))
     first | refine b5 Z Z (p5 Z Z Z Z J J) ?_ | refine b5 Z Z (s3 Z Z Z Z) ?_
     refine a7 Z (b5 Z Z (b8 Z Z) ?_)
     refine b4 ⟨(z.1+1,x3.2,syE (apE z.2.2 x2.1)),?_,?_,⟨⟨_,Z,by (first | rfl | exact congrArg (λv=>AV.v (.int .i64 v)) (by show x1.1 - (z.1:Int) - 1=x1.1 - ((z.1+1:Nat):Int);omega))⟩,Z,trivial⟩,⟨⟨_,Z,by rfl⟩,Z,Z,⟨⟨_,Z,by rfl⟩,Z,Z,trivial⟩⟩,Z,Z,Z⟩
     ·exact c3U
     ·exact Y0
    ·try rw [h2]
     try simp only [rfb] at h2
     refine p8 (hK7 _ ?_)
     clear hK7 K7
     refine b6 (a7 Z (b5 Z Z (b9 Z Z) (a7 Z ?_)))
     first | refine b5 Z Z (p5 Z Z Z Z J J) ?_ | refine b5 Z Z (s3 Z Z Z Z) ?_
     refine a7 Z (b5 Z Z (b8 Z Z) ?_)
     refine b4 ⟨(z.1+1,x3.2,apE z.2.2 x2.1),?_,?_,⟨⟨_,Z,by (first | rfl | exact congrArg (λv=>AV.v (.int .i64 v)) (by show x1.1 - (z.1:Int) - 1=x1.1 - ((z.1+1:Nat):Int);omega))⟩,Z,trivial⟩,⟨⟨_,Z,by rfl⟩,Z,Z,⟨⟨_,Z,by rfl⟩,Z,Z,trivial⟩⟩,Z,Z,Z⟩
     ·exact c3U
     ·exact Y0
   ·refine f9 [1] Z Z (d6 3 [0] Z Z Z (T8 hz J) Z (RowsIn.cons Z RowsIn.nil) Z (λ_=>Z) Z (λx4 ⟨hv4,hc4⟩=>b4 ⟨Z,?_⟩))
    refine b7 (rs:=[0]) Y Z (AllB.cons ?_ AllB.nil)
    refine f9 [1] Z Z (b5 Z Z (d1 G Z Z Z Z Z Z) (b4 ⟨Z,?_⟩))
    refine b7 (rs:=[3]) Y Z (AllB.cons ?_ AllB.nil)
    refine f9 [1] Z Z (b5 Z Z (j4 Z (ArgsOK.of Z) (u6 z.2.2 x4.1 J J) Z) (b4 ⟨Z,?_⟩))
    refine d5 4 Z Y Y Z Z Z Z (b9 Z Z) (d5 5 Z Y Y Z Z Z Z (i1 Z Z Z) (d5 6 Z Y Y Z Z Z Z (i1 Z Z Z) ?_))
    refine b7 (rs:=[7]) Y Z (AllB.cons ?_ AllB.nil)
    refine f9 [1] Z Z (e9 G Z Z Z Z Z Z Z Z Z Z Z (b4 ⟨Z,?_⟩))
    refine C3 Y (hK8 _ ?_)
    clear hK8 K8
    refine c1 (λK10 hK10=>?_)
    refine b6 (a7 Z (b5 Z Z (b9 Z Z) (a7 Z ?_)))
    refine d6 3 [0] Z Z Z (a4B hc4 J (4)) Z (RowsIn.cons Z RowsIn.nil) Z (λ_=>Z) Z (λx5 ⟨hv5,hc5⟩=>?_)
    refine b4 (hK10 _ ?_)
    clear hK10 K10
    refine l4 Z (λh3=>?_) (λh3=>?_)
    ·try rw [h3]
     try simp only [rfb] at h3
     refine b6 (a7 Z (b5 Z Z (d1 G Z Z Z Z Z Z) (a7 Z (b5 Z Z (j4 Z (ArgsOK.of Z) (a4E (apE z.2.2 x4.1) (by have:=b7x (x:=z.2.2) (r:=x4.1) (b:=100000) (by decide) hz2;omega)) Z) (a7 Z (b5 Z Z (b9 Z Z) (a7 Z (b5 Z Z (i1 Z Z Z) (a7 Z (b5 Z Z (i1 Z Z Z) (a7 Z (e9 G Z Z Z Z Z Z Z Z Z Z Z (b4 (hK7 _ ?_))))))))))))))
     clear hK7 K7
     refine b6 (a7 Z (b5 Z Z (b9 Z Z) (a7 Z ?_)))
     first | refine b5 Z Z (p5 Z Z Z Z J J) ?_ | refine b5 Z Z (s3 Z Z Z Z) ?_
     refine a7 Z (b5 Z Z (b8 Z Z) ?_)
     refine b4 ⟨(z.1+1,x5.2,syE (apE z.2.2 x4.1)),?_,?_,⟨⟨_,Z,by (first | rfl | exact congrArg (λv=>AV.v (.int .i64 v)) (by show x1.1 - (z.1:Int) - 1=x1.1 - ((z.1+1:Nat):Int);omega))⟩,Z,trivial⟩,⟨⟨_,Z,by rfl⟩,Z,Z,⟨⟨_,Z,by rfl⟩,Z,Z,trivial⟩⟩,Z,Z,Z⟩
     ·exact c3V
     ·exact Y0
    ·try rw [h3]
     try simp only [rfb] at h3
     refine p8 (hK7 _ ?_)
     clear hK7 K7
     refine b6 (a7 Z (b5 Z Z (b9 Z Z) (a7 Z ?_)))
     first | refine b5 Z Z (p5 Z Z Z Z J J) ?_ | refine b5 Z Z (s3 Z Z Z Z) ?_
     refine a7 Z (b5 Z Z (b8 Z Z) ?_)
     refine b4 ⟨(z.1+1,x5.2,apE z.2.2 x4.1),?_,?_,⟨⟨_,Z,by (first | rfl | exact congrArg (λv=>AV.v (.int .i64 v)) (by show x1.1 - (z.1:Int) - 1=x1.1 - ((z.1+1:Nat):Int);omega))⟩,Z,trivial⟩,⟨⟨_,Z,by rfl⟩,Z,Z,⟨⟨_,Z,by rfl⟩,Z,Z,trivial⟩⟩,Z,Z,Z⟩
     ·exact c3V
     ·exact Y0
  ·try rw [h1]
   try simp only [rfb] at h1
   refine G2 (hK3 _ ?_)
   clear hK5 K5 hK3 K3
   refine c1 (λK11 hK11=>?_)
   refine b6 (a7 Z (b5 Z Z (d1 G Z Z Z Z Z Z) (a7 Z (e9 G Z Z Z Z Z Z Z Z Z Z Z (b4 (hK11 _ ?_))))))
   clear hK11 K11
   refine d8 (A2 ((z.2.2,z.2.1)) (n9 Z (C2 Z ?_) Z (AftOK.stays Z ?_ Z AftOK.nil)) (⟨?_,?_⟩))
   all_goals (first | rfl | exact hz.mono J | assumption)
theorem a3Z {x:Cur} {n:Int} (h:okC n x) (hn:n<=900000000000) (t w:ByteArray) (ht:t.size<=1048576) (hw:1<=w.size/\w.size<=10):CtrX (α:=ByteArray×Cur) Tryz.prog 41 [.ptr 0 0,.v (.string t),.v (.string w)] [.box [.lst 1 (x.c.map B4),.v (.int .i64 x.a),.v (.int .u64 x.s)]] (λy=>(y.1.size<=2 * t.size+10)/\okC (n+20) y.2) (λy=>.one (.v (.string y.1))) (λy=>[some (.box [.lst 1 (y.2.c.map B4),.v (.int .i64 y.2.a),.v (.int .u64 y.2.s)])]):=by
 have e0:(w.extract ((0:Int)).toNat ((1:Int)).toNat).size<=w.size:=a3t
 refine CtrX.of (n:=57) (k:=1) G Tryz.func41 Z Y Z Z Z Z (λ_=>Z) Z Z (λw0 _ hpin=>?_)
 refine c1 (λK1 hK1=>?_)
 refine b6 (a7 Z (b5 Z Z (b8 Z Z) (b4 (hK1 _ ?_))))
 clear hK1 K1
 refine c1 (λK2 hK2=>?_)
 refine c1 (λK3 hK3=>?_)
 refine b6 (a7 Z (b5 Z Z (b9 Z Z) (a7 Z (b5 Z Z (w7 Z Z Z Z) (b4 (hK3 _ ?_))))))
 clear hK3 K3
 refine l4 Z (λh1=>?_) (λh1=>?_)
 ·try rw [h1]
  try simp only [rfb] at h1
  refine c1 (λK4 hK4=>?_)
  refine b6 (a7 Z (b5 Z Z (b9 Z Z) (a7 Z (b5 Z Z (z6 G Z Z Z Z Z J J J) (a7 Z (b5 Z Z (b8 Z Z) (b4 (hK4 _ ?_))))))))
  clear hK4 K4
  refine d8 (A2 ((w.extract ((0:Int)).toNat ((1:Int)).toNat,x)) (n9 Z (j8 ?_) Z (AftOK.stays Z ?_ Z AftOK.nil)) (⟨?_,?_⟩))
  all_goals clear hK2 K2
  all_goals (first | rfl | exact h.mono J | (show ByteArray.size _<=_;(try simp only [ByteArray.size_append]);omega))
 ·try rw [h1]
  try simp only [rfb] at h1
  have hne:=c8f h1
  refine p8 (hK2 _ ?_)
  clear hK2 K2
  refine c1 (λK5 hK5=>?_)
  refine b6 (a7 Z (b5 Z Z (b9 Z Z) (a7 Z (b5 Z Z (b9 Z Z) (a7 Z (b5 Z Z (r5 G Z Z Z) (a7 Z ?_)))))))
  refine d6 1 [0] Z Z Z (p9 h J (t.size:Int)) Z (RowsIn.cons Z RowsIn.nil) Z (λ_=>Z) Z (λx1 ⟨hv1,hc1⟩=>?_)
  have e1:(t.extract ((0:Int)).toNat x1.1.toNat).size<=t.size:=a3t
  have e2:(t.extract x1.1.toNat ((t.size:Int)).toNat).size<=t.size:=a3t
  have e3:(t.extract (x1.1+1).toNat ((t.size:Int)).toNat).size<=t.size:=a3t
  refine a7 Z (b5 Z Z (b8 Z Z) (b4 (hK5 _ ?_)))
  clear hK5 K5
  refine c1 (λK6 hK6=>?_)
  refine b6 (a7 Z (b5 Z Z (b9 Z Z) (a7 Z (b5 Z Z (b9 Z Z) (a7 Z (b5 Z Z (b9 Z Z) (a7 Z (b5 Z Z (r5 G Z Z Z) (a7 Z ?_)))))))))
  refine d6 1 [0] Z Z Z (p9 hc1 J (w.size:Int)) Z (RowsIn.cons Z RowsIn.nil) Z (λ_=>Z) Z (λx2 ⟨hv2,hc2⟩=>?_)
  have hwz:(w.extract x2.1.toNat ((w.size:Int)).toNat).size=w.size - x2.1.toNat:=(by rw [show ((w.size:Int)).toNat=w.size from rfl,a2C (Nat.le_refl _)])
  have e4:((w.extract x2.1.toNat ((w.size:Int)).toNat).extract ((0:Int)).toNat ((1:Int)).toNat).size<=(w.extract x2.1.toNat ((w.size:Int)).toNat).size:=a3t
  refine a7 Z (b5 Z Z (z6 G Z Z Z Z Z J J J) (a7 Z (b5 Z Z (z6 G Z Z Z Z Z J J J) (a7 Z (b5 Z Z (b8 Z Z) (b4 (hK6 _ ?_)))))))
  clear hK6 K6
  refine c1 (λK7 hK7=>?_)
  refine c1 (λK8 hK8=>?_)
  refine b6 (a7 Z (b5 Z Z (b9 Z Z) (a7 Z ?_)))
  refine d6 1 [0] Z Z Z (p9 hc2 J (3)) Z (RowsIn.cons Z RowsIn.nil) Z (λ_=>Z) Z (λx3 ⟨hv3,hc3⟩=>?_)
  refine b4 (hK8 _ ?_)
  clear hK8 K8
  refine o7 ?_
  refine c1 (λK9 hK9=>?_)
  refine b6 (a7 Z (b5 Z Z (t8 Z Z Z Z) (a7 Z (b5 Z Z (b8 Z Z) (b4 (hK9 _ ?_))))))
  clear hK9 K9
  refine l4 Z (λh2=>?_) (λh2=>?_)
  ·try rw [h2]
   try simp only [rfb] at h2
   refine c1 (λK10 hK10=>?_)
   refine I2 mixed Y (c6 Z (g8 Z Z (b9 Z Z) (c6 Z (g8 Z Z (b9 Z Z) (c6 Z (g8 Z Z (z6 G Z Z Z Z Z J J J) (c6 Z (g8 Z Z (b9 Z Z) (c6 Z (g8 Z Z (s6 Z Z Z (by (try simp only [ByteArray.size_append]);omega)) (c6 Z (g8 Z Z (b9 Z Z) (c6 Z (g8 Z Z (b9 Z Z) (c6 Z (g8 Z Z (z6 G Z Z Z Z Z J J J) (c6 Z (g8 Z Z (s6 Z Z Z (by (try simp only [ByteArray.size_append]);omega)) (c6 Z (g8 Z Z (b8 Z Z) (S4 (hK10 _ ?_))))))))))))))))))))))
   clear hK10 K10
   refine d8 (A2 ((t.extract ((0:Int)).toNat x1.1.toNat++((w.extract x2.1.toNat ((w.size:Int)).toNat).extract ((0:Int)).toNat ((1:Int)).toNat)++t.extract x1.1.toNat ((t.size:Int)).toNat,x3.2)) (n9 Z (j8 ?_) Z (AftOK.stays Z ?_ Z AftOK.nil)) (⟨?_,?_⟩))
   all_goals clear hK7 K7
   all_goals (first | rfl | exact hc3.mono J | (show ByteArray.size _<=_;(try simp only [ByteArray.size_append]);omega))
  ·try rw [h2]
   try simp only [rfb] at h2
   refine c1 (λK11 hK11=>?_)
   refine b6 (a7 Z (b5 Z Z (t8 Z Z Z Z) (a7 Z (b5 Z Z (b8 Z Z) (b4 (hK11 _ ?_))))))
   clear hK11 K11
   refine l4 Z (λh3=>?_) (λh3=>?_)
   ·try rw [h3]
    try simp only [rfb] at h3
    refine c1 (λK12 hK12=>?_)
    refine I2 mixed Y (c6 Z (g8 Z Z (b9 Z Z) (c6 Z (g8 Z Z (b9 Z Z) (c6 Z (g8 Z Z (z6 G Z Z Z Z Z J J J) (c6 Z (g8 Z Z (b9 Z Z) (c6 Z (g8 Z Z (s6 Z Z Z (by (try simp only [ByteArray.size_append]);omega)) (c6 Z (g8 Z Z (b9 Z Z) (c6 Z (g8 Z Z (b9 Z Z) (c6 Z ?_)))))))))))))))
    first | refine g8 Z Z (p5 Z Z Z Z J J) ?_ | refine g8 Z Z (s3 Z Z Z Z) ?_
    refine c6 Z (g8 Z Z (z6 G Z Z Z Z Z J J J) (c6 Z (g8 Z Z (s6 Z Z Z (by (try simp only [ByteArray.size_append]);omega)) (c6 Z (g8 Z Z (b8 Z Z) (S4 (hK12 _ ?_)))))))
    clear hK12 K12
    refine d8 (A2 ((t.extract ((0:Int)).toNat x1.1.toNat++((w.extract x2.1.toNat ((w.size:Int)).toNat).extract ((0:Int)).toNat ((1:Int)).toNat)++t.extract (x1.1+1).toNat ((t.size:Int)).toNat,x3.2)) (n9 Z (j8 ?_) Z (AftOK.stays Z ?_ Z AftOK.nil)) (⟨?_,?_⟩))
    all_goals clear hK7 K7
    all_goals (first | rfl | exact hc3.mono J | (show ByteArray.size _<=_;(try simp only [ByteArray.size_append]);omega))
   ·try rw [h3]
    try simp only [rfb] at h3
    refine p8 (hK7 _ ?_)
    clear hK7 K7
    refine c1 (λK13 hK13=>?_)
    refine I2 mixed Y (c6 Z (g8 Z Z (b9 Z Z) (c6 Z (g8 Z Z (b9 Z Z) (c6 Z (g8 Z Z (z6 G Z Z Z Z Z J J J) (c6 Z (g8 Z Z (b9 Z Z) (c6 Z (g8 Z Z (b9 Z Z) (c6 Z ?_)))))))))))
    first | refine g8 Z Z (p5 Z Z Z Z J J) ?_ | refine g8 Z Z (s3 Z Z Z Z) ?_
    refine c6 Z (g8 Z Z (z6 G Z Z Z Z Z J J J) (c6 Z (g8 Z Z (s6 Z Z Z (by (try simp only [ByteArray.size_append]);omega)) (c6 Z (g8 Z Z (b8 Z Z) (S4 (hK13 _ ?_)))))))
    clear hK13 K13
    refine d8 (A2 ((t.extract ((0:Int)).toNat x1.1.toNat++t.extract (x1.1+1).toNat ((t.size:Int)).toNat,x3.2)) (n9 Z (j8 ?_) Z (AftOK.stays Z ?_ Z AftOK.nil)) (⟨?_,?_⟩))
    all_goals (first | rfl | exact hc3.mono J | (show ByteArray.size _<=_;(try simp only [ByteArray.size_append]);omega))
theorem Z3 {x:Cur} {n:Int} (h:okC n x) (hn:n<=880000000000):CtrX (α:=Lg×Cur) Tryz.prog 61 [.ptr 0 0] [.box [.lst 1 (x.c.map B4),.v (.int .i64 x.a),.v (.int .u64 x.s)]] (λy=>(y.1.d.size+y.1.p.size<=1048576)/\okC (n+400) y.2) (λy=>.one (.v (b0V y.1))) (λy=>[some (.box [.lst 1 (y.2.c.map B4),.v (.int .i64 y.2.a),.v (.int .u64 y.2.s)])]):=by
 refine CtrX.of (n:=30) (k:=1) G Tryz.func61 Z Y Z Z Z Z (λ_=>Z) Z Z (λw0 _ hpin=>?_)
 refine c1 (λK1 hK1=>?_)
 refine b6 (a7 Z (d7 G 2 Z Z Z Z Z (b4 (hK1 _ ?_))))
 clear hK1 K1
 refine c1 (λK2 hK2=>?_)
 refine b6 (a7 Z (b5 Z Z (b9 Z Z) (a7 Z ?_)))
 refine d6 2 [0] Z Z Z (a6m h J) Z (RowsIn.cons Z RowsIn.nil) Z (λ_=>Z) Z (λx1 ⟨hv1,hc1⟩=>?_)
 refine a7 Z (d7 G 3 Z Z Z Z Z (a7 Z (e9 G Z Z Z Z Z Z Z Z Z Z Z (b4 (hK2 _ ?_)))))
 clear hK2 K2
 refine c1 (λK3 hK3=>?_)
 refine c1 (λK4 hK4=>?_)
 refine b6 (a7 Z (b5 Z Z (b9 Z Z) (a7 Z ?_)))
 refine d6 3 [0] Z Z Z (p9 hc1 J (24)) Z (RowsIn.cons Z RowsIn.nil) Z (λ_=>Z) Z (λx2 ⟨hv2,hc2⟩=>?_)
 refine b4 (hK4 _ ?_)
 clear hK4 K4
 refine o7 ?_
 refine c1 (λK5 hK5=>?_)
 refine b6 (a7 Z (b5 Z Z (t8 Z Z Z Z) (a7 Z (b5 Z Z (b8 Z Z) (b4 (hK5 _ ?_))))))
 clear hK5 K5
 refine l4 Z (λh1=>?_) (λh1=>?_)
 ·try rw [h1]
  try simp only [rfb] at h1
  refine b6 (a7 Z (b5 Z Z (d3 G Z Z Z Z) (a7 Z (b5 Z Z (f7 G Z Z Z Z Z Z Z) (a7 Z ?_)))))
  first | refine b5 Z Z (p5 Z Z Z Z J J) ?_ | refine b5 Z Z (s3 Z Z Z Z) ?_
  refine a7 Z (b5 Z Z (d3 G Z Z Z Z) (a7 Z (e9 G Z Z Z Z Z Z Z Z Z Z Z (b4 (hK3 _ ?_)))))
  clear hK3 K3
  refine c1 (λK6 hK6=>?_)
  refine b6 (a7 Z (b5 Z Z (d1 G Z Z Z Z Z Z) (a7 Z (e9 G Z Z Z Z Z Z Z Z Z Z Z (b4 (hK6 _ ?_))))))
  clear hK6 K6
  refine d8 (A2 ((⟨x1.1.d,x1.1.p,IntKind.i64.wrap (x1.1.n+1)⟩,x2.2)) (n9 Z (C2 Z ?_) Z (AftOK.stays Z ?_ Z AftOK.nil)) (⟨?_,?_⟩))
  all_goals (first | rfl | exact hc2.mono J | (show ByteArray.size _+ByteArray.size _<=1048576;(try simp only [ByteArray.size_append]);omega))
 ·try rw [h1]
  try simp only [rfb] at h1
  refine c1 (λK7 hK7=>?_)
  refine b6 (a7 Z (b5 Z Z (t8 Z Z Z Z) (a7 Z (b5 Z Z (b8 Z Z) (b4 (hK7 _ ?_))))))
  clear hK7 K7
  refine l4 Z (λh2=>?_) (λh2=>?_)
  ·try rw [h2]
   try simp only [rfb] at h2
   refine b6 (a7 Z (b5 Z Z (b9 Z Z) (a7 Z (b5 Z Z (d3 G Z Z Z Z) (a7 Z (b5 Z Z (f7 G Z Z Z Z Z Z Z) (a7 Z ?_)))))))
   refine d6 3 [0] Z Z Z (a3Z hc2 J x1.1.p (⟨#[35,64,10,48,49]⟩:ByteArray) J (by decide)) Z (RowsIn.cons Z RowsIn.nil) Z (λ_=>Z) Z (λx3 ⟨hv3,hc3⟩=>?_)
   refine a7 Z (b5 Z Z (d3 G Z Z Z Z) (a7 Z (e9 G Z Z Z Z Z Z Z Z Z Z Z (b4 (hK3 _ ?_)))))
   clear hK3 K3
   refine c1 (λK8 hK8=>?_)
   refine b6 (a7 Z (b5 Z Z (d1 G Z Z Z Z Z Z) (a7 Z (e9 G Z Z Z Z Z Z Z Z Z Z Z (b4 (hK8 _ ?_))))))
   clear hK8 K8
   refine d8 (A2 ((⟨x1.1.d,x3.1,x1.1.n⟩,x3.2)) (n9 Z (C2 Z ?_) Z (AftOK.stays Z ?_ Z AftOK.nil)) (⟨?_,?_⟩))
   all_goals (first | rfl | exact hc3.mono J | (show ByteArray.size _+ByteArray.size _<=1048576;(try simp only [ByteArray.size_append]);omega))
  ·try rw [h2]
   try simp only [rfb] at h2
   refine c1 (λK9 hK9=>?_)
   refine b6 (a7 Z (b5 Z Z (t8 Z Z Z Z) (a7 Z (b5 Z Z (b8 Z Z) (b4 (hK9 _ ?_))))))
   clear hK9 K9
   refine l4 Z (λh3=>?_) (λh3=>?_)
   ·try rw [h3]
    try simp only [rfb] at h3
    refine b6 (a7 Z (b5 Z Z (d3 G Z Z Z Z) (a7 Z (b5 Z Z (f7 G Z Z Z Z Z Z Z) (a7 Z (b5 Z Z (d3 G Z Z Z Z) (a7 Z (b5 Z Z (f7 G Z Z Z Z Z Z Z) (a7 Z (b5 Z Z (s6 Z Z Z J) (a7 Z (b5 Z Z (d3 G Z Z Z Z) (a7 Z (e9 G Z Z Z Z Z Z Z Z Z Z Z (b4 (hK3 _ ?_))))))))))))))))
    clear hK3 K3
    refine c1 (λK10 hK10=>?_)
    refine b6 (a7 Z (b5 Z Z (d1 G Z Z Z Z Z Z) (a7 Z (e9 G Z Z Z Z Z Z Z Z Z Z Z (b4 (hK10 _ ?_))))))
    clear hK10 K10
    refine d8 (A2 ((⟨x1.1.d++x1.1.p,x1.1.p,x1.1.n⟩,x2.2)) (n9 Z (C2 Z ?_) Z (AftOK.stays Z ?_ Z AftOK.nil)) (⟨?_,?_⟩))
    all_goals (first | rfl | exact hc2.mono J | (show ByteArray.size _+ByteArray.size _<=1048576;(try simp only [ByteArray.size_append]);omega))
   ·try rw [h3]
    try simp only [rfb] at h3
    refine p8 (hK3 _ ?_)
    clear hK3 K3
    refine c1 (λK11 hK11=>?_)
    refine b6 (a7 Z (b5 Z Z (d1 G Z Z Z Z Z Z) (a7 Z (e9 G Z Z Z Z Z Z Z Z Z Z Z (b4 (hK11 _ ?_))))))
    clear hK11 K11
    refine d8 (A2 ((x1.1,x2.2)) (n9 Z (C2 Z ?_) Z (AftOK.stays Z ?_ Z AftOK.nil)) (⟨?_,?_⟩))
    all_goals (first | rfl | exact hc2.mono J | (show ByteArray.size _+ByteArray.size _<=1048576;(try simp only [ByteArray.size_append]);omega))
theorem E5 (l:List Int) (hn:l.length<=1048576):Ctr Tryz.prog 136 [.lst 1 (l.map Rf.r7)] (.one (.fr 3 1 (l.map Rf.r7))):=by
 refine Ctr.of (n:=6) G Tryz.func136 Z a8 Z Z Z (λw0=>?_)
 exact c3O
theorem H6 (l:List Int) (hn:l.length<=1048576):Ctr Tryz.prog 182 [.lst 1 (l.map Rf.r7)] (.one (.fr 3 1 (l.map Rf.r7))):=by
 refine Ctr.of (n:=6) G Tryz.func182 Z a8 Z Z Z (λw0=>?_)
 exact c3O
theorem a6n:a02 Tryz.prog 104 [.int .i64,.int .i64,.int .i64]=true:=by kernel_rfl
theorem a3T (x:Int):Ctr Tryz.prog 277 [.v (.int .i64 x)] (.one (.v (.bool (false)))):=by
 refine Ctr.of (n:=6) G Tryz.func277 Z a8 Z Z Z (λw0=>?_)
 refine zf1 ?_
 all_goals (simp)
theorem a12 (x y:Int):Ctr Tryz.prog 230 [.v (.int .i64 x),.v (.int .i64 y)] (.one (.v (.int .i64 (a56 x y)))):=by
 refine Ctr.of (n:=20) G Tryz.func230 Z a8 Z Z Z (λw0=>?_)
 refine zcl (a3T _) ?_
 refine zcl (a3T _) ?_
 refine zwf ?_
 refine zwf ?_
 refine zcd (λh1=>?_) (λh1=>?_)
 ·exact c6X
 refine zcd (λh2=>?_) (λh2=>?_)
 ·exact c6X
 exact c6X
theorem b3h (l:List Int) (hn:l.length<=1048576):Ctr Tryz.prog 229 [.lst 1 (l.map Rf.r7)] (.one (.v (.int .i64 (orI l)))):=by
 refine Ctr.of (n:=18) G Tryz.func229 Z a8 Z Z Z (λw0=>?_)
 refine zgo ?_
 refine i7 [3,6,7] [] (λ(i:Nat)=>[(8,.v (.int .i64 (i:Int)))]) (λ(i:Nat)=>[]) (λ(i:Nat)=>i<=l.length/\∀j,j < i→l.getD j default=0) (λ(i:Nat)=>l.length - i) 0 Z Z ?_ ?_ ?_ ?_
 ·exact T7
 ·exact E7
 ·exact trivial
 intro i hinv
 refine vm2 ?_
 refine zcd (λh1=>?_) (λh1=>?_)
 ·refine zcd (λh2=>?_) (λh2=>?_)
  ·refine zf1 ?_
   all_goals exact c3c
  exact c0b
 refine zf1 ?_
 all_goals exact c3c
theorem B5 (a b:Wtr):Ctr Tryz.prog 176 [.v (a5C a),.v (a5C b)] (.one (.v (.int .i64 (urg a b)))):=by
 refine Ctr.of (n:=17) G Tryz.func176 Z a8 Z Z Z (λw0=>?_)
 refine c1Y ?_
 refine zgn ?_
 refine s9 (l2 13 [0,1] mixed a8 Z Z (λr0=>?_) (λ_ h=>h))
 refine a06 ?_
 refine zsa 5 ?_
 refine zsa 6 ?_
 refine zsa 7 ?_
 refine zsa 8 ?_
 refine b7 (rs:=[4]) a8 Z (AllB.cons ?_ AllB.nil)
 refine g9 [0,1] Z Z (b5 Z Z (j4 Z (ArgsOK.of Z) (a12 _ _) Z) (b4 ⟨Z,?_⟩))
 refine b7 (rs:=[9]) a8 Z (AllB.cons ?_ AllB.nil)
 refine g9 [0,1] Z Z (b5 Z Z (j4 Z (ArgsOK.of Z) (a12 _ _) Z) (b4 ⟨Z,?_⟩))
 refine b7 (rs:=[10]) a8 Z (AllB.cons ?_ AllB.nil)
 refine g9 [0,1] Z Z (m5 G 3 Z Z Z Z Z Z Z Z (b4 ⟨Z,?_⟩))
 refine b7 (rs:=[11]) a8 Z (AllB.cons ?_ AllB.nil)
 refine g9 [0,1] Z Z (b5 Z Z (j4 Z (ArgsOK.of Z) (b3h [a56 a.p b.p,a56 a.q b.q] (by simp)) Z) (b4 ⟨Z,?_⟩))
 refine zsa 12 ?_
 refine F3 ?_
 refine zf1 ?_
 all_goals (rw [c06])
theorem E4 (x:Slot):Ctr Tryz.prog 142 [.v (a8S x)] (.one (.v (a5C (wOf x)))):=by
 refine Ctr.of (n:=8) G Tryz.func142 Z a8 Z Z Z (λw0=>?_)
 refine vm1 ?_
 refine vm9 ?_
 refine zgo ?_
 refine d8 (O3 Z (C2 Z ?_))
 all_goals (rfl)
theorem T9 (a b c d:Int):Ctr Tryz.prog 260 [.v (.int .i64 a),.v (.int .i64 b),.v (.int .i64 c),.v (.int .i64 d)] (.one (.v (.bool (lessW ⟨b,a⟩ ⟨d,c⟩)))):=by
 refine Ctr.of (n:=22) G Tryz.func260 Z a8 Z Z Z (λw0=>?_)
 refine zcd (λh1=>?_) (λh1=>?_)
 ·exact c0o
 refine zcd (λh2=>?_) (λh2=>?_)
 ·exact c0o
 exact c0o
theorem a7B (x:Slot) (irq:Int):Ctr Tryz.prog 252 [.v (a8S x),.ept [.int .i64 irq]] (.one (.v (.bool (fdP irq x)))):=by
 refine Ctr.of (n:=13) G Tryz.func252 Z a8 Z Z Z (λw0=>?_)
 refine vm1 ?_
 refine zcd (λh1=>?_) (λh1=>?_)
 ·exact c39
 exact c39
theorem Q9 (xs:List Slot) (f:Nat) (c:List Value) (p:Slot→Bool) (hl:xs.length<=1048576) (hf:∀i,i < xs.length→Ctr Tryz.prog f [.v (a8S (xs.getD i default)),.ept c] (.one (.v (.bool (p (xs.getD i default)))))):Ctr Tryz.prog 251 [.lst 3 (xs.map j5),.fnc f [.ept c]] (.one (.v (.int .i64 (P0 (λi=>p (xs.getD i default)) xs.length)))):=by
 exact c4A
theorem N9 (xs:List Slot) (f:Nat)  (p:Slot→Bool) (hl:xs.length<=1048576) (hf:∀i,i < xs.length→Ctr Tryz.prog f [.v (a8S (xs.getD i default))] (.one (.v (.bool (p (xs.getD i default)))))):Ctr Tryz.prog 251 [.lst 3 (xs.map j5),.fnc f []] (.one (.v (.int .i64 (P0 (λi=>p (xs.getD i default)) xs.length)))):=by
 exact c4A
theorem H3 (sl:List Slot) (irq:Int) (hl:sl.length<=1048576):Ctr Tryz.prog 195 [.lst 3 (sl.map j5),.v (.int .i64 irq)] (.one (.v (.int .i64 (p7 sl irq)))):=by
 refine Ctr.of (n:=8) G Tryz.func195 Z a8 Z Z Z (λw0=>?_)
 refine vm1 ?_
 refine vm3 ?_
 refine b5 Z Z (a9U Z Z) ?_
 refine zcl (Q9 sl 252 [.int .i64 irq] (λx=>fdP irq x) hl (λk hk=>a7B _ _)) ?_
 exact b0C
theorem F0 (sl:List Slot) (irq:Int) (hl:sl.length<=1048576):Ctr Tryz.prog 214 [.lst 3 (sl.map j5),.v (.int .i64 irq)] (.one (.v (.int .i64 (p7 sl irq)))):=by
 refine Ctr.of (n:=28) G Tryz.func214 Z a8 Z Z Z (λw0=>?_)
 refine zgo ?_
 refine i7 [0,1] [] (λ(i:Nat)=>[(5,.v (.int .i64 (i:Int)))]) (λ(i:Nat)=>[]) (λ(i:Nat)=>i<=sl.length/\∀j,j < i→fdP irq (sl.getD j default)=false) (λ(i:Nat)=>sl.length - i) 0 Z Z ?_ ?_ ?_ ?_
 ·exact T7
 ·exact E7
 ·exact trivial
 intro i hinv
 refine vm2 ?_
 refine zcd (λh1=>?_) (λh1=>?_)
 ·refine zcd (λh2=>?_) (λh2=>?_)
  ·refine zcd (λh3=>?_) (λh3=>?_)
   ·refine zf1 ?_
    all_goals exact c3d
   exact c0k
  refine zwf ?_
  exact c0k
 refine zf1 ?_
 all_goals exact c3d
theorem a5q (x:Slot):Ctr Tryz.prog 284 [.v (a8S x)] (.one (.v (.bool (emP x)))):=by
 refine Ctr.of (n:=6) G Tryz.func284 Z a8 Z Z Z (λw0=>?_)
 exact c4D
theorem a13 (sl:List Slot)  (hl:sl.length<=1048576):Ctr Tryz.prog 240 [.lst 3 (sl.map j5)] (.one (.v (.int .i64 (freS sl)))):=by
 refine Ctr.of (n:=5) G Tryz.func240 Z a8 Z Z Z (λw0=>?_)
 refine vm3 ?_
 refine b5 Z Z (j4 Z (ArgsOK.fn2 (ArgsOK.of Z)) (N9 sl 284 (λx=>emP x) hl (λk hk=>a5q _)) Z) ?_
 exact b0C
theorem a2q (sl:List Slot)  (hl:sl.length<=1048576):Ctr Tryz.prog 262 [.lst 3 (sl.map j5)] (.one (.v (.int .i64 (freS sl)))):=by
 refine Ctr.of (n:=17) G Tryz.func262 Z a8 Z Z Z (λw0=>?_)
 refine zgo ?_
 refine i7 [0] [] (λ(i:Nat)=>[(3,.v (.int .i64 (i:Int)))]) (λ(i:Nat)=>[]) (λ(i:Nat)=>i<=sl.length/\∀j,j < i→emP (sl.getD j default)=false) (λ(i:Nat)=>sl.length - i) 0 Z Z ?_ ?_ ?_ ?_
 ·exact T7
 ·exact E7
 ·exact trivial
 intro i hinv
 refine vm2 ?_
 refine zcd (λh1=>?_) (λh1=>?_)
 ·refine zcd (λh2=>?_) (λh2=>?_)
  ·refine zf1 ?_
   all_goals exact c3e
  exact c0k
 refine zf1 ?_
 all_goals exact c3e
theorem a89 (sl:List Slot)  (hl:sl.length<=1048576):Ctr Tryz.prog 237 [.lst 3 (sl.map j5)] (.one (.v (.bool (a55 sl)))):=by
 refine Ctr.of (n:=47) G Tryz.func237 Z a8 Z Z Z (λw0=>?_)
 refine zcd (λh1=>?_) (λh1=>?_)
 ·exact b7J
 refine zgo ?_
 refine i7 [0,8,9] [] (λ(i:Nat)=>[(10,.v (.int .i64 (i:Int)))]) (λ(i:Nat)=>[]) (λ(i:Nat)=>i<=sl.length/\∀j,j < i→J3 sl j=true) (λ(i:Nat)=>sl.length - i) 0 Z Z ?_ ?_ ?_ ?_
 ·exact T7
 ·exact E7
 ·exact trivial
 intro i hinv
 refine vm2 ?_
 refine zcd (λh2=>?_) (λh2=>?_)
 ·refine a4y ?_
  refine zcd (λh3=>?_) (λh3=>?_)
  ·refine vm3 ?_
   refine b5 Z Z (c2m [.int .i64,.int .i64,.int .i64] Z Z Z Z Z Z Z (.inl Z) (.inl Z) a6n ⟨_,_,Z,⟨_,Z⟩,_,_,Z,⟨_,Z⟩,_,_,Z,⟨_,Z⟩,Z⟩ ⟨_,_,Z,⟨_,Z⟩,_,_,Z,⟨_,Z⟩,_,_,Z,⟨_,Z⟩,Z⟩) ?_
   refine zcd (λh4=>?_) (λh4=>?_)
   ·exact b7J
   refine zgo ?_
   refine ⟨(i+1),?_,?_,⟨⟨_,Z,by rfl⟩,Z,trivial⟩,trivial,Z,Z,Z⟩
   ·exact c3M
   omega
  refine zgd ?_
  refine zcl (H9 _ _ _) ?_
  refine zcd (λh5=>?_) (λh5=>?_)
  ·refine zwt ?_
   exact b7J
  refine zcl (a08 _) ?_
  refine zcd (λh6=>?_) (λh6=>?_)
  ·refine zwt ?_
   exact b7J
  refine zcl (Y2 _) ?_
  refine zcd (λh7=>?_) (λh7=>?_)
  ·refine zwt ?_
   exact b7J
  refine zgo ?_
  refine c6A ?_
  refine zgo ?_
  refine b02 ?_
  refine g8 Z Z (j4 Z (ArgsOK.of (congrArg some (congrArg (λz=>[AV.lst 3 z,.v (.int .i64 (sl.getD i default).q)]) (a2x (xs:=sl) (i:=i))))) (Ctr.eq (H3 (sl.take i) _ m7) (congrArg (λz=>Res.one (.v (.int .i64 z))) (b8p J))) Z) ?_
  refine zcd (λh8=>?_) (λh8=>?_)
  ·exact b7J
  refine zgo ?_
  refine ⟨(i+1),?_,?_,⟨⟨_,Z,by rfl⟩,Z,trivial⟩,trivial,Z,Z,Z⟩
  ·exact c3M
  omega
 refine zf1 ?_
 all_goals exact c2X
theorem a5K (sl:List Slot)  (hl:sl.length<=1048576):Ctr Tryz.prog 261 [.lst 3 (sl.map j5)] (.one (.v (.bool (a55 sl)))):=by
 refine Ctr.of (n:=60) G Tryz.func261 Z a8 Z Z Z (λw0=>?_)
 refine zgo ?_
 refine i7 [0] [] (λ(i:Nat)=>[(3,.v (.int .i64 (i:Int)))]) (λ(i:Nat)=>[]) (λ(i:Nat)=>i<=sl.length/\∀j,j < i→J3 sl j=true) (λ(i:Nat)=>sl.length - i) 0 Z Z ?_ ?_ ?_ ?_
 ·exact T7
 ·exact E7
 ·exact trivial
 intro i hinv
 refine vm2 ?_
 refine zcd (λh1=>?_) (λh1=>?_)
 ·refine a4y ?_
  refine b3d ?_
  refine zcd (λh2=>?_) (λh2=>?_)
  ·refine zwt ?_
   exact b7I
  refine zcl (a09 _) ?_
  refine zcd (λh3=>?_) (λh3=>?_)
  ·refine zwt ?_
   exact b7I
  refine zcl (a0q _) ?_
  refine zcd (λh4=>?_) (λh4=>?_)
  ·exact b7I
  refine zcd (λh5=>?_) (λh5=>?_)
  ·refine zcd (λh6=>?_) (λh6=>?_)
   ·refine zwt ?_
    exact b7I
   refine zcd (λh7=>?_) (λh7=>?_)
   ·refine zwt ?_
    exact b7I
   exact c4r
  exact c4r
 refine zf1 ?_
 all_goals exact c2W
theorem a0P (sl:List Slot) (i:Int) (x:Slot) (hl:sl.length<=1048576) (hi:0<=i/\i < sl.length):Ctr Tryz.prog 298 [.lst 3 (sl.map j5),.v (.int .i64 i),.v (a8S x)] (.one (.fr 104 3 ((sl.set i.toNat x).map j5))):=by
 refine Ctr.of (n:=16) G Tryz.func298 Z a8 Z Z Z (λw0=>?_)
 exact c83
theorem N5 (sl:List Slot) (i:Int) (x:Slot) (hl:sl.length<=1048576) (hi:0<=i/\i < sl.length):Ctr Tryz.prog 290 [.lst 3 (sl.map j5),.v (.int .i64 i),.v (a8S x)] (.one (.fr 104 3 ((sl.set i.toNat x).map j5))):=by
 refine Ctr.of (n:=16) G Tryz.func290 Z a8 Z Z Z (λw0=>?_)
 exact c83
theorem U9 (sl:List Slot) (most:Bool) (hl:sl.length<=1048576) (hd:b8n sl):Ctr Tryz.prog 239 [.lst 3 (sl.map j5),.v (.bool most)] (.one (.v (.int .i64 (bstS sl most)))):=by
 refine Ctr.of (n:=38) G Tryz.func239 Z a8 Z Z Z (λw0=>?_)
 refine zgo ?_
 refine i7 [0,1,8,9] [] (λ(i:Nat)=>[(5,.v (.int .i64 (E6 sl most i))),(10,.v (.int .i64 (i:Int)))]) (λ(i:Nat)=>[]) (λ(i:Nat)=>i<=sl.length) (λ(i:Nat)=>sl.length - i) 0 Z Z ?_ ?_ ?_ ?_
 ·exact R9
 ·exact a0O
 ·exact trivial
 intro i hinv
 have hb:=@a03 sl most i
 refine vm2 ?_
 refine zcd (λh1=>?_) (λh1=>?_)
 ·refine a4y ?_
  refine zgd ?_
  refine zcd (λh2=>?_) (λh2=>?_)
  ·refine zcd (λh3=>?_) (λh3=>?_)
   ·refine zwt ?_
    exact c12
   refine zcl (E4 _) ?_
   refine zcl (E4 _) ?_
   refine zcl (B5 _ _) ?_
   refine zgo ?_
   refine b02 ?_
   refine g8 Z Z (c2h (G 4 _ Z).1 Z Z Z) ?_
   refine zcd (λh4=>?_) (λh4=>?_)
   ·exact c12
   exact c12
  refine zwf ?_
  exact c12
 refine zf1 ?_
 all_goals ((rw [b2G J]))
theorem a0Q (sl:List Slot) (hl:sl.length<=1048576):Ctr Tryz.prog 263 [.lst 3 (sl.map j5),.v (.bool true)] (.one (.v (.int .i64 (bstS sl true)))):=by
 refine Ctr.of (n:=66) G Tryz.func263 Z a8 Z Z Z (λw0=>?_)
 refine zgo ?_
 refine i7 [0,1] [] (λ(i:Nat)=>[(5,.v (.int .i64 (E6 sl true i))),(6,.v (.int .i64 (i:Int)))]) (λ(i:Nat)=>[]) (λ(i:Nat)=>i<=sl.length) (λ(i:Nat)=>sl.length - i) 0 Z Z ?_ ?_ ?_ ?_
 ·exact R9
 ·exact a0O
 ·exact trivial
 intro i hinv
 have hb:=@a03 sl true i
 refine vm2 ?_
 refine zcd (λh1=>?_) (λh1=>?_)
 ·refine a4y ?_
  refine zcd (λh2=>?_) (λh2=>?_)
  ·exact ws7
  refine zgd ?_
  refine zcd (λh3=>?_) (λh3=>?_)
  ·refine zwt ?_
   exact ws7
  refine zcl (T9 _ _ _ _) ?_
  refine zcd (λh4=>?_) (λh4=>?_)
  ·refine zwt ?_
   exact ws7
  refine zwf ?_
  exact ws7
 refine zf1 ?_
 all_goals ((rw [b2G J]))
theorem a3U (sl:List Slot) (hl:sl.length<=1048576):Ctr Tryz.prog 263 [.lst 3 (sl.map j5),.v (.bool false)] (.one (.v (.int .i64 (bstS sl false)))):=by
 refine Ctr.of (n:=66) G Tryz.func263 Z a8 Z Z Z (λw0=>?_)
 refine zgo ?_
 refine i7 [0,1] [] (λ(i:Nat)=>[(5,.v (.int .i64 (E6 sl false i))),(6,.v (.int .i64 (i:Int)))]) (λ(i:Nat)=>[]) (λ(i:Nat)=>i<=sl.length) (λ(i:Nat)=>sl.length - i) 0 Z Z ?_ ?_ ?_ ?_
 ·exact R9
 ·exact a0O
 ·exact trivial
 intro i hinv
 have hb:=@a03 sl false i
 refine vm2 ?_
 refine zcd (λh1=>?_) (λh1=>?_)
 ·refine a4y ?_
  refine zcd (λh2=>?_) (λh2=>?_)
  ·exact ws7
  refine zgd ?_
  refine zcd (λh3=>?_) (λh3=>?_)
  ·refine zwt ?_
   exact ws7
  refine zcl (T9 _ _ _ _) ?_
  refine zcd (λh4=>?_) (λh4=>?_)
  ·exact ws7
  exact ws7
 refine zf1 ?_
 all_goals ((rw [b2G J]))
theorem a4F (x:Wtr) (irq:Int):Ctr Tryz.prog 283 [.v (a5C x),.ept [.int .i64 irq]] (.one (.v (.bool (decide (x.q=irq))))):=by
 refine Ctr.of (n:=8) G Tryz.func283 Z a8 Z Z Z (λw0=>?_)
 exact c4D
theorem J9 (xs:List Wtr) (f:Nat) (c:List Value) (p:Wtr→Bool) (hl:xs.length<=1048576) (hf:∀i,i < xs.length→Ctr Tryz.prog f [.v (a5C (xs.getD i default)),.ept c] (.one (.v (.bool (p (xs.getD i default)))))):Ctr Tryz.prog 196 [.lst 2 (xs.map j9),.fnc f [.ept c]] (.one (.v (.int .i64 (P0 (λi=>p (xs.getD i default)) xs.length)))):=by
 exact c4B
theorem a1v (wa:List Wtr) (irq:Int) (hw:wa.length<=1048576):Ctr Tryz.prog 238 [.lst 2 (wa.map j9),.v (.int .i64 irq)] (.one (.v (.int .i64 (inW wa irq)))):=by
 refine Ctr.of (n:=8) G Tryz.func238 Z a8 Z Z Z (λw0=>?_)
 refine vm1 ?_
 refine vm3 ?_
 refine b5 Z Z (a9U Z Z) ?_
 refine zcl (J9 wa 283 [.int .i64 irq] (λx=>decide (x.q=irq)) hw (λk hk=>a4F _ _)) ?_
 exact b0C
theorem b3i (wa:List Wtr) (irq:Int) (hw:wa.length<=1048576):Ctr Tryz.prog 257 [.lst 2 (wa.map j9),.v (.int .i64 irq)] (.one (.v (.int .i64 (inW wa irq)))):=by
 refine Ctr.of (n:=20) G Tryz.func257 Z a8 Z Z Z (λw0=>?_)
 refine zgo ?_
 refine i7 [0,1] [] (λ(i:Nat)=>[(5,.v (.int .i64 (i:Int)))]) (λ(i:Nat)=>[]) (λ(i:Nat)=>i<=wa.length/\∀j,j < i→decide ((wa.getD j default).q=irq)=false) (λ(i:Nat)=>wa.length - i) 0 Z Z ?_ ?_ ?_ ?_
 ·exact T7
 ·exact E7
 ·exact trivial
 intro i hinv
 refine vm2 ?_
 refine zcd (λh1=>?_) (λh1=>?_)
 ·refine zcd (λh2=>?_) (λh2=>?_)
  ·refine zf1 ?_
   all_goals exact c3f
  refine zgo ?_
  refine ⟨(i+1),?_,?_,⟨⟨_,Z,by rfl⟩,Z,trivial⟩,trivial,Z,Z,Z⟩
  ·exact ⟨by omega,s4 hinv.2 (decide_eq_false j7)⟩
  omega
 refine zf1 ?_
 all_goals exact c3f
end Go.Proofs.YtdhckhjphmjniaaGreatDoor
