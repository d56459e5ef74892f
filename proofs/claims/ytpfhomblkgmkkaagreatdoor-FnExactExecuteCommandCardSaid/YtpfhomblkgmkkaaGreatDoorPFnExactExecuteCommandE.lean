/- Texts merged into one: L1, N, P2, L2, L3, Q1, F1, W4. -/
import Derived.Test.YtpfhomblkgmkkaaGreatDoorPFnExactExecuteCommandD
set_option maxHeartbeats 4000000
set_option linter.unusedSimpArgs false
set_option linter.unusedVariables false
set_option maxRecDepth 20000
namespace Go.Proofs.YtpfhomblkgmkkaaGreatDoor
open Go Go.Rf
theorem a3F (s:ByteArray) (hs:s.size<=9223372036854775807):Ctr Tryz.prog 68 [.v (.string s)] (.one (.v (.bool (Y1 s)))):=by
 refine Ctr.of (n:=26) G Tryz.func68 Z a8 Z Z Z (λw0=>?_)
 refine zgo ?_
 refine e6 [0] [] (λ(i:Nat)=>[(3,.v (.int .i64 (i:Int)))]) (λ(i:Nat)=>[]) (λ(i:Nat)=>i<=s.size/\∀j,j < i→(a6U s) j=true) (λ(i:Nat)=>s.size - i) 0 Z Z ?_ ?_ ?_ ?_
 ·exact E5
 ·exact u6
 ·exact trivial
 intro i hinv
 have hbb:=a5G s i
 have hbi:p6 s i=((s.data.toList.getD ((i:Int)).toNat 0).toNat:Int):=rfl
 refine vm4 ?_
 refine a47 ?_
 refine zcd (λh1=>?_) (λh1=>?_)
 ·refine p8 ?_
  refine b7c ?_
  refine zcd (λh2=>?_) (λh2=>?_)
  ·refine zwt ?_
   exact c1y
  refine zgo ?_
  refine a0I ?_
  refine b7c ?_
  refine zcd (λh3=>?_) (λh3=>?_)
  ·refine zwt ?_
   exact c1y
  exact c3N
 refine zf1 ?_
 all_goals exact c5N
theorem a2C (s:ByteArray) (k:Int) (hs:s.size<=9223372036854775807):Ctr Tryz.prog 55 [.v (.string s),.v (.int .i64 k)] (.one (.v (.bool (Y1 s && decide ((s.size:Int)<=k))))):=by
 refine Ctr.of (n:=28) G Tryz.func55 Z a8 Z Z Z (λw0=>?_)
 refine zgo ?_
 refine e6 [0,1] [] (λ(i:Nat)=>[(5,.v (.int .i64 (i:Int)))]) (λ(i:Nat)=>[]) (λ(i:Nat)=>i<=s.size/\∀j,j < i→(a6U s) j=true) (λ(i:Nat)=>s.size - i) 0 Z Z ?_ ?_ ?_ ?_
 ·exact E5
 ·exact u6
 ·exact trivial
 intro i hinv
 have hbb:=a5G s i
 have hbi:p6 s i=((s.data.toList.getD ((i:Int)).toNat 0).toNat:Int):=rfl
 refine vm4 ?_
 refine a47 ?_
 refine zcd (λh1=>?_) (λh1=>?_)
 ·refine c7O ?_
  refine b2L ?_
  refine zcd (λh2=>?_) (λh2=>?_)
  ·have hin:=a9e.mp h2
   refine zwt ?_
   exact c1y
  have hin:=s2.mp h2
  exact c3N
 refine a47 ?_
 refine zf1 ?_
 all_goals exact c5N
theorem a8x (s:ByteArray) (b:Int) (hs:s.size<=9223372036854775807):Ctr Tryz.prog 56 [.v (.string s),.v (.int .u8 b)] (.one (.v (.bool (l7 s b)))):=by
 refine Ctr.of (n:=17) G Tryz.func56 Z a8 Z Z Z (λw0=>?_)
 refine zgo ?_
 refine e6 [0,1] [] (λ(i:Nat)=>[(5,.v (.int .i64 (i:Int)))]) (λ(i:Nat)=>[]) (λ(i:Nat)=>i<=s.size/\∀j,j < i→((λj=>!(p6 s j==b))) j=true) (λ(i:Nat)=>s.size - i) 0 Z Z ?_ ?_ ?_ ?_
 ·exact E5
 ·exact u6
 ·exact trivial
 intro i hinv
 have hbb:=a5G s i
 have hbi:p6 s i=((s.data.toList.getD ((i:Int)).toNat 0).toNat:Int):=rfl
 refine vm4 ?_
 refine a47 ?_
 refine zcd (λh1=>?_) (λh1=>?_)
 ·refine p8 ?_
  refine b7c ?_
  refine zcd (λh2=>?_) (λh2=>?_)
  ·refine zf1 ?_
   all_goals exact c2P
  refine zgo ?_
  refine ⟨(i+1),?_,?_,⟨⟨_,Z,by rfl⟩,Z,trivial⟩,trivial,Z,Z,Z⟩
  ·refine ⟨by omega,o9 hinv.2 ?_⟩;(simp only [Bool.not_eq_true',beq_eq_false_iff_ne,ne_eq];omega)
  omega
 refine zf1 ?_
 all_goals exact c2P
theorem a0F (x:Rec) (h0:x.c.size<=9223372036854775807/\x.r.size<=9223372036854775807):Ctr Tryz.prog 28 [.v (b3d x)] (.one (.v (.bool (C6 x)))):=by
 refine Ctr.of (n:=22) G Tryz.func28 Z a8 Z Z Z (λw0=>?_)
 refine vm3 ?_
 refine J7 ?_
 refine zcd (λh1=>?_) (λh1=>?_)
 ·refine zcl (a2C x.c _ h0.1) ?_
  refine zcd (λh2=>?_) (λh2=>?_)
  ·refine zcl (a8x x.c _ h0.1) ?_
   refine zcd (λh3=>?_) (λh3=>?_)
   ·refine zcl (a2C x.r _ h0.2) ?_
    exact c1v
   exact c1v
  exact c1v
 exact c1v
theorem I1 (x:Rec) (h0:x.c.size<=9223372036854775807/\x.r.size<=9223372036854775807):Ctr Tryz.prog 34 [.v (b3d x)] (.one (.v (.bool (C6 x)))):=by
 refine Ctr.of (n:=29) G Tryz.func34 Z a8 Z Z Z (λw0=>?_)
 refine vm3 ?_
 refine a47 ?_
 refine zcl (C5 _ _ _) ?_
 refine zcd (λh1=>?_) (λh1=>?_)
 ·refine zgo ?_
  refine a0I ?_
  refine b5 Z Z (o8 G Z Z Z) ?_
  refine zcd (λh2=>?_) (λh2=>?_)
  ·refine zcl (a3F x.c h0.1) ?_
   refine zcd (λh3=>?_) (λh3=>?_)
   ·refine zcl (a3F x.r h0.2) ?_
    refine zcd (λh4=>?_) (λh4=>?_)
    ·refine zcl (a0D x.c 64) ?_
     exact b9I
    exact b9I
   exact b9I
  exact b9I
 exact b9I
theorem b2R (s:ByteArray) (hs:s.size<=9223372036854775807):Ctr Tryz.prog 149 [.v (.string s)] (.one (.v (.int .i64 (a6V s s.size)))):=by
 refine Ctr.of (n:=21) G Tryz.func149 Z a8 Z Z Z (λw0=>?_)
 exact c7Z
theorem a8y (s:ByteArray) (hs:s.size<=9223372036854775807):Ctr Tryz.prog 180 [.v (.string s)] (.one (.v (.int .i64 (a6V s s.size)))):=by
 refine Ctr.of (n:=21) G Tryz.func180 Z a8 Z Z Z (λw0=>?_)
 exact c7Z
theorem a1T (n:Int) (h0:-9223372036854775807<=n) (h1:n<=9223372036854775807) (ih:∀k:Int,0<=k→(n < 0∨k < n)→k<=9223372036854775807→Ctr Tryz.prog 101 [.v (.int .i64 k)] (.one (.v (.string (r6 k))))):Ctr Tryz.prog 101 [.v (.int .i64 n)] (.one (.v (.string (r6 n)))):=by
 refine Ctr.of (n:=25) G Tryz.func101 Z Y Z Z Z (λw0=>?_)
 refine d3 (λK1 hK1=>?_)
 refine b8 (a7 Z (b5 Z Z (c6 Z Z) (b6 (hK1 _ ?_))))
 clear hK1 K1
 refine d3 (λK2 hK2=>?_)
 refine d3 (λK3 hK3=>?_)
 refine b8 (a7 Z (b5 Z Z (c7 Z Z) (a7 Z (b5 Z Z (B3 Z Z Z Z) (b6 (hK3 _ ?_))))))
 clear hK3 K3
 refine j9 Z (λh1=>?_) (λh1=>?_)
 ·try rw [h1]
  try simp only [rfb] at h1
  refine d3 (λK4 hK4=>?_)
  refine b8 (a7 Z (b5 Z Z (c7 Z Z) (a7 Z (b5 Z Z (c1M Z Z J J) (a7 Z (b5 Z Z (f7 Z (ArgsOK.of Z) (ih _ J J J) Z) (a7 Z (b5 Z Z (G5 Z Z Z (by first | (have hz:=u9 (n:=-n) J J;rw [r8];simp only [List.size_toArray,List.length_cons,List.length_nil];omega) | (have hz:=u9 (n:=(k:Int) / 10) J J;rw [ByteArray.size_extract];simp only [r8,List.size_toArray,List.length_cons,List.length_nil];omega))) (a7 Z (b5 Z Z (c6 Z Z) (b6 (hK4 _ ?_))))))))))))
  clear hK4 K4
  refine f6 (D0 Z (l4 ?_))
  all_goals clear hK2 K2
  all_goals (first | (rw [a5F h1];done) | (have e:((k:Int)+1).toNat=k+1:=J;rw [e];exact congrArg Value.string ((a1r J).trans (a2b J).symm)) | (have e:((k:Int) % 10).toNat=k % 10:=J;have e2:((k:Int) % 10+1).toNat=k % 10+1:=J;rw [e,e2,a1r J,a3S J];rfl))
 ·try rw [h1]
  try simp only [rfb] at h1
  refine s4 (hK2 _ ?_)
  clear hK2 K2
  refine d3 (λK5 hK5=>?_)
  refine d3 (λK6 hK6=>?_)
  refine b8 (a7 Z (b5 Z Z (c7 Z Z) (a7 Z (b5 Z Z (B3 Z Z Z Z) (b6 (hK6 _ ?_))))))
  clear hK6 K6
  refine j9 Z (λh2=>?_) (λh2=>?_)
  ·try rw [h2]
   try simp only [rfb] at h2
   obtain ⟨k,rfl⟩:∃k:Nat,n=(k:Int):=⟨n.toNat,by omega⟩
   refine d3 (λK7 hK7=>?_)
   refine b8 (a7 Z (b5 Z Z (c7 Z Z) (a7 Z (b5 Z Z (c7 Z Z) (a7 Z ?_)))))
   first | refine b5 Z Z (v7 Z Z Z Z J J) ?_ | refine b5 Z Z (A2 Z Z Z Z) ?_
   refine a7 Z (b5 Z Z (I2 G Z Z Z Z Z J J (by rw [r8];simp only [List.size_toArray,List.length_cons,List.length_nil];omega)) (a7 Z (b5 Z Z (c6 Z Z) (b6 (hK7 _ ?_)))))
   clear hK7 K7
   refine f6 (D0 Z (l4 ?_))
   all_goals clear hK5 K5
   all_goals (first | (rw [a5F h1];done) | (have e:((k:Int)+1).toNat=k+1:=J;rw [e];exact congrArg Value.string ((a1r J).trans (a2b J).symm)) | (have e:((k:Int) % 10).toNat=k % 10:=J;have e2:((k:Int) % 10+1).toNat=k % 10+1:=J;rw [e,e2,a1r J,a3S J];rfl))
  ·try rw [h2]
   try simp only [rfb] at h2
   obtain ⟨k,rfl⟩:∃k:Nat,n=(k:Int):=⟨n.toNat,by omega⟩
   refine s4 (hK5 _ ?_)
   clear hK5 K5
   refine d3 (λK8 hK8=>?_)
   refine a5o mixed Y (j6 Z (s1 Z Z (c7 Z Z) (j6 Z ?_)))
   first | refine s1 Z Z (b6i Z Z Z J J J) ?_ | refine s1 Z Z (c1K Z Z Z J) ?_
   refine j6 Z (s1 Z Z (f7 Z (ArgsOK.of Z) (ih _ J J J) Z) (j6 Z (s1 Z Z (c7 Z Z) (j6 Z ?_))))
   first | refine s1 Z Z (a6K Z Z Z J J) ?_ | refine s1 Z Z (b47 Z Z Z J) ?_
   refine j6 Z (s1 Z Z (c7 Z Z) (j6 Z ?_))
   first | refine s1 Z Z (a6K Z Z Z J J) ?_ | refine s1 Z Z (b47 Z Z Z J) ?_
   refine j6 Z ?_
   first | refine s1 Z Z (v7 Z Z Z Z J J) ?_ | refine s1 Z Z (A2 Z Z Z Z) ?_
   refine j6 Z (s1 Z Z (I2 G Z Z Z Z Z J J (by rw [r8];simp only [List.size_toArray,List.length_cons,List.length_nil];omega)) (j6 Z (s1 Z Z (G5 Z Z Z (by first | (have hz:=u9 (n:=-n) J J;rw [r8];simp only [List.size_toArray,List.length_cons,List.length_nil];omega) | (have hz:=u9 (n:=(k:Int) / 10) J J;rw [ByteArray.size_extract];simp only [r8,List.size_toArray,List.length_cons,List.length_nil];omega))) (j6 Z (s1 Z Z (c6 Z Z) (a8Y (hK8 _ ?_)))))))
   clear hK8 K8
   refine f6 (D0 Z (l4 ?_))
   all_goals (first | (rw [a5F h1];done) | (have e:((k:Int)+1).toNat=k+1:=J;rw [e];exact congrArg Value.string ((a1r J).trans (a2b J).symm)) | (have e:((k:Int) % 10).toNat=k % 10:=J;have e2:((k:Int) % 10+1).toNat=k % 10+1:=J;rw [e,e2,a1r J,a3S J];rfl))
theorem b1M:∀(m:Nat) (n:Int),n.toNat=m→0<=n→n<=9223372036854775807→Ctr Tryz.prog 101 [.v (.int .i64 n)] (.one (.v (.string (r6 n)))):=by
 intro m
 induction m using Nat.strongRecOn with
 | ind m ih =>
  intro n hm h0 h1
  exact a1T n J h1 (λk hk hlt hk1=>ih k.toNat J k Z hk hk1)
theorem w5 (n:Int) (h0:-9223372036854775807<=n) (h1:n<=9223372036854775807):Ctr Tryz.prog 101 [.v (.int .i64 n)] (.one (.v (.string (r6 n)))):=by
 by_cases h:0<=n
 ·exact b1M _ n Z h h1
 exact a1T n h0 h1 (λk hk _ hk1=>b1M _ k Z hk hk1)
theorem b0L (s:ByteArray) (hs:s.size<=9223372036854775807):Ctr Tryz.prog 96 [.v (.string s)] (.many [.v (.int .i64 (nmN s)),.v (.bool (nmK s))]):=by
 have hb0:p6 s 0=((s.data.toList.getD ((0:Int)).toNat 0).toNat:Int):=rfl
 refine Ctr.of (n:=58) G Tryz.func96 Z Y Z Z Z (λw0=>?_)
 refine d3 (λK1 hK1=>?_)
 refine b8 (a7 Z (b5 Z Z (c6 Z Z) (a7 Z (b5 Z Z (c6 Z Z) (b6 (hK1 _ ?_))))))
 clear hK1 K1
 refine d3 (λK2 hK2=>?_)
 refine b8 (a7 Z (b5 Z Z (c7 Z Z) (a7 Z (b5 Z Z (c6 Z Z) (b6 (hK2 _ ?_))))))
 clear hK2 K2
 refine c0g (nt:=58) (λ(a:ByteArray)=>[(4,.v (.string a)),(0,.v (.string s))]) (λ(a:ByteArray)=>[]) (λa=>a=m7 s) 30 [0,4] [] ?_ (λa ha=>?_)
 ·skip
  refine d3 (λK4 hK4=>?_)
  refine b8 (a7 Z (b5 Z Z (c7 Z Z) (a7 Z (b5 Z Z (o8 G Z Z Z) (a7 Z (b5 Z Z (B3 Z Z Z Z) (a7 Z (b5 Z Z (c7 Z Z) (A1 Z Z Z (λh1=>?_) (λh1=>?_))))))))))
  ·try rw [h1]
   try simp only [rfb] at h1
   refine p5 Z Z Z (b5 Z Z (c7 Z Z) (p5 Z Z Z (b5 Z Z (N9 G Z Z Z Z J J) (p5 Z Z Z (b5 Z Z (B3 Z Z Z Z) (a7 Z (b5 Z Z (z8 Z Z Z) (b6 (hK4 _ ?_)))))))))
   clear hK4 K4
   refine j9 Z (λh2=>?_) (λh2=>?_)
   ·try rw [h2]
    try simp only [rfb] at h2
    refine b8 (a7 Z (b5 Z Z (c7 Z Z) (a7 Z (b5 Z Z (I2 G Z Z Z Z Z J J J) (a7 Z (b5 Z Z (c6 Z Z) ?_))))))
    exact b6 ⟨(s.extract ((1:Int)).toNat ((s.size:Int)).toNat),c6B J (by first | assumption | omega),Z,Z,Z,Z⟩
   ·try rw [h2]
    try simp only [rfb] at h2
    exact s4 ⟨s,c1S J,Z,Z,Z,Z⟩
  ·try rw [h1]
   try simp only [rfb] at h1
   refine l9 Z Z Z Z Z Z (l9 Z Z Z Z Z Z (l9 Z Z Z Z Z Z (a7 Z (b5 Z Z (x6 Z Z Z) (b6 (hK4 _ ?_))))))
   clear hK4 K4
   refine K0 Z ?_
   exact s4 ⟨s,c1S J,Z,Z,Z,Z⟩
 ·skip
  subst ha
  have hbl:=c4p (s:=s)
  refine d3 (λK5 hK5=>?_)
  refine d3 (λK6 hK6=>?_)
  refine b8 (a7 Z (b5 Z Z (c7 Z Z) (a7 Z (b5 Z Z (o8 G Z Z Z) (a7 Z (b5 Z Z (f7 Z (ArgsOK.of Z) (X7 _ _ _) Z) (a7 Z (b5 Z Z (a2S Z Z) (b6 (hK6 _ ?_))))))))))
  clear hK6 K6
  refine j9 Z (λh3=>?_) (λh3=>?_)
  ·try rw [h3]
   try simp only [rfb] at h3
   refine d3 (λK7 hK7=>?_)
   refine b8 (a7 Z (b5 Z Z (c6 Z Z) (a7 Z (b5 Z Z (c6 Z Z) (b6 (hK7 _ ?_))))))
   clear hK7 K7
   refine f6 (r5 Z Z Z Z (b4 (l4 ?_) (b4 (l4 ?_) f8)))
   all_goals clear hK5 K5
   all_goals (first | (rw [(b0r (s:=s) h3).1];done) | (rw [(b0r (s:=s) h3).2];done) | (rw [(b0s (s:=s) (i:=i) J (by simp only [Z8,Bool.and_eq_false_iff,decide_eq_false_iff_not];omega)).1];done) | (rw [(b0s (s:=s) (i:=i) J (by simp only [Z8,Bool.and_eq_false_iff,decide_eq_false_iff_not];omega)).2];done) | (rw [(a1A (s:=s) (n:=-dV (m7 s) i) (by have e:i=(m7 s).size:=J;rw [a1y J,e]) (by assumption)).1];done) | (rw [(a1A (s:=s) (n:=-dV (m7 s) i) (by have e:i=(m7 s).size:=J;rw [a1y J,e]) (by assumption)).2];done) | (rw [(a1A (s:=s) (n:=dV (m7 s) i) (by have e:i=(m7 s).size:=J;rw [a1z J,e]) (by assumption)).1];done) | (rw [(a1A (s:=s) (n:=dV (m7 s) i) (by have e:i=(m7 s).size:=J;rw [a1z J,e]) (by assumption)).2];done) | (rw [(a1B (s:=s) (n:=-dV (m7 s) i) (i:=i) h3 J hinv.2 (by have e:i=(m7 s).size:=J;rw [a1y J,e]) (by assumption)).1];done) | (rw [(a1B (s:=s) (n:=-dV (m7 s) i) (i:=i) h3 J hinv.2 (by have e:i=(m7 s).size:=J;rw [a1y J,e]) (by assumption)).2];done) | (rw [(a1B (s:=s) (n:=dV (m7 s) i) (i:=i) h3 J hinv.2 (by have e:i=(m7 s).size:=J;rw [a1z J,e]) (by assumption)).1];done) | (rw [(a1B (s:=s) (n:=dV (m7 s) i) (i:=i) h3 J hinv.2 (by have e:i=(m7 s).size:=J;rw [a1z J,e]) (by assumption)).2];done))
  ·try rw [h3]
   try simp only [rfb] at h3
   have hin:=s2.mp h3
   refine s4 (hK5 _ ?_)
   clear hK5 K5
   refine d3 (λK8 hK8=>?_)
   refine b8 (a7 Z (b5 Z Z (c6 Z Z) (b6 (hK8 _ ?_))))
   clear hK8 K8
   refine d3 (λK9 hK9=>?_)
   refine d3 (λK10 hK10=>?_)
   refine b8 (a7 Z (b5 Z Z (c6 Z Z) (b6 (hK10 _ ?_))))
   clear hK10 K10
   refine r4 ?_
   refine e6 [0,4] [] (λ(i:Nat)=>[(5,.v (.int .i64 (dV (m7 s) i))),(6,.v (.int .i64 (i:Int)))]) (λ(i:Nat)=>[]) (λ(i:Nat)=>i<=(m7 s).size/\∀j,j < i→Z8 (m7 s) j=true) (λ(i:Nat)=>(m7 s).size - i) 0 Z Z ?_ ?_ ?_ ?_
   ·exact E5
   ·exact R5
   ·exact trivial
   ·intro i hinv
    have hi:i<=(m7 s).size:=hinv.1
    have hdl:=c1P hinv.2
    have hbi:p6 (m7 s) i=(((m7 s).data.toList.getD ((i:Int)).toNat 0).toNat:Int):=rfl
    simp only [List.cons_append,List.nil_append]
    refine d3 (λK11 hK11=>?_)
    refine d3 (λK12 hK12=>?_)
    refine b8 (a7 Z (b5 Z Z (c7 Z Z) (a7 Z (b5 Z Z (c7 Z Z) (a7 Z (b5 Z Z (o8 G Z Z Z) (a7 Z (b5 Z Z (B3 Z Z Z Z) (b6 (hK12 _ ?_))))))))))
    clear hK12 K12
    refine j9 Z (λh4=>?_) (λh4=>?_)
    ·try rw [h4]
     try simp only [rfb] at h4
     refine s4 (hK11 _ ?_)
     clear hK11 K11
     refine d3 (λK13 hK13=>?_)
     refine r4 ?_
     refine d3 (λK14 hK14=>?_)
     refine d3 (λK15 hK15=>?_)
     refine b8 (a7 Z (b5 Z Z (c7 Z Z) (a7 Z (b5 Z Z (c7 Z Z) (a7 Z (b5 Z Z (N9 G Z Z Z Z J J) ?_))))))
     refine a7 Z (b5 Z Z (B3 Z Z Z Z) (a7 Z (b5 Z Z (c7 Z Z) (A1 Z Z Z (λh5=>?_) (λh5=>?_)))))
     ·try rw [h5]
      try simp only [rfb] at h5
      refine l9 Z Z Z Z Z Z (l9 Z Z Z Z Z Z (l9 Z Z Z Z Z Z (l9 Z Z Z Z Z Z (a7 Z (b5 Z Z (z8 Z Z Z) (b6 (hK15 _ ?_)))))))
      clear hK15 K15
      refine L8 Z ?_
      refine d3 (λK16 hK16=>?_)
      refine b8 (a7 Z (b5 Z Z (c6 Z Z) (a7 Z (b5 Z Z (c6 Z Z) (b6 (hK16 _ ?_))))))
      clear hK16 K16
      exact c7X
     ·try rw [h5]
      try simp only [rfb] at h5
      refine p5 Z Z Z (b5 Z Z (c7 Z Z) (p5 Z Z Z (b5 Z Z (c7 Z Z) (p5 Z Z Z (b5 Z Z (N9 G Z Z Z Z J J) (p5 Z Z Z (b5 Z Z (B3 Z Z Z Z) (a7 Z (b5 Z Z (x6 Z Z Z) (b6 (hK15 _ ?_)))))))))))
      clear hK15 K15
      refine j9 Z (λh6=>?_) (λh6=>?_)
      ·try rw [h6]
       try simp only [rfb] at h6
       refine d3 (λK17 hK17=>?_)
       refine b8 (a7 Z (b5 Z Z (c6 Z Z) (a7 Z (b5 Z Z (c6 Z Z) (b6 (hK17 _ ?_))))))
       clear hK17 K17
       exact c7X
      ·try rw [h6]
       try simp only [rfb] at h6
       refine s4 (hK14 _ ?_)
       clear hK14 K14
       refine b8 (a7 Z (b5 Z Z (c7 Z Z) (a7 Z ?_)))
       first | refine b5 Z Z (v7 Z Z Z Z J J) ?_ | refine b5 Z Z (A2 Z Z Z Z) ?_
       refine a7 Z (b5 Z Z (c7 Z Z) (a7 Z (b5 Z Z (c7 Z Z) (a7 Z (b5 Z Z (N9 G Z Z Z Z J J) (a7 Z ?_))))))
       first | refine b5 Z Z (v7 Z Z Z Z J J) ?_ | refine b5 Z Z (A2 Z Z Z Z) ?_
       refine a7 Z ?_
       first | refine b5 Z Z (b03 G Z Z Z Z J J) ?_ | refine b5 Z Z (a84 G Z Z Z Z) ?_
       refine a7 Z ?_
       first | refine b5 Z Z (v7 Z Z Z Z J J) ?_ | refine b5 Z Z (A2 Z Z Z Z) ?_
       refine a7 Z (b5 Z Z (c6 Z Z) (b6 (hK13 _ ?_)))
       clear hK13 K13
       refine b8 (a7 Z (b5 Z Z (c7 Z Z) (a7 Z ?_)))
       first | refine b5 Z Z (v7 Z Z Z Z J J) ?_ | refine b5 Z Z (A2 Z Z Z Z) ?_
       refine a7 Z (b5 Z Z (c6 Z Z) ?_)
       refine b6 ⟨(i+1),?_,?_,⟨⟨_,Z,by (first | rfl | exact congrArg (λv=>AV.v (.int .i64 v)) (b5i (t:=m7 s) (i:=i) J J J J))⟩,Z,⟨⟨_,Z,by (first | rfl | exact congrArg (λv=>AV.v (.int .i64 v)) (b5i (t:=m7 s) (i:=i) J J J J))⟩,Z,trivial⟩⟩,trivial,Z,Z,Z⟩
       ·exact ⟨by omega,o9 hinv.2 (by simp only [Z8,Bool.and_eq_true,decide_eq_true_eq];omega)⟩
       ·omega
    ·try rw [h4]
     try simp only [rfb] at h4
     refine X9 (hK9 _ ?_)
     clear hK11 K11 hK9 K9
     refine d3 (λK18 hK18=>?_)
     refine d3 (λK19 hK19=>?_)
     refine b8 (a7 Z (b5 Z Z (c7 Z Z) (a7 Z (b5 Z Z (o8 G Z Z Z) (a7 Z (b5 Z Z (c7 Z Z) (a7 Z (b5 Z Z (o8 G Z Z Z) (a7 Z (b5 Z Z (B3 Z Z Z Z) (b6 (hK19 _ ?_))))))))))))
     clear hK19 K19
     refine j9 Z (λh7=>?_) (λh7=>?_)
     ·try rw [h7]
      try simp only [rfb] at h7
      refine b8 (a7 Z (b5 Z Z (c7 Z Z) (a7 Z (b5 Z Z (c1M Z Z J J) (a7 Z (b5 Z Z (c6 Z Z) (b6 (hK18 _ ?_))))))))
      clear hK18 K18
      refine d3 (λK20 hK20=>?_)
      refine d3 (λK21 hK21=>?_)
      refine b8 (a7 Z (b5 Z Z (c7 Z Z) (a7 Z (b5 Z Z (f7 Z (ArgsOK.of Z) (w5 _ J J) Z) (a7 Z (b5 Z Z (c7 Z Z) (a7 Z (b5 Z Z (s8 Z Z Z Z) (b6 (hK21 _ ?_))))))))))
      clear hK21 K21
      refine j9 Z (λh8=>?_) (λh8=>?_)
      ·try rw [h8]
       try simp only [rfb] at h8
       refine d3 (λK22 hK22=>?_)
       refine b8 (a7 Z (b5 Z Z (c6 Z Z) (a7 Z (b5 Z Z (c6 Z Z) (b6 (hK22 _ ?_))))))
       clear hK22 K22
       refine f6 (r5 Z Z Z Z (b4 (l4 ?_) (b4 (l4 ?_) f8)))
       all_goals clear hK20 K20
       all_goals (first | (rw [(b0r (s:=s) h3).1];done) | (rw [(b0r (s:=s) h3).2];done) | (rw [(b0s (s:=s) (i:=i) J (by simp only [Z8,Bool.and_eq_false_iff,decide_eq_false_iff_not];omega)).1];done) | (rw [(b0s (s:=s) (i:=i) J (by simp only [Z8,Bool.and_eq_false_iff,decide_eq_false_iff_not];omega)).2];done) | (rw [(a1A (s:=s) (n:=-dV (m7 s) i) (by have e:i=(m7 s).size:=J;rw [a1y J,e]) (by assumption)).1];done) | (rw [(a1A (s:=s) (n:=-dV (m7 s) i) (by have e:i=(m7 s).size:=J;rw [a1y J,e]) (by assumption)).2];done) | (rw [(a1A (s:=s) (n:=dV (m7 s) i) (by have e:i=(m7 s).size:=J;rw [a1z J,e]) (by assumption)).1];done) | (rw [(a1A (s:=s) (n:=dV (m7 s) i) (by have e:i=(m7 s).size:=J;rw [a1z J,e]) (by assumption)).2];done) | (rw [(a1B (s:=s) (n:=-dV (m7 s) i) (i:=i) h3 J hinv.2 (by have e:i=(m7 s).size:=J;rw [a1y J,e]) (by assumption)).1];done) | (rw [(a1B (s:=s) (n:=-dV (m7 s) i) (i:=i) h3 J hinv.2 (by have e:i=(m7 s).size:=J;rw [a1y J,e]) (by assumption)).2];done) | (rw [(a1B (s:=s) (n:=dV (m7 s) i) (i:=i) h3 J hinv.2 (by have e:i=(m7 s).size:=J;rw [a1z J,e]) (by assumption)).1];done) | (rw [(a1B (s:=s) (n:=dV (m7 s) i) (i:=i) h3 J hinv.2 (by have e:i=(m7 s).size:=J;rw [a1z J,e]) (by assumption)).2];done))
      ·try rw [h8]
       try simp only [rfb] at h8
       refine s4 (hK20 _ ?_)
       clear hK20 K20
       refine d3 (λK23 hK23=>?_)
       refine b8 (a7 Z (b5 Z Z (c7 Z Z) (a7 Z (b5 Z Z (c6 Z Z) (a7 Z (b5 Z Z (c6 Z Z) (b6 (hK23 _ ?_))))))))
       clear hK23 K23
       exact c7Y
     ·try rw [h7]
      try simp only [rfb] at h7
      refine s4 (hK18 _ ?_)
      clear hK18 K18
      refine d3 (λK24 hK24=>?_)
      refine d3 (λK25 hK25=>?_)
      refine b8 (a7 Z (b5 Z Z (c7 Z Z) (a7 Z (b5 Z Z (f7 Z (ArgsOK.of Z) (w5 _ J J) Z) (a7 Z (b5 Z Z (c7 Z Z) (a7 Z (b5 Z Z (s8 Z Z Z Z) (b6 (hK25 _ ?_))))))))))
      clear hK25 K25
      refine j9 Z (λh9=>?_) (λh9=>?_)
      ·try rw [h9]
       try simp only [rfb] at h9
       refine d3 (λK26 hK26=>?_)
       refine b8 (a7 Z (b5 Z Z (c6 Z Z) (a7 Z (b5 Z Z (c6 Z Z) (b6 (hK26 _ ?_))))))
       clear hK26 K26
       refine f6 (r5 Z Z Z Z (b4 (l4 ?_) (b4 (l4 ?_) f8)))
       all_goals clear hK24 K24
       all_goals (first | (rw [(b0r (s:=s) h3).1];done) | (rw [(b0r (s:=s) h3).2];done) | (rw [(b0s (s:=s) (i:=i) J (by simp only [Z8,Bool.and_eq_false_iff,decide_eq_false_iff_not];omega)).1];done) | (rw [(b0s (s:=s) (i:=i) J (by simp only [Z8,Bool.and_eq_false_iff,decide_eq_false_iff_not];omega)).2];done) | (rw [(a1A (s:=s) (n:=-dV (m7 s) i) (by have e:i=(m7 s).size:=J;rw [a1y J,e]) (by assumption)).1];done) | (rw [(a1A (s:=s) (n:=-dV (m7 s) i) (by have e:i=(m7 s).size:=J;rw [a1y J,e]) (by assumption)).2];done) | (rw [(a1A (s:=s) (n:=dV (m7 s) i) (by have e:i=(m7 s).size:=J;rw [a1z J,e]) (by assumption)).1];done) | (rw [(a1A (s:=s) (n:=dV (m7 s) i) (by have e:i=(m7 s).size:=J;rw [a1z J,e]) (by assumption)).2];done) | (rw [(a1B (s:=s) (n:=-dV (m7 s) i) (i:=i) h3 J hinv.2 (by have e:i=(m7 s).size:=J;rw [a1y J,e]) (by assumption)).1];done) | (rw [(a1B (s:=s) (n:=-dV (m7 s) i) (i:=i) h3 J hinv.2 (by have e:i=(m7 s).size:=J;rw [a1y J,e]) (by assumption)).2];done) | (rw [(a1B (s:=s) (n:=dV (m7 s) i) (i:=i) h3 J hinv.2 (by have e:i=(m7 s).size:=J;rw [a1z J,e]) (by assumption)).1];done) | (rw [(a1B (s:=s) (n:=dV (m7 s) i) (i:=i) h3 J hinv.2 (by have e:i=(m7 s).size:=J;rw [a1z J,e]) (by assumption)).2];done))
      ·try rw [h9]
       try simp only [rfb] at h9
       refine s4 (hK24 _ ?_)
       clear hK24 K24
       refine d3 (λK27 hK27=>?_)
       refine b8 (a7 Z (b5 Z Z (c7 Z Z) (a7 Z (b5 Z Z (c6 Z Z) (a7 Z (b5 Z Z (c6 Z Z) (b6 (hK27 _ ?_))))))))
       clear hK27 K27
       exact c7Y
theorem b0M (s:ByteArray) (hs:s.size<=3900):Ctr Tryz.prog 102 [.v (.string s)] (.one (.v (.string (a0P s)))):=by
 have hsm:=a8L s s.size
 have hz:=u9 (n:=a6V s s.size) J J
 refine Ctr.of (n:=9) G Tryz.func102 Z Y Z Z Z (λw0=>?_)
 refine d3 (λK1 hK1=>?_)
 refine b8 (a7 Z (b5 Z Z (c6 Z Z) (b6 (hK1 _ ?_))))
 clear hK1 K1
 refine d3 (λK2 hK2=>?_)
 refine b8 (a7 Z (b5 Z Z (c7 Z Z) (a7 Z (b5 Z Z (G5 Z Z Z (by (try simp only [ByteArray.size_append,r8,List.size_toArray,List.length_cons,List.length_nil]);omega)) (a7 Z (b5 Z Z (c7 Z Z) (a7 Z (b5 Z Z (f7 Z (ArgsOK.of Z) (b2R _ (by first | assumption | omega)) Z) (a7 Z (b5 Z Z (f7 Z (ArgsOK.of Z) (w5 _ J J) Z) (a7 Z (b5 Z Z (G5 Z Z Z (by (try simp only [ByteArray.size_append,r8,List.size_toArray,List.length_cons,List.length_nil]);omega)) (a7 Z (b5 Z Z (c6 Z Z) (b6 (hK2 _ ?_))))))))))))))))
 clear hK2 K2
 exact b9R
theorem a2J (s:ByteArray) (hs:s.size<=3900) (hst:l7 s 35=false):Ctr Tryz.prog 122 [.v (.string s)] (.many [.v (.string (a0P s)),.v (.bool true)]):=by
 have hsm:=a8L s s.size
 have hz:=u9 (n:=a6V s s.size) J J
 have e35:((UInt8.toNat 35:Nat):Int)=35:=rfl
 have hss:=a1t (s:=s)
 have hse:(a0P s).size=(s++(⟨#[35]⟩:ByteArray)++r6 (a6V s s.size)).size:=rfl
 refine Ctr.of (n:=22) G Tryz.func122 Z Y Z Z Z (λw0=>?_)
 refine d3 (λK1 hK1=>?_)
 refine b8 (a7 Z (b5 Z Z (c6 Z Z) (a7 Z (b5 Z Z (c6 Z Z) (b6 (hK1 _ ?_))))))
 clear hK1 K1
 refine d3 (λK2 hK2=>?_)
 refine d3 (λK3 hK3=>?_)
 refine b8 (a7 Z (b5 Z Z (c7 Z Z) (a7 Z (b5 Z Z (o8 G Z Z Z) (a7 Z (b5 Z Z (B3 Z Z Z Z) (a7 Z (b5 Z Z (c7 Z Z) (A1 Z Z Z (λh1=>?_) (λh1=>?_))))))))))
 ·try rw [h1]
  try simp only [rfb] at h1
  exfalso;omega
 ·try rw [h1]
  try simp only [rfb] at h1
  refine p5 Z Z Z (b5 Z Z (c7 Z Z) (p5 Z Z Z (b5 Z Z (f7 Z (ArgsOK.of Z) (a0D s 35) Z) (a7 Z (b5 Z Z (x6 Z Z Z) (b6 (hK3 _ ?_)))))))
  clear hK3 K3
  refine j9 Z (λh2=>?_) (λh2=>?_)
  ·try rw [h2]
   try simp only [rfb] at h2
   exact absurd (show l7 s 35=true from h2) (by rw [hst];simp)
  ·try rw [h2]
   try simp only [rfb] at h2
   refine s4 (hK2 _ ?_)
   clear hK2 K2
   refine d3 (λK4 hK4=>?_)
   refine b8 (a7 Z (b5 Z Z (c7 Z Z) (a7 Z (b5 Z Z (G5 Z Z Z (by (try simp only [ByteArray.size_append,r8,List.size_toArray,List.length_cons,List.length_nil]);omega)) (a7 Z (b5 Z Z (c7 Z Z) (a7 Z (b5 Z Z (f7 Z (ArgsOK.of Z) (a8y _ (by first | assumption | omega)) Z) (a7 Z (b5 Z Z (f7 Z (ArgsOK.of Z) (x8 _ J J) Z) (a7 Z (b5 Z Z (G5 Z Z Z (by (try simp only [ByteArray.size_append,r8,List.size_toArray,List.length_cons,List.length_nil]);omega)) (a7 Z (b5 Z Z (c6 Z Z) (b6 (hK4 _ ?_))))))))))))))))
   clear hK4 K4
   refine d3 (λK5 hK5=>?_)
   refine d3 (λK6 hK6=>?_)
   refine b8 (a7 Z (b5 Z Z (c7 Z Z) (a7 Z (b5 Z Z (o8 G Z Z Z) (a7 Z (b5 Z Z (B3 Z Z Z Z) (b6 (hK6 _ ?_))))))))
   clear hK6 K6
   refine j9 Z (λh3=>?_) (λh3=>?_)
   ·try rw [h3]
    try simp only [rfb] at h3
    exfalso;have h3q:(4000:Int) < ((a0P s).size:Int):=h3;omega
   ·try rw [h3]
    try simp only [rfb] at h3
    refine s4 (hK5 _ ?_)
    clear hK5 K5
    refine d3 (λK7 hK7=>?_)
    refine b8 (a7 Z (b5 Z Z (c7 Z Z) (a7 Z (b5 Z Z (c6 Z Z) (a7 Z (b5 Z Z (c6 Z Z) (b6 (hK7 _ ?_))))))))
    clear hK7 K7
    refine f6 (r5 Z Z Z Z (b4 (l4 ?_) (b4 (l4 ?_) f8)))
    all_goals (first | rfl | (simp_all;done))
theorem a0C (k:Int) (x:Rec) (hk:0<=k) (hk2:k<=1000000) (hx:C6 x=true):Ctr Tryz.prog 61 [.v (.int .i64 k),.v (b3d x)] (.one (.v (.string (a0q k x)))):=by
 have hbs:=a3T hk J hx
 have hst:=a26 hk hx
 obtain ⟨hx1,hx2,hx3,hx4,hx5⟩:=a1s hx
 have hz:=u9 (n:=k) J J
 have hss:=a1t (s:=G8 k x)
 refine Ctr.of (n:=17) G Tryz.func61 Z Y Z Z Z (λw0=>?_)
 refine d3 (λK1 hK1=>?_)
 refine b8 (a7 Z (A3 1 Z Z Z Z Z Z Z (a7 Z (b5 Z Z (c6 Z Z) (b6 (hK1 _ ?_))))))
 clear hK1 K1
 refine d3 (λK2 hK2=>?_)
 refine a5o mixed Y (j6 Z (s1 Z Z (c7 Z Z) (j6 Z (s1 Z Z (f7 Z (ArgsOK.of Z) (w5 _ J J) Z) (j6 Z (s1 Z Z (G5 Z Z Z (by (try simp only [ByteArray.size_append,r8,List.size_toArray,List.length_cons,List.length_nil]);omega)) (j6 Z (s1 Z Z (m9 G Z Z Z Z) (j6 Z (s1 Z Z (o7 G Z Z Z Z Z Z Z) (j6 Z (s1 Z Z (G5 Z Z Z (by (try simp only [ByteArray.size_append,r8,List.size_toArray,List.length_cons,List.length_nil]);omega)) (j6 Z (s1 Z Z (G5 Z Z Z (by (try simp only [ByteArray.size_append,r8,List.size_toArray,List.length_cons,List.length_nil]);omega)) (j6 Z (s1 Z Z (m9 G Z Z Z Z) (j6 Z (s1 Z Z (o7 G Z Z Z Z Z Z Z) (j6 Z (s1 Z Z (G5 Z Z Z (by (try simp only [ByteArray.size_append,r8,List.size_toArray,List.length_cons,List.length_nil]);omega)) (j6 Z (s1 Z Z (f7 Z (ArgsOK.of Z) (b0M (G8 k x) J) Z) (j6 Z (s1 Z Z (G5 Z Z Z (by (try simp only [ByteArray.size_append,r8,List.size_toArray,List.length_cons,List.length_nil]);omega)) (j6 Z (s1 Z Z (c6 Z Z) (a8Y (hK2 _ ?_))))))))))))))))))))))))))))
 clear hK2 K2
 exact b9R
theorem Z4 (k:Int) (x:Rec) (hk:0<=k) (hk2:k<=1000000) (hx:C6 x=true):Ctr Tryz.prog 76 [.v (.int .i64 k),.v (b3d x)] (.one (.v (.string (a0q k x)))):=by
 have hbs:=a3T hk J hx
 have hst:=a26 hk hx
 obtain ⟨hx1,hx2,hx3,hx4,hx5⟩:=a1s hx
 have hz:=u9 (n:=k) J J
 have hss:=a1t (s:=G8 k x)
 refine Ctr.of (n:=23) G Tryz.func76 Z Y Z Z Z (λw0=>?_)
 refine d3 (λK1 hK1=>?_)
 refine b8 (a7 Z (A3 1 Z Z Z Z Z Z Z (a7 Z (b5 Z Z (c6 Z Z) (b6 (hK1 _ ?_))))))
 clear hK1 K1
 refine d3 (λK2 hK2=>?_)
 refine a5o mixed Y (j6 Z (s1 Z Z (c7 Z Z) (j6 Z (s1 Z Z (f7 Z (ArgsOK.of Z) (x8 _ J J) Z) (j6 Z (s1 Z Z (G5 Z Z Z (by (try simp only [ByteArray.size_append,r8,List.size_toArray,List.length_cons,List.length_nil]);omega)) (j6 Z (s1 Z Z (m9 G Z Z Z Z) (j6 Z (s1 Z Z (o7 G Z Z Z Z Z Z Z) (j6 Z (s1 Z Z (G5 Z Z Z (by (try simp only [ByteArray.size_append,r8,List.size_toArray,List.length_cons,List.length_nil]);omega)) (j6 Z (s1 Z Z (G5 Z Z Z (by (try simp only [ByteArray.size_append,r8,List.size_toArray,List.length_cons,List.length_nil]);omega)) (j6 Z (s1 Z Z (m9 G Z Z Z Z) (j6 Z (s1 Z Z (o7 G Z Z Z Z Z Z Z) (j6 Z (s1 Z Z (G5 Z Z Z (by (try simp only [ByteArray.size_append,r8,List.size_toArray,List.length_cons,List.length_nil]);omega)) (j6 Z (s1 Z Z (f7 Z (ArgsOK.of Z) (a2J (G8 k x) J hst) Z) (j6 Z (s1 Z Z (c7 Z Z) (j6 Z (s1 Z Z (j7 Z Z Z) (j6 Z (s1 Z Z (j7 Z Z Z) (j6 Z (s1 Z Z (c6 Z Z) (j6 Z (s1 Z Z (c6 Z Z) (a8Y (hK2 _ ?_))))))))))))))))))))))))))))))))))
 clear hK2 K2
 refine d3 (λK3 hK3=>?_)
 refine b8 (a7 Z (b5 Z Z (c7 Z Z) (a7 Z (b5 Z Z (G5 Z Z Z (by (try simp only [ByteArray.size_append,r8,List.size_toArray,List.length_cons,List.length_nil]);omega)) (a7 Z (b5 Z Z (c6 Z Z) (b6 (hK3 _ ?_))))))))
 clear hK3 K3
 exact b9R
theorem S2 (s:ByteArray) (b:Int) (hs:s.size<=1048576):Ctr Tryz.prog 41 [.v (.string s),.v (.int .u8 b)] (.one (.fr 9 1 ((g8 s b).map a60))):=by
 refine Ctr.of (n:=35) G Tryz.func41 Z a8 Z Z Z (λw0=>?_)
 refine b34 ?_
 refine e6 [0,1] [] (λ(i:Nat)=>[(5,.own 0),(6,.v (.int .i64 ((spO s b i).2:Int))),(7,.v (.int .i64 (i:Int)))]) (λ(i:Nat)=>[(0,some (.row 9 1 ((spO s b i).1.map a60)))]) (λ(i:Nat)=>i<=s.size) (λ(i:Nat)=>s.size - i) 0 Z Z ?_ ?_ ?_ ?_
 ·exact B2
 ·exact c3r
 ·exact a0J
 intro i hinv
 have hi:i<=s.size:=hinv
 have hsp:=b1W (s:=s) (b:=b) (i:=i)
 have hbi:p6 s i=((s.data.toList.getD ((i:Int)).toNat 0).toNat:Int):=rfl
 refine vm4 ?_
 refine a47 ?_
 refine zcd (λh1=>?_) (λh1=>?_)
 ·refine p8 ?_
  refine b7c ?_
  refine zcd (λh2=>?_) (λh2=>?_)
  ·refine c1m ?_
   refine vm5 ?_
   refine b42 ?_
   refine vm5 ?_
   refine c1n ?_
   exact c72
  exact c72
 refine c1m ?_
 refine vm5 ?_
 refine b42 ?_
 refine vm5 ?_
 refine c1n ?_
 refine zfo ?_
 all_goals ((have e:i=s.size:=J;subst e;simp only [g8,List.map_append];rfl))
theorem b0b (s:ByteArray) (k:Int) (hs:s.size<=1048576) (hk:0<=k) (hk2:k<=1000000):Ctr Tryz.prog 132 [.v (.string s),.v (.int .i64 k)] (.many [.v (b3d (rdE s k)),.v (.bool (rdK s k))]):=by
 have hf1:=O5 (s:=s) (c:=35)
 have hf2:=a5I (s:=s) (c:=35)
 have hz:=u9 (n:=k) J J
 have ha:(G9 k).size=(r6 k).size+1:=(by unfold G9;rw [ByteArray.size_append];rfl)
 obtain ⟨hs1,hs2⟩:=Q9 (s:=s) (b:=35)
 obtain ⟨ht1,ht2⟩:=Q9 (s:=y8 s k) (b:=64)
 have hl1:=N1 (s:=s) (b:=35)
 have hrs:(y8 s k).size=(l1 s 35).size - (G9 k).size:=(by rw [y8,a29 (Nat.le_refl _)])
 have hf3:=O5 (s:=y8 s k) (c:=64)
 have hf4:=a5I (s:=y8 s k) (c:=64)
 have hl2:=N1 (s:=y8 s k) (b:=64)
 refine Ctr.of (n:=64) G Tryz.func132 Z Y Z Z Z (λw0=>?_)
 refine d3 (λK1 hK1=>?_)
 refine b8 (a7 Z (d6 G 1 Z Z Z Z Z (a7 Z (b5 Z Z (c6 Z Z) (b6 (hK1 _ ?_))))))
 clear hK1 K1
 refine d3 (λK2 hK2=>?_)
 refine b8 (a7 Z (b5 Z Z (c7 Z Z) (a7 Z (b5 Z Z (f7 Z (ArgsOK.of Z) (w5 _ J J) Z) (a7 Z (b5 Z Z (G5 Z Z Z (by (try simp only [ByteArray.size_append,r8,List.size_toArray,List.length_cons,List.length_nil]);omega)) (a7 Z (b5 Z Z (c6 Z Z) (b6 (hK2 _ ?_))))))))))
 clear hK2 K2
 rw [show (r6 k++(⟨#[32]⟩:ByteArray))=G9 k from rfl]
 refine d3 (λK3 hK3=>?_)
 refine b8 (a7 Z (b5 Z Z (c7 Z Z) (a7 Z (c8 2 Z Z Z (ArgsOK.of Z) (S2 s 35 J) Z Z (a7 Z ?_)))))
 first | refine b5 Z Z (b9 G Z Z Z Z Z J (by simp;omega)) ?_ | refine b5 Z Z (b9 G Z Z Z Z Z J J) ?_
 refine a7 Z (b5 Z Z (j2 G Z Z Z Z Z (x9 J (by simp;omega)) Z) (a7 Z (b5 Z Z (c6 Z Z) (b6 (hK3 _ ?_)))))
 clear hK3 K3
 first | rw [hs1] | rw [show (g8 s 35).getD ((0:Int)).toNat default=l1 s 35 from hs1] | trace_state
 refine d3 (λK4 hK4=>?_)
 refine d3 (λK5 hK5=>?_)
 refine b8 (a7 Z (b5 Z Z (c7 Z Z) (a7 Z (b5 Z Z (o8 G Z Z Z) (a7 Z (b5 Z Z (c7 Z Z) (a7 Z (b5 Z Z (o8 G Z Z Z) (a7 Z (b5 Z Z (B3 Z Z Z Z) (a7 Z (b5 Z Z (c7 Z Z) (A1 Z Z Z (λh1=>?_) (λh1=>?_))))))))))))))
 ·try rw [h1]
  try simp only [rfb] at h1
  have hB:=c4f (c4g (s:=s) (k:=k) J)
  refine l9 Z Z Z Z Z Z (l9 Z Z Z Z Z Z (l9 Z Z Z Z Z Z (l9 Z Z Z Z Z Z (l9 Z Z Z Z Z Z (l9 Z Z Z Z Z Z (a7 Z (b5 Z Z (z8 Z Z Z) (b6 (hK5 _ ?_)))))))))
  clear hK5 K5
  refine L8 Z ?_
  refine d3 (λK6 hK6=>?_)
  refine b8 (a7 Z (b5 Z Z (w6 G Z Z Z Z) (a7 Z (m3 G Z Z Z Z Z Z Z Z Z Z Z (a7 Z (b5 Z Z (c6 Z Z) (b6 (hK6 _ ?_))))))))
  clear hK6 K6
  exact c3j
 ·try rw [h1]
  try simp only [rfb] at h1
  refine p5 Z Z Z (b5 Z Z (c7 Z Z) (p5 Z Z Z (b5 Z Z (c7 Z Z) (p5 Z Z Z (b5 Z Z (o8 G Z Z Z) (p5 Z Z Z (b5 Z Z (I2 G Z Z Z Z Z J J J) (p5 Z Z Z (b5 Z Z (c7 Z Z) (p5 Z Z Z (b5 Z Z (s8 Z Z Z Z) (a7 Z (b5 Z Z (x6 Z Z Z) (b6 (hK5 _ ?_)))))))))))))))
  clear hK5 K5
  refine j9 Z (λh2=>?_) (λh2=>?_)
  ·try rw [h2]
   try simp only [rfb] at h2
   have hB:=c4f (c4h (s:=s) (k:=k) h2)
   refine d3 (λK7 hK7=>?_)
   refine b8 (a7 Z (b5 Z Z (w6 G Z Z Z Z) (a7 Z (m3 G Z Z Z Z Z Z Z Z Z Z Z (a7 Z (b5 Z Z (c6 Z Z) (b6 (hK7 _ ?_))))))))
   clear hK7 K7
   exact c3j
  ·try rw [h2]
   try simp only [rfb] at h2
   have hA:=c6t (s:=s) (k:=k) J h2
   refine s4 (hK4 _ ?_)
   clear hK4 K4
   refine d3 (λK8 hK8=>?_)
   refine b8 (a7 Z (b5 Z Z (c7 Z Z) (a7 Z (b5 Z Z (c7 Z Z) (a7 Z (b5 Z Z (o8 G Z Z Z) (a7 Z (b5 Z Z (I2 G Z Z Z Z Z J J J) (a7 Z (b5 Z Z (c6 Z Z) (b6 (hK8 _ ?_))))))))))))
   clear hK8 K8
   rw [show (l1 s 35).extract (((G9 k).size:Int)).toNat (((l1 s 35).size:Int)).toNat=y8 s k from rfl]
   refine d3 (λK9 hK9=>?_)
   refine b8 (a7 Z (b5 Z Z (c7 Z Z) (a7 Z (c8 3 Z Z Z (ArgsOK.of Z) (S2 (y8 s k) 64 J) Z Z (a7 Z ?_)))))
   first | refine b5 Z Z (b9 G Z Z Z Z Z J (by simp;omega)) ?_ | refine b5 Z Z (b9 G Z Z Z Z Z J J) ?_
   refine a7 Z (b5 Z Z (j2 G Z Z Z Z Z (x9 J (by simp;omega)) Z) (a7 Z (b5 Z Z (c6 Z Z) (b6 (hK9 _ ?_)))))
   clear hK9 K9
   first | rw [ht1] | rw [show (g8 (y8 s k) 64).getD ((0:Int)).toNat default=l1 (y8 s k) 64 from ht1] | trace_state
   refine d3 (λK10 hK10=>?_)
   refine d3 (λK11 hK11=>?_)
   refine b8 (a7 Z (b5 Z Z (c7 Z Z) (a7 Z (b5 Z Z (o8 G Z Z Z) (a7 Z (b5 Z Z (c7 Z Z) (a7 Z (b5 Z Z (o8 G Z Z Z) (a7 Z (b5 Z Z (B3 Z Z Z Z) (b6 (hK11 _ ?_))))))))))))
   clear hK11 K11
   refine j9 Z (λh3=>?_) (λh3=>?_)
   ·try rw [h3]
    try simp only [rfb] at h3
    have hB:=c4f (c4i (s:=s) (k:=k) J)
    refine d3 (λK12 hK12=>?_)
    refine b8 (a7 Z (b5 Z Z (w6 G Z Z Z Z) (a7 Z (m3 G Z Z Z Z Z Z Z Z Z Z Z (a7 Z (b5 Z Z (c6 Z Z) (b6 (hK12 _ ?_))))))))
    clear hK12 K12
    refine f6 (r5 Z Z Z Z (b4 (a06 Z ?_) (b4 (l4 ?_) f8)))
    all_goals clear hK10 K10
    all_goals (first | (rw [hB.1];rfl) | (rw [hB.2];rfl) | (rw [hB.2];done) | (rw [b05 hB,h4];rfl) | (rw [b05 hB,h4];simp;done))
   ·try rw [h3]
    try simp only [rfb] at h3
    have hB:=c6u hA J
    have hr:=b7w (s:=s) (k:=k)
    have hxs:(rdX s k).c.size<=9223372036854775807/\(rdX s k).r.size<=9223372036854775807:=J
    refine s4 (hK10 _ ?_)
    clear hK10 K10
    refine d3 (λK13 hK13=>?_)
    refine b8 (a7 Z (b5 Z Z (c7 Z Z) (a7 Z (b5 Z Z (c7 Z Z) (a7 Z (b5 Z Z (c7 Z Z) (a7 Z (b5 Z Z (o8 G Z Z Z) (a7 Z ?_)))))))))
    first | refine b5 Z Z (v7 Z Z Z Z J J) ?_ | refine b5 Z Z (A2 Z Z Z Z) ?_
    refine a7 Z (b5 Z Z (I2 G Z Z Z Z Z J J J) (a7 Z (b5 Z Z (w6 G Z Z Z Z) (a7 Z (d6 G 4 Z Z Z Z Z (a7 Z (m3 G Z Z Z Z Z Z Z Z Z Z Z (b6 (hK13 _ ?_)))))))))
    clear hK13 K13
    rw [show (y8 s k).extract (((l1 (y8 s k) 64).size:Int)+1).toNat (((y8 s k).size:Int)).toNat=(rdX s k).r from rfl]
    rw [show l1 (y8 s k) 64=(rdX s k).c from rfl]
    refine d3 (λK14 hK14=>?_)
    refine l3 13 [1,2,3] mixed Y Z Z (λr0=>?_) (λ_ h=>h)
    refine d5 0 Z Y Y Z Z Z Z (d9 G Z Z Z Z Z Z) (d5 1 Z Y Y Z Z Z Z (d9 G Z Z Z Z Z Z) ?_)
    refine b7 (rs:=[2]) Y Z (AllB.cons ?_ AllB.nil)
    refine f9 [1,2,3] Z Z (b5 Z Z (f7 Z (ArgsOK.of Z) (a0F (rdX s k) hxs) Z) (b6 ⟨Z,?_⟩))
    refine d5 3 Z Y Y Z Z Z Z (c7 Z Z) (b96 (gd:=56) Z (λh4=>?_) (λh4=>?_))
    ·try rw [h4]
     try simp only [rfb] at h4
     refine O4 4 Z Y Y Z Z Z Z Z Z (c7 Z Z) (O4 5 Z Y Y Z Z Z Z Z Z (d9 G Z Z Z Z Z Z) (O4 7 Z Y Y Z Z Z Z Z Z (c7 Z Z) (O4 8 Z Y Y Z Z Z Z Z Z (G5 Z Z Z (by (try simp only [ByteArray.size_append,r8,List.size_toArray,List.length_cons,List.length_nil]);omega)) ?_)))
     refine b7 (rs:=[6]) Y Z (AllB.cons ?_ AllB.nil)
     refine b97 [1,2,3] Z Z Z Z (b5 Z Z (f7 Z (ArgsOK.of Z) (a0C k (rdX s k) J J (by assumption)) Z) (b6 ⟨Z,?_⟩))
     refine O4 9 Z Y Y Z Z Z Z Z Z (s8 Z Z Z Z) (d5 10 Z Y Y Z Z Z Z (z8 Z Z Z) ?_)
     exact c8d
    ·try rw [h4]
     try simp only [rfb] at h4
     refine a18 4 Z Y Y Z Z Z Z Z Z (a18 5 Z Y Y Z Z Z Z Z Z (a18 6 Z Y Y Z Z Z Z Z Z (a18 7 Z Y Y Z Z Z Z Z Z (a18 8 Z Y Y Z Z Z Z Z Z (a18 9 Z Y Y Z Z Z Z Z Z (d5 10 Z Y Y Z Z Z Z (x6 Z Z Z) ?_))))))
     exact c8d
theorem a8z (s:ByteArray) (hs:s.size<=9223372036854775807):Ctr Tryz.prog 57 [.v (.string s)] (.many [.v (.int .i64 (nmN s)),.v (.bool (nmK s))]):=by
 refine Ctr.of (n:=8) G Tryz.func57 Z a8 Z Z Z (λw0=>?_)
 refine zcl (b0L s hs) ?_
 refine zgo ?_
 refine f6 (r5 Z Z Z Z (b4 (l4 ?_) (b4 (l4 ?_) f8)))
 all_goals (rfl)
theorem a5c (w:ByteArray):Ctr Tryz.prog 70 [.v (.string w)] (.one (.v (.int .i64 (a1e (l5 w))))):=by
 refine Ctr.of (n:=20) G Tryz.func70 Z a8 Z Z Z (λw0=>?_)
 refine J7 ?_
 refine zcd (λh1=>?_) (λh1=>?_)
 ·have k1:=b1t.mp h1
  exact a4A
 have k1:=mt b1t.mpr h1
 refine J7 ?_
 refine zcd (λh2=>?_) (λh2=>?_)
 ·have k2:=b1u.mp h2
  exact a4A
 have k2:=mt b1u.mpr h2
 refine J7 ?_
 refine zcd (λh3=>?_) (λh3=>?_)
 ·have k3:=b1v.mp h3
  exact b9E
 have k3:=mt b1v.mpr h3
 refine J7 ?_
 refine zcd (λh4=>?_) (λh4=>?_)
 ·have k4:=b1w.mp h4
  exact a4A
 have k4:=mt b1w.mpr h4
 refine J7 ?_
 refine zcd (λh5=>?_) (λh5=>?_)
 ·have k5:=b1x.mp h5
  exact a4A
 have k5:=mt b1x.mpr h5
 refine J7 ?_
 refine zcd (λh6=>?_) (λh6=>?_)
 ·have k6:=b1y.mp h6
  exact a4A
 have k6:=mt b1y.mpr h6
 refine J7 ?_
 refine zcd (λh7=>?_) (λh7=>?_)
 ·have k7:=b1z.mp h7
  exact a4A
 have k7:=mt b1z.mpr h7
 refine J7 ?_
 refine zcd (λh8=>?_) (λh8=>?_)
 ·have k8:=b1A.mp h8
  exact a4A
 have k8:=mt b1A.mpr h8
 refine J7 ?_
 refine zcd (λh9=>?_) (λh9=>?_)
 ·have k9:=b1B.mp h9
  exact a4A
 have k9:=mt b1B.mpr h9
 refine J7 ?_
 refine zcd (λh10=>?_) (λh10=>?_)
 ·have k10:=b1C.mp h10
  exact a4A
 have k10:=mt b1C.mpr h10
 refine J7 ?_
 refine zcd (λh11=>?_) (λh11=>?_)
 ·have k11:=b2B.mp h11
  exact a4A
 have k11:=mt b2B.mpr h11
 refine J7 ?_
 refine zcd (λh12=>?_) (λh12=>?_)
 ·have k12:=a7d.mp h12
  exact b9E
 have k12:=mt a7d.mpr h12
 refine J7 ?_
 refine zcd (λh13=>?_) (λh13=>?_)
 ·have k13:=a7e.mp h13
  exact b9E
 have k13:=mt a7e.mpr h13
 exact b9E
theorem b0N (w:ByteArray) (l:List Int) (hl:a1e (l5 w)=l.length):Ctr Tryz.prog 72 [.v (.string w),.lst 1 (l.map Rf.n7)] (.many [.v (b7O (X3 (l5 w) l).1),.v (.bool (X3 (l5 w) l).2)]):=by
 refine Ctr.of (n:=50) G Tryz.func72 Z a8 Z Z Z (λw0=>?_)
 refine a6x ?_
 refine J7 ?_
 refine zcd (λh1=>?_) (λh1=>?_)
 ·have k1:=b1w.mp h1
  exact b4c
 have k1:=mt b1w.mpr h1
 refine J7 ?_
 refine zcd (λh2=>?_) (λh2=>?_)
 ·have k2:=b1x.mp h2
  exact b4c
 have k2:=mt b1x.mpr h2
 refine J7 ?_
 refine zcd (λh3=>?_) (λh3=>?_)
 ·have k3:=b1y.mp h3
  exact b4c
 have k3:=mt b1y.mpr h3
 refine J7 ?_
 refine zcd (λh4=>?_) (λh4=>?_)
 ·have k4:=b1t.mp h4
  refine zgo ?_
  exact c1w
 have k4:=mt b1t.mpr h4
 refine J7 ?_
 refine zcd (λh5=>?_) (λh5=>?_)
 ·have k5:=b1z.mp h5
  exact b4c
 have k5:=mt b1z.mpr h5
 refine J7 ?_
 refine zcd (λh6=>?_) (λh6=>?_)
 ·have k6:=b1A.mp h6
  exact b4c
 have k6:=mt b1A.mpr h6
 refine J7 ?_
 refine zcd (λh7=>?_) (λh7=>?_)
 ·have k7:=a7e.mp h7
  have hn:=a7f (k:=l5 w) J
  rw [hl] at hn
  refine n9 (l3 9 [] mixed a8 Z Z (λr0=>?_) (λ_ h=>h))
  refine a0A ?_
  refine b0z ?_
  refine b7 (rs:=[7]) a8 Z (AllB.cons ?_ AllB.nil)
  refine g9 [] Z Z ?_
  refine U6 ?_
  refine zsa 8 ?_
  refine J1 ?_
  exact c1w
 have k7:=mt a7e.mpr h7
 refine zgo ?_
 exact c1w
theorem Y7 (l:List Int) (hl:l.length<=1048576) (hn:∀i,i < l.length→a0x (l.getD i default)):Ctr Tryz.prog 110 [.lst 1 (l.map Rf.n7)] (.one (.v (.string (a4Y l)))):=by
 refine Ctr.of (n:=24) G Tryz.func110 Z a8 Z Z Z (λw0=>?_)
 refine zcd (λh1=>?_) (λh1=>?_)
 ·exact c3t
 have hJ:=c43 (l:=l) J
 refine b34 ?_
 refine e6 [10,11] [] (λ(i:Nat)=>[(3,.own 0),(12,.v (.int .i64 (i:Int)))]) (λ(i:Nat)=>[(0,some (.row 9 1 ((a9R l i).map a60)))]) (λ(i:Nat)=>i<=l.length) (λ(i:Nat)=>l.length - i) 0 Z Z ?_ ?_ ?_ ?_
 ·exact B2
 ·exact R5
 ·exact a0J
 intro i hi
 have hpl:=@b3T l i
 refine vm4 ?_
 refine zcd (λh2=>?_) (λh2=>?_)
 ·obtain ⟨hn1,hn2⟩:=hn i J
  refine zcl (x8 (l.getD i default) J J) ?_
  refine vm5 ?_
  refine b42 ?_
  refine vm8 ?_
  refine zgo ?_
  refine ⟨(i+1),?_,?_,⟨⟨_,Z,by rfl⟩,Z,⟨⟨_,Z,by rfl⟩,Z,trivial⟩⟩,⟨⟨_,Z,by (rw [b6Z J,List.map_append];rfl)⟩,Z,Z,trivial⟩,Z,Z,Z⟩
  ·omega
  omega
 obtain rfl:i=l.length:=J
 refine zcl (a3w (a9R l l.length) (Nat.le_trans b3T hl) (c0V hl hn)) ?_
 refine zf1 ?_
 all_goals (first | (rw [hE];rfl) | (rw [hJ];done))
theorem a0G (l:List Int) (hl:l.length<=1048576) (hn:∀i,i < l.length→a0x (l.getD i default)):Ctr Tryz.prog 97 [.lst 1 (l.map Rf.n7)] (.one (.v (.string (a4Y l)))):=by
 refine Ctr.of (n:=27) G Tryz.func97 Z a8 Z Z Z (λw0=>?_)
 refine zcd (λh1=>?_) (λh1=>?_)
 ·exact c3t
 have hJ:=b8Q (l:=l) J
 obtain ⟨hn1,hn2⟩:=hn 0 J
 refine zcl (w5 (l.getD 0 default) J J) ?_
 refine zgo ?_
 refine e6 [0] [] (λ(i:Nat)=>[(3,.v (.string (jnS (b2v l) i))),(4,.v (.int .i64 (i:Int)))]) (λ(i:Nat)=>[]) (λ(i:Nat)=>1<=i/\i<=l.length) (λ(i:Nat)=>l.length - i) 1 Z Z ?_ ?_ ?_ ?_
 ·exact ⟨Nat.le_refl _,by omega⟩
 ·exact ⟨⟨_,Z,by (first | rfl | (rw [b5J,a1M J];first | done | rfl))⟩,Z,⟨⟨_,Z,by (first | rfl | (rw [b5J,a1M J];first | done | rfl))⟩,Z,trivial⟩⟩
 ·exact trivial
 intro i hi
 refine vm4 ?_
 refine zcd (λh2=>?_) (λh2=>?_)
 ·obtain ⟨hn3,hn4⟩:=hn i J
  have hz:=b1p hn i J
  have hzn:=u9 (n:=l.getD i default) J hn4
  refine zgo ?_
  refine b7b ?_
  refine zcl (w5 (l.getD i default) J J) ?_
  refine b7b ?_
  refine zgo ?_
  refine ⟨(i+1),?_,?_,⟨⟨_,Z,by (first | rfl | (rw [a6l J,a1M J];first | done | rfl))⟩,Z,⟨⟨_,Z,by (first | rfl | (rw [a6l J,a1M J];first | done | rfl))⟩,Z,trivial⟩⟩,trivial,Z,Z,Z⟩
  ·exact ⟨by omega,by omega⟩
  omega
 obtain rfl:i=l.length:=J
 refine zf1 ?_
 all_goals (first | (rw [hE];rfl) | (rw [hJ];done))
theorem a7s (sl:List Slot) (hF:SlF sl):Ctr Tryz.prog 116 [.lst 3 (sl.map e9)] (.one (.v (.string (a4u sl)))):=by
 have hl4:=hF.len
 have hcs:(⟨#[45,112,97,98]⟩:ByteArray).size=4:=rfl
 refine Ctr.of (n:=40) G Tryz.func116 Z a8 Z Z Z (λw0=>?_)
 refine b34 ?_
 refine e6 [8,9] [] (λ(i:Nat)=>[(3,.own 0),(10,.v (.int .i64 (i:Int)))]) (λ(i:Nat)=>[(0,some (.row 9 1 ((a6n sl i).map a60)))]) (λ(i:Nat)=>i<=sl.length) (λ(i:Nat)=>sl.length - i) 0 Z Z ?_ ?_ ?_ ?_
 ·exact B2
 ·exact R5
 ·exact a0J
 intro i hi
 have hpl:=@b3U sl i
 refine vm4 ?_
 refine zcd (λh1=>?_) (λh1=>?_)
 ·have hs3:=hF.s03 (i:=i) J
  have hlb:=@a7b (sl.getD i default).s
  rw [a6m] at hlb
  refine zgo ?_
  refine b0x ?_
  refine c1m ?_
  refine zcd (λh2=>?_) (λh2=>?_)
  ·have hnm:=hF.nums (i:=i) J J
   refine zgd ?_
   refine zcl (x8 (sl.getD i default).q J J) ?_
   refine b7a ?_
   refine zcl (x8 (sl.getD i default).p J J) ?_
   refine b7a ?_
   refine b7a ?_
   exact c8a
  exact c8a
 obtain rfl:i=sl.length:=J
 have hJ:=@b8R sl
 refine zcl (a3w (a6n sl sl.length) (Nat.le_trans b3U J) (c0W J (c16 hF))) ?_
 refine zf1 ?_
 all_goals (first | (rw [hJ];done))
theorem b0O (sl:List Slot) (hF:SlF sl):Ctr Tryz.prog 146 [.lst 3 (sl.map e9)] (.one (.v (.string (a4u sl)))):=by
 have hl4:=hF.len
 have hcs:(⟨#[45,112,97,98]⟩:ByteArray).size=4:=rfl
 refine Ctr.of (n:=46) G Tryz.func146 Z a8 Z Z Z (λw0=>?_)
 refine zgo ?_
 refine e6 [0] [] (λ(i:Nat)=>[(3,.v (.string (jnS (a2p sl) i))),(4,.v (.int .i64 (i:Int)))]) (λ(i:Nat)=>[]) (λ(i:Nat)=>i<=sl.length) (λ(i:Nat)=>sl.length - i) 0 Z Z ?_ ?_ ?_ ?_
 ·exact B2
 ·exact R5
 ·exact trivial
 intro i hi
 refine vm4 ?_
 refine zcd (λh1=>?_) (λh1=>?_)
 ·have hs3:=hF.s03 (i:=i) J
  have hlb:=@a7b (sl.getD i default).s
  rw [a6m] at hlb
  have hz:=b1q (c16 hF) i J
  refine zcd (λh2=>?_) (λh2=>?_)
  ·refine zgo ?_
   refine b7b ?_
   exact c7V
  exact c7V
 obtain rfl:i=sl.length:=J
 have hJ:jnS (a2p sl) sl.length=a4u sl:=(by rw [a4u,jnA,a0y])
 refine zf1 ?_
 all_goals (first | (rw [hJ];done))
theorem a7t (rs:List Route) (a:Abs) (c:Nat) (hF:AbsF rs a) (hc:c < a.ma.length):Ctr Tryz.prog 117 [.lst 2 (rs.map m4),.agg [.lst 1 (a.en.map j4),.lst 1 (a.ra.map j4),.lst 1 (a.po.map j4),.lst 1 (a.ma.map Rf.n7),.nst none 1 (a.st.map a5Z)],.v (.int .i64 (c:Int))] (.one (.v (.int .i64 (A9 rs a c)))):=by
 have f0:=hF.n
 have f1:=hF.rn
 have f2:=hF.st
 have f3:=hF.en
 have f4:=hF.ra
 have f5:=hF.po
 have fl:=hF.len c hc
 have fe:=hF.el c hc
 have fm:=hF.rt
 have ftn:(((a.st.getD c default).length:Int) - 1).toNat=(a.st.getD c default).length - 1:=J
 have ft:0 < (a.st.getD c default).length→0<=(a.st.getD c default).getD (((a.st.getD c default).length:Int) - 1).toNat default/\(a.st.getD c default).getD (((a.st.getD c default).length:Int) - 1).toNat default<=7:=λh0=>(by rw [ftn];exact fe _ J)
 refine Ctr.of (n:=69) G Tryz.func117 Z a8 Z Z Z (λw0=>?_)
 refine j5 1 Z (λ_=>Z) (λu1=>?_)
 refine vm3 ?_
 refine zgd ?_
 refine zgo ?_
 refine j6 Z (s1 Z Z (D9 G Z Z Z Z) ?_)
 refine zcd (λh1=>?_) (λh1=>?_)
 ·refine zf1 ?_
  all_goals exact c2B
 refine zcd (λh2=>?_) (λh2=>?_)
 ·refine p8 ?_
  refine b5 Z Z (b7q Z Z Z) ?_
  exact c3E
 exact c3E
theorem b0c (rs:List Route) (a:Abs) (c:Nat) (hF:AbsF rs a) (hc:c < a.ma.length):Ctr Tryz.prog 144 [.lst 2 (rs.map m4),.agg [.lst 1 (a.en.map j4),.lst 1 (a.ra.map j4),.lst 1 (a.po.map j4),.lst 1 (a.ma.map Rf.n7),.nst none 1 (a.st.map a5Z)],.v (.int .i64 (c:Int))] (.one (.v (.int .i64 (A9 rs a c)))):=by
 have f0:=hF.n
 have f1:=hF.rn
 have f2:=hF.st
 have f3:=hF.en
 have f4:=hF.ra
 have f5:=hF.po
 have fl:=hF.len c hc
 have fe:=hF.el c hc
 have fm:=hF.rt
 have ftn:(((a.st.getD c default).length:Int) - 1).toNat=(a.st.getD c default).length - 1:=J
 have ft:0 < (a.st.getD c default).length→0<=(a.st.getD c default).getD (((a.st.getD c default).length:Int) - 1).toNat default/\(a.st.getD c default).getD (((a.st.getD c default).length:Int) - 1).toNat default<=7:=λh0=>(by rw [ftn];exact fe _ J)
 refine Ctr.of (n:=97) G Tryz.func144 Z a8 Z Z Z (λw0=>?_)
 refine j5 1 Z (λ_=>Z) (λu1=>?_)
 refine vm3 ?_
 refine zgo ?_
 refine e6 [0,2,4] [0] (λ(i:Nat)=>[(7,.v (.int .i64 (u3 rs a c i))),(8,.v (.int .i64 (i:Int)))]) (λ(i:Nat)=>[]) (λ(i:Nat)=>i<=8) (λ(i:Nat)=>8 - i) 0 Z Z ?_ ?_ ?_ ?_
 ·exact B2
 ·exact c3o
 ·exact trivial
 intro i hinv
 have hbl:=@a50 rs a c i
 refine vm4 ?_
 refine zcd (λh1=>?_) (λh1=>?_)
 ·refine zgd ?_
  refine zcd (λh2=>?_) (λh2=>?_)
  ·refine zcd (λh3=>?_) (λh3=>?_)
   ·refine zcd (λh4=>?_) (λh4=>?_)
    ·refine zwt ?_
     exact b9C
    refine zcd (λh5=>?_) (λh5=>?_)
    ·exact b9C
    exact b9C
   refine zwf ?_
   exact b9C
  refine zwf ?_
  exact b9C
 refine p8 ?_
 refine b5 Z Z (D9 G Z Z Z Z) ?_
 refine zgd ?_
 refine zcd (λh6=>?_) (λh6=>?_)
 ·refine zwt ?_
  exact b9H
 refine zcd (λh7=>?_) (λh7=>?_)
 ·refine zwt ?_
  exact b9H
 refine zcd (λh8=>?_) (λh8=>?_)
 ·refine zwt ?_
  exact b9H
 refine zcd (λh9=>?_) (λh9=>?_)
 ·refine zgo ?_
  refine b0A ?_
  refine s1 Z Z (D9 G Z Z Z Z) ?_
  refine zcd (λh10=>?_) (λh10=>?_)
  ·exact b9H
  exact b9H
 refine zwf ?_
 refine zf1 ?_
 all_goals exact c2q
end Go.Proofs.YtpfhomblkgmkkaaGreatDoor
