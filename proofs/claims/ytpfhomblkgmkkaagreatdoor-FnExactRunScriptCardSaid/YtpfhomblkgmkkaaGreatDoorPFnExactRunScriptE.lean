/- Texts merged into one: L1, N, P2, L2, L3, Q1, F1, W4. -/
import Derived.Test.YtpfhomblkgmkkaaGreatDoorPFnExactRunScriptD
set_option maxHeartbeats 4000000
set_option linter.unusedSimpArgs false
set_option linter.unusedVariables false
set_option maxRecDepth 20000
namespace Go.Proofs.YtpfhomblkgmkkaaGreatDoor
open Go Go.Rf
theorem a3G (s:ByteArray) (hs:s.size<=9223372036854775807):Ctr Tryz.prog 68 [.v (.string s)] (.one (.v (.bool (Y3 s)))):=by
 refine Ctr.of (n:=26) G Tryz.func68 Z a8 Z Z Z (λw0=>?_)
 refine zgo ?_
 refine d9 [0] [] (λ(i:Nat)=>[(3,.v (.int .i64 (i:Int)))]) (λ(i:Nat)=>[]) (λ(i:Nat)=>i<=s.size/\∀j,j < i→(a6P s) j=true) (λ(i:Nat)=>s.size - i) 0 Z Z ?_ ?_ ?_ ?_
 ·exact D9
 ·exact u3
 ·exact trivial
 intro i hinv
 have hbb:=a5B s i
 have hbi:p9 s i=((s.data.toList.getD ((i:Int)).toNat 0).toNat:Int):=rfl
 refine vm4 ?_
 refine a41 ?_
 refine zcd (λh1=>?_) (λh1=>?_)
 ·refine n9 ?_
  refine b65 ?_
  refine zcd (λh2=>?_) (λh2=>?_)
  ·refine zwt ?_
   exact c1A
  refine zgo ?_
  refine a1j ?_
  refine b65 ?_
  refine zcd (λh3=>?_) (λh3=>?_)
  ·refine zwt ?_
   exact c1A
  exact c3I
 refine zf1 ?_
 all_goals exact c5G
theorem a2J (s:ByteArray) (k:Int) (hs:s.size<=9223372036854775807):Ctr Tryz.prog 55 [.v (.string s),.v (.int .i64 k)] (.one (.v (.bool (Y3 s && decide ((s.size:Int)<=k))))):=by
 refine Ctr.of (n:=28) G Tryz.func55 Z a8 Z Z Z (λw0=>?_)
 refine zgo ?_
 refine d9 [0,1] [] (λ(i:Nat)=>[(5,.v (.int .i64 (i:Int)))]) (λ(i:Nat)=>[]) (λ(i:Nat)=>i<=s.size/\∀j,j < i→(a6P s) j=true) (λ(i:Nat)=>s.size - i) 0 Z Z ?_ ?_ ?_ ?_
 ·exact D9
 ·exact u3
 ·exact trivial
 intro i hinv
 have hbb:=a5B s i
 have hbi:p9 s i=((s.data.toList.getD ((i:Int)).toNat 0).toNat:Int):=rfl
 refine vm4 ?_
 refine a41 ?_
 refine zcd (λh1=>?_) (λh1=>?_)
 ·refine c7N ?_
  refine b2H ?_
  refine zcd (λh2=>?_) (λh2=>?_)
  ·have hin:=a9a.mp h2
   refine zwt ?_
   exact c1A
  have hin:=s7.mp h2
  exact c3I
 refine a41 ?_
 refine zf1 ?_
 all_goals exact c5G
theorem a8s (s:ByteArray) (b:Int) (hs:s.size<=9223372036854775807):Ctr Tryz.prog 56 [.v (.string s),.v (.int .u8 b)] (.one (.v (.bool (l8 s b)))):=by
 refine Ctr.of (n:=17) G Tryz.func56 Z a8 Z Z Z (λw0=>?_)
 refine zgo ?_
 refine d9 [0,1] [] (λ(i:Nat)=>[(5,.v (.int .i64 (i:Int)))]) (λ(i:Nat)=>[]) (λ(i:Nat)=>i<=s.size/\∀j,j < i→((λj=>!(p9 s j==b))) j=true) (λ(i:Nat)=>s.size - i) 0 Z Z ?_ ?_ ?_ ?_
 ·exact D9
 ·exact u3
 ·exact trivial
 intro i hinv
 have hbb:=a5B s i
 have hbi:p9 s i=((s.data.toList.getD ((i:Int)).toNat 0).toNat:Int):=rfl
 refine vm4 ?_
 refine a41 ?_
 refine zcd (λh1=>?_) (λh1=>?_)
 ·refine n9 ?_
  refine b65 ?_
  refine zcd (λh2=>?_) (λh2=>?_)
  ·refine zf1 ?_
   all_goals exact c2M
  refine zgo ?_
  refine ⟨(i+1),?_,?_,⟨⟨_,Z,by rfl⟩,Z,trivial⟩,trivial,Z,Z,Z⟩
  ·refine ⟨by omega,n7 hinv.2 ?_⟩;(simp only [Bool.not_eq_true',beq_eq_false_iff_ne,ne_eq];omega)
  omega
 refine zf1 ?_
 all_goals exact c2M
theorem a0H (x:Rec) (h0:x.c.size<=9223372036854775807/\x.r.size<=9223372036854775807):Ctr Tryz.prog 28 [.v (b29 x)] (.one (.v (.bool (D4 x)))):=by
 refine Ctr.of (n:=22) G Tryz.func28 Z a8 Z Z Z (λw0=>?_)
 refine vm3 ?_
 refine J4 ?_
 refine zcd (λh1=>?_) (λh1=>?_)
 ·refine zcl (a2J x.c _ h0.1) ?_
  refine zcd (λh2=>?_) (λh2=>?_)
  ·refine zcl (a8s x.c _ h0.1) ?_
   refine zcd (λh3=>?_) (λh3=>?_)
   ·refine zcl (a2J x.r _ h0.2) ?_
    exact c1x
   exact c1x
  exact c1x
 exact c1x
theorem H7 (x:Rec) (h0:x.c.size<=9223372036854775807/\x.r.size<=9223372036854775807):Ctr Tryz.prog 34 [.v (b29 x)] (.one (.v (.bool (D4 x)))):=by
 refine Ctr.of (n:=29) G Tryz.func34 Z a8 Z Z Z (λw0=>?_)
 refine vm3 ?_
 refine a41 ?_
 refine zcl (C5 _ _ _) ?_
 refine zcd (λh1=>?_) (λh1=>?_)
 ·refine c1s ?_
  refine zcd (λh2=>?_) (λh2=>?_)
  ·refine zcl (a3G x.c h0.1) ?_
   refine zcd (λh3=>?_) (λh3=>?_)
   ·refine zcl (a3G x.r h0.2) ?_
    refine zcd (λh4=>?_) (λh4=>?_)
    ·refine zcl (a0F x.c 64) ?_
     exact b9H
    exact b9H
   exact b9H
  exact b9H
 exact b9H
theorem b2N (s:ByteArray) (hs:s.size<=9223372036854775807):Ctr Tryz.prog 149 [.v (.string s)] (.one (.v (.int .i64 (a6Q s s.size)))):=by
 refine Ctr.of (n:=21) G Tryz.func149 Z a8 Z Z Z (λw0=>?_)
 exact c3G
theorem a8t (s:ByteArray) (hs:s.size<=9223372036854775807):Ctr Tryz.prog 180 [.v (.string s)] (.one (.v (.int .i64 (a6Q s s.size)))):=by
 refine Ctr.of (n:=21) G Tryz.func180 Z a8 Z Z Z (λw0=>?_)
 exact c3G
theorem a1T (n:Int) (h0:-9223372036854775807<=n) (h1:n<=9223372036854775807) (ih:∀k:Int,0<=k→(n < 0∨k < n)→k<=9223372036854775807→Ctr Tryz.prog 101 [.v (.int .i64 k)] (.one (.v (.string (s1 k))))):Ctr Tryz.prog 101 [.v (.int .i64 n)] (.one (.v (.string (s1 n)))):=by
 refine Ctr.of (n:=25) G Tryz.func101 Z Y Z Z Z (λw0=>?_)
 refine d3 (λK1 hK1=>?_)
 refine b8 (a7 Z (b5 Z Z (c6 Z Z) (b6 (hK1 _ ?_))))
 clear hK1 K1
 refine d3 (λK2 hK2=>?_)
 refine d3 (λK3 hK3=>?_)
 refine b8 (a7 Z (b5 Z Z (c7 Z Z) (a7 Z (b5 Z Z (B3 Z Z Z Z) (b6 (hK3 _ ?_))))))
 clear hK3 K3
 refine m6 Z (λh1=>?_) (λh1=>?_)
 ·try rw [h1]
  try simp only [rfb] at h1
  refine d3 (λK4 hK4=>?_)
  refine b8 (a7 Z (b5 Z Z (c7 Z Z) (a7 Z (b5 Z Z (c1K Z Z J J) (a7 Z (b5 Z Z (f9 Z (ArgsOK.of Z) (ih _ J J J) Z) (a7 Z (b5 Z Z (F5 Z Z Z (by first | (have hz:=u7 (n:=-n) J J;rw [r8];simp only [List.size_toArray,List.length_cons,List.length_nil];omega) | (have hz:=u7 (n:=(k:Int) / 10) J J;rw [ByteArray.size_extract];simp only [r8,List.size_toArray,List.length_cons,List.length_nil];omega))) (a7 Z (b5 Z Z (c6 Z Z) (b6 (hK4 _ ?_))))))))))))
  clear hK4 K4
  refine e6 (C9 Z (l3 ?_))
  all_goals clear hK2 K2
  all_goals (first | (rw [a5A h1];done) | (have e:((k:Int)+1).toNat=k+1:=J;rw [e];exact congrArg Value.string ((a1y J).trans (a2d J).symm)) | (have e:((k:Int) % 10).toNat=k % 10:=J;have e2:((k:Int) % 10+1).toNat=k % 10+1:=J;rw [e,e2,a1y J,a3Q J];rfl))
 ·try rw [h1]
  try simp only [rfb] at h1
  refine s3 (hK2 _ ?_)
  clear hK2 K2
  refine d3 (λK5 hK5=>?_)
  refine d3 (λK6 hK6=>?_)
  refine b8 (a7 Z (b5 Z Z (c7 Z Z) (a7 Z (b5 Z Z (B3 Z Z Z Z) (b6 (hK6 _ ?_))))))
  clear hK6 K6
  refine m6 Z (λh2=>?_) (λh2=>?_)
  ·try rw [h2]
   try simp only [rfb] at h2
   obtain ⟨k,rfl⟩:∃k:Nat,n=(k:Int):=⟨n.toNat,by omega⟩
   refine d3 (λK7 hK7=>?_)
   refine b8 (a7 Z (b5 Z Z (c7 Z Z) (a7 Z (b5 Z Z (c7 Z Z) (a7 Z ?_)))))
   first | refine b5 Z Z (v6 Z Z Z Z J J) ?_ | refine b5 Z Z (A4 Z Z Z Z) ?_
   refine a7 Z (b5 Z Z (H9 G Z Z Z Z Z J J (by rw [r8];simp only [List.size_toArray,List.length_cons,List.length_nil];omega)) (a7 Z (b5 Z Z (c6 Z Z) (b6 (hK7 _ ?_)))))
   clear hK7 K7
   refine e6 (C9 Z (l3 ?_))
   all_goals clear hK5 K5
   all_goals (first | (rw [a5A h1];done) | (have e:((k:Int)+1).toNat=k+1:=J;rw [e];exact congrArg Value.string ((a1y J).trans (a2d J).symm)) | (have e:((k:Int) % 10).toNat=k % 10:=J;have e2:((k:Int) % 10+1).toNat=k % 10+1:=J;rw [e,e2,a1y J,a3Q J];rfl))
  ·try rw [h2]
   try simp only [rfb] at h2
   obtain ⟨k,rfl⟩:∃k:Nat,n=(k:Int):=⟨n.toNat,by omega⟩
   refine s3 (hK5 _ ?_)
   clear hK5 K5
   refine d3 (λK8 hK8=>?_)
   refine a5j mixed Y (j4 Z (r5 Z Z (c7 Z Z) (j4 Z ?_)))
   first | refine r5 Z Z (b0L Z Z Z J J J) ?_ | refine r5 Z Z (b7l Z Z Z J) ?_
   refine j4 Z (r5 Z Z (f9 Z (ArgsOK.of Z) (ih _ J J J) Z) (j4 Z (r5 Z Z (c7 Z Z) (j4 Z ?_))))
   first | refine r5 Z Z (a6E Z Z Z J J) ?_ | refine r5 Z Z (b40 Z Z Z J) ?_
   refine j4 Z (r5 Z Z (c7 Z Z) (j4 Z ?_))
   first | refine r5 Z Z (a6E Z Z Z J J) ?_ | refine r5 Z Z (b40 Z Z Z J) ?_
   refine j4 Z ?_
   first | refine r5 Z Z (v6 Z Z Z Z J J) ?_ | refine r5 Z Z (A4 Z Z Z Z) ?_
   refine j4 Z (r5 Z Z (H9 G Z Z Z Z Z J J (by rw [r8];simp only [List.size_toArray,List.length_cons,List.length_nil];omega)) (j4 Z (r5 Z Z (F5 Z Z Z (by first | (have hz:=u7 (n:=-n) J J;rw [r8];simp only [List.size_toArray,List.length_cons,List.length_nil];omega) | (have hz:=u7 (n:=(k:Int) / 10) J J;rw [ByteArray.size_extract];simp only [r8,List.size_toArray,List.length_cons,List.length_nil];omega))) (j4 Z (r5 Z Z (c6 Z Z) (a8V (hK8 _ ?_)))))))
   clear hK8 K8
   refine e6 (C9 Z (l3 ?_))
   all_goals (first | (rw [a5A h1];done) | (have e:((k:Int)+1).toNat=k+1:=J;rw [e];exact congrArg Value.string ((a1y J).trans (a2d J).symm)) | (have e:((k:Int) % 10).toNat=k % 10:=J;have e2:((k:Int) % 10+1).toNat=k % 10+1:=J;rw [e,e2,a1y J,a3Q J];rfl))
theorem b1G:∀(m:Nat) (n:Int),n.toNat=m→0<=n→n<=9223372036854775807→Ctr Tryz.prog 101 [.v (.int .i64 n)] (.one (.v (.string (s1 n)))):=by
 intro m
 induction m using Nat.strongRecOn with
 | ind m ih =>
  intro n hm h0 h1
  exact a1T n J h1 (λk hk hlt hk1=>ih k.toNat J k Z hk hk1)
theorem w3 (n:Int) (h0:-9223372036854775807<=n) (h1:n<=9223372036854775807):Ctr Tryz.prog 101 [.v (.int .i64 n)] (.one (.v (.string (s1 n)))):=by
 by_cases h:0<=n
 ·exact b1G _ n Z h h1
 exact a1T n h0 h1 (λk hk _ hk1=>b1G _ k Z hk hk1)
theorem b0F (s:ByteArray) (hs:s.size<=9223372036854775807):Ctr Tryz.prog 96 [.v (.string s)] (.many [.v (.int .i64 (nmN s)),.v (.bool (nmK s))]):=by
 have hb0:p9 s 0=((s.data.toList.getD ((0:Int)).toNat 0).toNat:Int):=rfl
 refine Ctr.of (n:=58) G Tryz.func96 Z Y Z Z Z (λw0=>?_)
 refine d3 (λK1 hK1=>?_)
 refine b8 (a7 Z (b5 Z Z (c6 Z Z) (a7 Z (b5 Z Z (c6 Z Z) (b6 (hK1 _ ?_))))))
 clear hK1 K1
 refine d3 (λK2 hK2=>?_)
 refine b8 (a7 Z (b5 Z Z (c7 Z Z) (a7 Z (b5 Z Z (c6 Z Z) (b6 (hK2 _ ?_))))))
 clear hK2 K2
 refine c0h (nt:=58) (λ(a:ByteArray)=>[(4,.v (.string a)),(0,.v (.string s))]) (λ(a:ByteArray)=>[]) (λa=>a=m7 s) 30 [0,4] [] ?_ (λa ha=>?_)
 ·skip
  refine d3 (λK4 hK4=>?_)
  refine b8 (a7 Z (b5 Z Z (c7 Z Z) (a7 Z (b5 Z Z (o9 G Z Z Z) (a7 Z (b5 Z Z (B3 Z Z Z Z) (a7 Z (b5 Z Z (c7 Z Z) (A3 Z Z Z (λh1=>?_) (λh1=>?_))))))))))
  ·try rw [h1]
   try simp only [rfb] at h1
   refine o8 Z Z Z (b5 Z Z (c7 Z Z) (o8 Z Z Z (b5 Z Z (N6 G Z Z Z Z J J) (o8 Z Z Z (b5 Z Z (B3 Z Z Z Z) (a7 Z (b5 Z Z (A0 Z Z Z) (b6 (hK4 _ ?_)))))))))
   clear hK4 K4
   refine m6 Z (λh2=>?_) (λh2=>?_)
   ·try rw [h2]
    try simp only [rfb] at h2
    refine b8 (a7 Z (b5 Z Z (c7 Z Z) (a7 Z (b5 Z Z (H9 G Z Z Z Z Z J J J) (a7 Z (b5 Z Z (c6 Z Z) ?_))))))
    exact b6 ⟨(s.extract ((1:Int)).toNat ((s.size:Int)).toNat),c6w J (by first | assumption | omega),Z,Z,Z,Z⟩
   ·try rw [h2]
    try simp only [rfb] at h2
    exact s3 ⟨s,c1Q J,Z,Z,Z,Z⟩
  ·try rw [h1]
   try simp only [rfb] at h1
   refine l5 Z Z Z Z Z Z (l5 Z Z Z Z Z Z (l5 Z Z Z Z Z Z (a7 Z (b5 Z Z (x6 Z Z Z) (b6 (hK4 _ ?_))))))
   clear hK4 K4
   refine J8 Z ?_
   exact s3 ⟨s,c1Q J,Z,Z,Z,Z⟩
 ·skip
  subst ha
  have hbl:=c4j (s:=s)
  refine d3 (λK5 hK5=>?_)
  refine d3 (λK6 hK6=>?_)
  refine b8 (a7 Z (b5 Z Z (c7 Z Z) (a7 Z (b5 Z Z (o9 G Z Z Z) (a7 Z (b5 Z Z (f9 Z (ArgsOK.of Z) (Y0 _ _ _) Z) (a7 Z (b5 Z Z (a2T Z Z) (b6 (hK6 _ ?_))))))))))
  clear hK6 K6
  refine m6 Z (λh3=>?_) (λh3=>?_)
  ·try rw [h3]
   try simp only [rfb] at h3
   refine d3 (λK7 hK7=>?_)
   refine b8 (a7 Z (b5 Z Z (c6 Z Z) (a7 Z (b5 Z Z (c6 Z Z) (b6 (hK7 _ ?_))))))
   clear hK7 K7
   refine e6 (p8 Z Z Z Z (b4 (l3 ?_) (b4 (l3 ?_) f6)))
   all_goals clear hK5 K5
   all_goals (first | (rw [(b0n (s:=s) h3).1];done) | (rw [(b0n (s:=s) h3).2];done) | (rw [(b0o (s:=s) (i:=i) J (by simp only [a0v,Bool.and_eq_false_iff,decide_eq_false_iff_not];omega)).1];done) | (rw [(b0o (s:=s) (i:=i) J (by simp only [a0v,Bool.and_eq_false_iff,decide_eq_false_iff_not];omega)).2];done) | (rw [(a1G (s:=s) (n:=-dV (m7 s) i) (by have e:i=(m7 s).size:=J;rw [a1E J,e]) (by assumption)).1];done) | (rw [(a1G (s:=s) (n:=-dV (m7 s) i) (by have e:i=(m7 s).size:=J;rw [a1E J,e]) (by assumption)).2];done) | (rw [(a1G (s:=s) (n:=dV (m7 s) i) (by have e:i=(m7 s).size:=J;rw [a1F J,e]) (by assumption)).1];done) | (rw [(a1G (s:=s) (n:=dV (m7 s) i) (by have e:i=(m7 s).size:=J;rw [a1F J,e]) (by assumption)).2];done) | (rw [(a1H (s:=s) (n:=-dV (m7 s) i) (i:=i) h3 J hinv.2 (by have e:i=(m7 s).size:=J;rw [a1E J,e]) (by assumption)).1];done) | (rw [(a1H (s:=s) (n:=-dV (m7 s) i) (i:=i) h3 J hinv.2 (by have e:i=(m7 s).size:=J;rw [a1E J,e]) (by assumption)).2];done) | (rw [(a1H (s:=s) (n:=dV (m7 s) i) (i:=i) h3 J hinv.2 (by have e:i=(m7 s).size:=J;rw [a1F J,e]) (by assumption)).1];done) | (rw [(a1H (s:=s) (n:=dV (m7 s) i) (i:=i) h3 J hinv.2 (by have e:i=(m7 s).size:=J;rw [a1F J,e]) (by assumption)).2];done))
  ·try rw [h3]
   try simp only [rfb] at h3
   have hin:=s7.mp h3
   refine s3 (hK5 _ ?_)
   clear hK5 K5
   refine d3 (λK8 hK8=>?_)
   refine b8 (a7 Z (b5 Z Z (c6 Z Z) (b6 (hK8 _ ?_))))
   clear hK8 K8
   refine d3 (λK9 hK9=>?_)
   refine d3 (λK10 hK10=>?_)
   refine b8 (a7 Z (b5 Z Z (c6 Z Z) (b6 (hK10 _ ?_))))
   clear hK10 K10
   refine r4 ?_
   refine d9 [0,4] [] (λ(i:Nat)=>[(5,.v (.int .i64 (dV (m7 s) i))),(6,.v (.int .i64 (i:Int)))]) (λ(i:Nat)=>[]) (λ(i:Nat)=>i<=(m7 s).size/\∀j,j < i→a0v (m7 s) j=true) (λ(i:Nat)=>(m7 s).size - i) 0 Z Z ?_ ?_ ?_ ?_
   ·exact D9
   ·exact a0e
   ·exact trivial
   ·intro i hinv
    have hi:i<=(m7 s).size:=hinv.1
    have hdl:=c1N hinv.2
    have hbi:p9 (m7 s) i=(((m7 s).data.toList.getD ((i:Int)).toNat 0).toNat:Int):=rfl
    simp only [List.cons_append,List.nil_append]
    refine d3 (λK11 hK11=>?_)
    refine d3 (λK12 hK12=>?_)
    refine b8 (a7 Z (b5 Z Z (c7 Z Z) (a7 Z (b5 Z Z (c7 Z Z) (a7 Z (b5 Z Z (o9 G Z Z Z) (a7 Z (b5 Z Z (B3 Z Z Z Z) (b6 (hK12 _ ?_))))))))))
    clear hK12 K12
    refine m6 Z (λh4=>?_) (λh4=>?_)
    ·try rw [h4]
     try simp only [rfb] at h4
     refine s3 (hK11 _ ?_)
     clear hK11 K11
     refine d3 (λK13 hK13=>?_)
     refine r4 ?_
     refine d3 (λK14 hK14=>?_)
     refine d3 (λK15 hK15=>?_)
     refine b8 (a7 Z (b5 Z Z (c7 Z Z) (a7 Z (b5 Z Z (c7 Z Z) (a7 Z (b5 Z Z (N6 G Z Z Z Z J J) ?_))))))
     refine a7 Z (b5 Z Z (B3 Z Z Z Z) (a7 Z (b5 Z Z (c7 Z Z) (A3 Z Z Z (λh5=>?_) (λh5=>?_)))))
     ·try rw [h5]
      try simp only [rfb] at h5
      refine l5 Z Z Z Z Z Z (l5 Z Z Z Z Z Z (l5 Z Z Z Z Z Z (l5 Z Z Z Z Z Z (a7 Z (b5 Z Z (A0 Z Z Z) (b6 (hK15 _ ?_)))))))
      clear hK15 K15
      refine J9 Z ?_
      refine d3 (λK16 hK16=>?_)
      refine b8 (a7 Z (b5 Z Z (c6 Z Z) (a7 Z (b5 Z Z (c6 Z Z) (b6 (hK16 _ ?_))))))
      clear hK16 K16
      exact c7V
     ·try rw [h5]
      try simp only [rfb] at h5
      refine o8 Z Z Z (b5 Z Z (c7 Z Z) (o8 Z Z Z (b5 Z Z (c7 Z Z) (o8 Z Z Z (b5 Z Z (N6 G Z Z Z Z J J) (o8 Z Z Z (b5 Z Z (B3 Z Z Z Z) (a7 Z (b5 Z Z (x6 Z Z Z) (b6 (hK15 _ ?_)))))))))))
      clear hK15 K15
      refine m6 Z (λh6=>?_) (λh6=>?_)
      ·try rw [h6]
       try simp only [rfb] at h6
       refine d3 (λK17 hK17=>?_)
       refine b8 (a7 Z (b5 Z Z (c6 Z Z) (a7 Z (b5 Z Z (c6 Z Z) (b6 (hK17 _ ?_))))))
       clear hK17 K17
       exact c7V
      ·try rw [h6]
       try simp only [rfb] at h6
       refine s3 (hK14 _ ?_)
       clear hK14 K14
       refine b8 (a7 Z (b5 Z Z (c7 Z Z) (a7 Z ?_)))
       first | refine b5 Z Z (v6 Z Z Z Z J J) ?_ | refine b5 Z Z (A4 Z Z Z Z) ?_
       refine a7 Z (b5 Z Z (c7 Z Z) (a7 Z (b5 Z Z (c7 Z Z) (a7 Z (b5 Z Z (N6 G Z Z Z Z J J) (a7 Z ?_))))))
       first | refine b5 Z Z (v6 Z Z Z Z J J) ?_ | refine b5 Z Z (A4 Z Z Z Z) ?_
       refine a7 Z ?_
       first | refine b5 Z Z (b0X G Z Z Z Z J J) ?_ | refine b5 Z Z (a6G G Z Z Z Z) ?_
       refine a7 Z ?_
       first | refine b5 Z Z (v6 Z Z Z Z J J) ?_ | refine b5 Z Z (A4 Z Z Z Z) ?_
       refine a7 Z (b5 Z Z (c6 Z Z) (b6 (hK13 _ ?_)))
       clear hK13 K13
       refine b8 (a7 Z (b5 Z Z (c7 Z Z) (a7 Z ?_)))
       first | refine b5 Z Z (v6 Z Z Z Z J J) ?_ | refine b5 Z Z (A4 Z Z Z Z) ?_
       refine a7 Z (b5 Z Z (c6 Z Z) ?_)
       refine b6 ⟨(i+1),?_,?_,⟨⟨_,Z,by (first | rfl | exact congrArg (λv=>AV.v (.int .i64 v)) (b5c (t:=m7 s) (i:=i) J J J J))⟩,Z,⟨⟨_,Z,by (first | rfl | exact congrArg (λv=>AV.v (.int .i64 v)) (b5c (t:=m7 s) (i:=i) J J J J))⟩,Z,trivial⟩⟩,trivial,Z,Z,Z⟩
       ·exact ⟨by omega,n7 hinv.2 (by simp only [a0v,Bool.and_eq_true,decide_eq_true_eq];omega)⟩
       ·omega
    ·try rw [h4]
     try simp only [rfb] at h4
     refine Y1 (hK9 _ ?_)
     clear hK11 K11 hK9 K9
     refine d3 (λK18 hK18=>?_)
     refine d3 (λK19 hK19=>?_)
     refine b8 (a7 Z (b5 Z Z (c7 Z Z) (a7 Z (b5 Z Z (o9 G Z Z Z) (a7 Z (b5 Z Z (c7 Z Z) (a7 Z (b5 Z Z (o9 G Z Z Z) (a7 Z (b5 Z Z (B3 Z Z Z Z) (b6 (hK19 _ ?_))))))))))))
     clear hK19 K19
     refine m6 Z (λh7=>?_) (λh7=>?_)
     ·try rw [h7]
      try simp only [rfb] at h7
      refine b8 (a7 Z (b5 Z Z (c7 Z Z) (a7 Z (b5 Z Z (c1K Z Z J J) (a7 Z (b5 Z Z (c6 Z Z) (b6 (hK18 _ ?_))))))))
      clear hK18 K18
      refine d3 (λK20 hK20=>?_)
      refine d3 (λK21 hK21=>?_)
      refine b8 (a7 Z (b5 Z Z (c7 Z Z) (a7 Z (b5 Z Z (f9 Z (ArgsOK.of Z) (w3 _ J J) Z) (a7 Z (b5 Z Z (c7 Z Z) (a7 Z (b5 Z Z (u4 Z Z Z Z) (b6 (hK21 _ ?_))))))))))
      clear hK21 K21
      refine m6 Z (λh8=>?_) (λh8=>?_)
      ·try rw [h8]
       try simp only [rfb] at h8
       refine d3 (λK22 hK22=>?_)
       refine b8 (a7 Z (b5 Z Z (c6 Z Z) (a7 Z (b5 Z Z (c6 Z Z) (b6 (hK22 _ ?_))))))
       clear hK22 K22
       refine e6 (p8 Z Z Z Z (b4 (l3 ?_) (b4 (l3 ?_) f6)))
       all_goals clear hK20 K20
       all_goals (first | (rw [(b0n (s:=s) h3).1];done) | (rw [(b0n (s:=s) h3).2];done) | (rw [(b0o (s:=s) (i:=i) J (by simp only [a0v,Bool.and_eq_false_iff,decide_eq_false_iff_not];omega)).1];done) | (rw [(b0o (s:=s) (i:=i) J (by simp only [a0v,Bool.and_eq_false_iff,decide_eq_false_iff_not];omega)).2];done) | (rw [(a1G (s:=s) (n:=-dV (m7 s) i) (by have e:i=(m7 s).size:=J;rw [a1E J,e]) (by assumption)).1];done) | (rw [(a1G (s:=s) (n:=-dV (m7 s) i) (by have e:i=(m7 s).size:=J;rw [a1E J,e]) (by assumption)).2];done) | (rw [(a1G (s:=s) (n:=dV (m7 s) i) (by have e:i=(m7 s).size:=J;rw [a1F J,e]) (by assumption)).1];done) | (rw [(a1G (s:=s) (n:=dV (m7 s) i) (by have e:i=(m7 s).size:=J;rw [a1F J,e]) (by assumption)).2];done) | (rw [(a1H (s:=s) (n:=-dV (m7 s) i) (i:=i) h3 J hinv.2 (by have e:i=(m7 s).size:=J;rw [a1E J,e]) (by assumption)).1];done) | (rw [(a1H (s:=s) (n:=-dV (m7 s) i) (i:=i) h3 J hinv.2 (by have e:i=(m7 s).size:=J;rw [a1E J,e]) (by assumption)).2];done) | (rw [(a1H (s:=s) (n:=dV (m7 s) i) (i:=i) h3 J hinv.2 (by have e:i=(m7 s).size:=J;rw [a1F J,e]) (by assumption)).1];done) | (rw [(a1H (s:=s) (n:=dV (m7 s) i) (i:=i) h3 J hinv.2 (by have e:i=(m7 s).size:=J;rw [a1F J,e]) (by assumption)).2];done))
      ·try rw [h8]
       try simp only [rfb] at h8
       refine s3 (hK20 _ ?_)
       clear hK20 K20
       refine d3 (λK23 hK23=>?_)
       refine b8 (a7 Z (b5 Z Z (c7 Z Z) (a7 Z (b5 Z Z (c6 Z Z) (a7 Z (b5 Z Z (c6 Z Z) (b6 (hK23 _ ?_))))))))
       clear hK23 K23
       exact c7W
     ·try rw [h7]
      try simp only [rfb] at h7
      refine s3 (hK18 _ ?_)
      clear hK18 K18
      refine d3 (λK24 hK24=>?_)
      refine d3 (λK25 hK25=>?_)
      refine b8 (a7 Z (b5 Z Z (c7 Z Z) (a7 Z (b5 Z Z (f9 Z (ArgsOK.of Z) (w3 _ J J) Z) (a7 Z (b5 Z Z (c7 Z Z) (a7 Z (b5 Z Z (u4 Z Z Z Z) (b6 (hK25 _ ?_))))))))))
      clear hK25 K25
      refine m6 Z (λh9=>?_) (λh9=>?_)
      ·try rw [h9]
       try simp only [rfb] at h9
       refine d3 (λK26 hK26=>?_)
       refine b8 (a7 Z (b5 Z Z (c6 Z Z) (a7 Z (b5 Z Z (c6 Z Z) (b6 (hK26 _ ?_))))))
       clear hK26 K26
       refine e6 (p8 Z Z Z Z (b4 (l3 ?_) (b4 (l3 ?_) f6)))
       all_goals clear hK24 K24
       all_goals (first | (rw [(b0n (s:=s) h3).1];done) | (rw [(b0n (s:=s) h3).2];done) | (rw [(b0o (s:=s) (i:=i) J (by simp only [a0v,Bool.and_eq_false_iff,decide_eq_false_iff_not];omega)).1];done) | (rw [(b0o (s:=s) (i:=i) J (by simp only [a0v,Bool.and_eq_false_iff,decide_eq_false_iff_not];omega)).2];done) | (rw [(a1G (s:=s) (n:=-dV (m7 s) i) (by have e:i=(m7 s).size:=J;rw [a1E J,e]) (by assumption)).1];done) | (rw [(a1G (s:=s) (n:=-dV (m7 s) i) (by have e:i=(m7 s).size:=J;rw [a1E J,e]) (by assumption)).2];done) | (rw [(a1G (s:=s) (n:=dV (m7 s) i) (by have e:i=(m7 s).size:=J;rw [a1F J,e]) (by assumption)).1];done) | (rw [(a1G (s:=s) (n:=dV (m7 s) i) (by have e:i=(m7 s).size:=J;rw [a1F J,e]) (by assumption)).2];done) | (rw [(a1H (s:=s) (n:=-dV (m7 s) i) (i:=i) h3 J hinv.2 (by have e:i=(m7 s).size:=J;rw [a1E J,e]) (by assumption)).1];done) | (rw [(a1H (s:=s) (n:=-dV (m7 s) i) (i:=i) h3 J hinv.2 (by have e:i=(m7 s).size:=J;rw [a1E J,e]) (by assumption)).2];done) | (rw [(a1H (s:=s) (n:=dV (m7 s) i) (i:=i) h3 J hinv.2 (by have e:i=(m7 s).size:=J;rw [a1F J,e]) (by assumption)).1];done) | (rw [(a1H (s:=s) (n:=dV (m7 s) i) (i:=i) h3 J hinv.2 (by have e:i=(m7 s).size:=J;rw [a1F J,e]) (by assumption)).2];done))
      ·try rw [h9]
       try simp only [rfb] at h9
       refine s3 (hK24 _ ?_)
       clear hK24 K24
       refine d3 (λK27 hK27=>?_)
       refine b8 (a7 Z (b5 Z Z (c7 Z Z) (a7 Z (b5 Z Z (c6 Z Z) (a7 Z (b5 Z Z (c6 Z Z) (b6 (hK27 _ ?_))))))))
       clear hK27 K27
       exact c7W
theorem b0G (s:ByteArray) (hs:s.size<=3900):Ctr Tryz.prog 102 [.v (.string s)] (.one (.v (.string (a0P s)))):=by
 have hsm:=a8G s s.size
 have hz:=u7 (n:=a6Q s s.size) J J
 refine Ctr.of (n:=9) G Tryz.func102 Z Y Z Z Z (λw0=>?_)
 refine d3 (λK1 hK1=>?_)
 refine b8 (a7 Z (b5 Z Z (c6 Z Z) (b6 (hK1 _ ?_))))
 clear hK1 K1
 refine d3 (λK2 hK2=>?_)
 refine b8 (a7 Z (b5 Z Z (c7 Z Z) (a7 Z (b5 Z Z (F5 Z Z Z (by (try simp only [ByteArray.size_append,r8,List.size_toArray,List.length_cons,List.length_nil]);omega)) (a7 Z (b5 Z Z (c7 Z Z) (a7 Z (b5 Z Z (f9 Z (ArgsOK.of Z) (b2N _ (by first | assumption | omega)) Z) (a7 Z (b5 Z Z (f9 Z (ArgsOK.of Z) (w3 _ J J) Z) (a7 Z (b5 Z Z (F5 Z Z Z (by (try simp only [ByteArray.size_append,r8,List.size_toArray,List.length_cons,List.length_nil]);omega)) (a7 Z (b5 Z Z (c6 Z Z) (b6 (hK2 _ ?_))))))))))))))))
 clear hK2 K2
 exact b9R
theorem a2O (s:ByteArray) (hs:s.size<=3900) (hst:l8 s 35=false):Ctr Tryz.prog 122 [.v (.string s)] (.many [.v (.string (a0P s)),.v (.bool true)]):=by
 have hsm:=a8G s s.size
 have hz:=u7 (n:=a6Q s s.size) J J
 have e35:((UInt8.toNat 35:Nat):Int)=35:=rfl
 have hss:=a1A (s:=s)
 have hse:(a0P s).size=(s++(⟨#[35]⟩:ByteArray)++s1 (a6Q s s.size)).size:=rfl
 refine Ctr.of (n:=22) G Tryz.func122 Z Y Z Z Z (λw0=>?_)
 refine d3 (λK1 hK1=>?_)
 refine b8 (a7 Z (b5 Z Z (c6 Z Z) (a7 Z (b5 Z Z (c6 Z Z) (b6 (hK1 _ ?_))))))
 clear hK1 K1
 refine d3 (λK2 hK2=>?_)
 refine d3 (λK3 hK3=>?_)
 refine b8 (a7 Z (b5 Z Z (c7 Z Z) (a7 Z (b5 Z Z (o9 G Z Z Z) (a7 Z (b5 Z Z (B3 Z Z Z Z) (a7 Z (b5 Z Z (c7 Z Z) (A3 Z Z Z (λh1=>?_) (λh1=>?_))))))))))
 ·try rw [h1]
  try simp only [rfb] at h1
  exfalso;omega
 ·try rw [h1]
  try simp only [rfb] at h1
  refine o8 Z Z Z (b5 Z Z (c7 Z Z) (o8 Z Z Z (b5 Z Z (f9 Z (ArgsOK.of Z) (a0F s 35) Z) (a7 Z (b5 Z Z (x6 Z Z Z) (b6 (hK3 _ ?_)))))))
  clear hK3 K3
  refine m6 Z (λh2=>?_) (λh2=>?_)
  ·try rw [h2]
   try simp only [rfb] at h2
   exact absurd (show l8 s 35=true from h2) (by rw [hst];simp)
  ·try rw [h2]
   try simp only [rfb] at h2
   refine s3 (hK2 _ ?_)
   clear hK2 K2
   refine d3 (λK4 hK4=>?_)
   refine b8 (a7 Z (b5 Z Z (c7 Z Z) (a7 Z (b5 Z Z (F5 Z Z Z (by (try simp only [ByteArray.size_append,r8,List.size_toArray,List.length_cons,List.length_nil]);omega)) (a7 Z (b5 Z Z (c7 Z Z) (a7 Z (b5 Z Z (f9 Z (ArgsOK.of Z) (a8t _ (by first | assumption | omega)) Z) (a7 Z (b5 Z Z (f9 Z (ArgsOK.of Z) (x9 _ J J) Z) (a7 Z (b5 Z Z (F5 Z Z Z (by (try simp only [ByteArray.size_append,r8,List.size_toArray,List.length_cons,List.length_nil]);omega)) (a7 Z (b5 Z Z (c6 Z Z) (b6 (hK4 _ ?_))))))))))))))))
   clear hK4 K4
   refine d3 (λK5 hK5=>?_)
   refine d3 (λK6 hK6=>?_)
   refine b8 (a7 Z (b5 Z Z (c7 Z Z) (a7 Z (b5 Z Z (o9 G Z Z Z) (a7 Z (b5 Z Z (B3 Z Z Z Z) (b6 (hK6 _ ?_))))))))
   clear hK6 K6
   refine m6 Z (λh3=>?_) (λh3=>?_)
   ·try rw [h3]
    try simp only [rfb] at h3
    exfalso;have h3q:(4000:Int) < ((a0P s).size:Int):=h3;omega
   ·try rw [h3]
    try simp only [rfb] at h3
    refine s3 (hK5 _ ?_)
    clear hK5 K5
    refine d3 (λK7 hK7=>?_)
    refine b8 (a7 Z (b5 Z Z (c7 Z Z) (a7 Z (b5 Z Z (c6 Z Z) (a7 Z (b5 Z Z (c6 Z Z) (b6 (hK7 _ ?_))))))))
    clear hK7 K7
    refine e6 (p8 Z Z Z Z (b4 (l3 ?_) (b4 (l3 ?_) f6)))
    all_goals (first | rfl | (simp_all;done))
theorem a0E (k:Int) (x:Rec) (hk:0<=k) (hk2:k<=1000000) (hx:D4 x=true):Ctr Tryz.prog 61 [.v (.int .i64 k),.v (b29 x)] (.one (.v (.string (a0Q k x)))):=by
 have hbs:=a3R hk J hx
 have hst:=a24 hk hx
 obtain ⟨hx1,hx2,hx3,hx4,hx5⟩:=a1z hx
 have hz:=u7 (n:=k) J J
 have hss:=a1A (s:=G4 k x)
 refine Ctr.of (n:=17) G Tryz.func61 Z Y Z Z Z (λw0=>?_)
 refine d3 (λK1 hK1=>?_)
 refine b8 (a7 Z (y9 1 Z Z Z Z Z Z Z (a7 Z (b5 Z Z (c6 Z Z) (b6 (hK1 _ ?_))))))
 clear hK1 K1
 refine d3 (λK2 hK2=>?_)
 refine a5j mixed Y (j4 Z (r5 Z Z (c7 Z Z) (j4 Z (r5 Z Z (f9 Z (ArgsOK.of Z) (w3 _ J J) Z) (j4 Z (r5 Z Z (F5 Z Z Z (by (try simp only [ByteArray.size_append,r8,List.size_toArray,List.length_cons,List.length_nil]);omega)) (j4 Z (r5 Z Z (m9 G Z Z Z Z) (j4 Z (r5 Z Z (o7 G Z Z Z Z Z Z Z) (j4 Z (r5 Z Z (F5 Z Z Z (by (try simp only [ByteArray.size_append,r8,List.size_toArray,List.length_cons,List.length_nil]);omega)) (j4 Z (r5 Z Z (F5 Z Z Z (by (try simp only [ByteArray.size_append,r8,List.size_toArray,List.length_cons,List.length_nil]);omega)) (j4 Z (r5 Z Z (m9 G Z Z Z Z) (j4 Z (r5 Z Z (o7 G Z Z Z Z Z Z Z) (j4 Z (r5 Z Z (F5 Z Z Z (by (try simp only [ByteArray.size_append,r8,List.size_toArray,List.length_cons,List.length_nil]);omega)) (j4 Z (r5 Z Z (f9 Z (ArgsOK.of Z) (b0G (G4 k x) J) Z) (j4 Z (r5 Z Z (F5 Z Z Z (by (try simp only [ByteArray.size_append,r8,List.size_toArray,List.length_cons,List.length_nil]);omega)) (j4 Z (r5 Z Z (c6 Z Z) (a8V (hK2 _ ?_))))))))))))))))))))))))))))
 clear hK2 K2
 exact b9R
theorem Z5 (k:Int) (x:Rec) (hk:0<=k) (hk2:k<=1000000) (hx:D4 x=true):Ctr Tryz.prog 76 [.v (.int .i64 k),.v (b29 x)] (.one (.v (.string (a0Q k x)))):=by
 have hbs:=a3R hk J hx
 have hst:=a24 hk hx
 obtain ⟨hx1,hx2,hx3,hx4,hx5⟩:=a1z hx
 have hz:=u7 (n:=k) J J
 have hss:=a1A (s:=G4 k x)
 refine Ctr.of (n:=23) G Tryz.func76 Z Y Z Z Z (λw0=>?_)
 refine d3 (λK1 hK1=>?_)
 refine b8 (a7 Z (y9 1 Z Z Z Z Z Z Z (a7 Z (b5 Z Z (c6 Z Z) (b6 (hK1 _ ?_))))))
 clear hK1 K1
 refine d3 (λK2 hK2=>?_)
 refine a5j mixed Y (j4 Z (r5 Z Z (c7 Z Z) (j4 Z (r5 Z Z (f9 Z (ArgsOK.of Z) (x9 _ J J) Z) (j4 Z (r5 Z Z (F5 Z Z Z (by (try simp only [ByteArray.size_append,r8,List.size_toArray,List.length_cons,List.length_nil]);omega)) (j4 Z (r5 Z Z (m9 G Z Z Z Z) (j4 Z (r5 Z Z (o7 G Z Z Z Z Z Z Z) (j4 Z (r5 Z Z (F5 Z Z Z (by (try simp only [ByteArray.size_append,r8,List.size_toArray,List.length_cons,List.length_nil]);omega)) (j4 Z (r5 Z Z (F5 Z Z Z (by (try simp only [ByteArray.size_append,r8,List.size_toArray,List.length_cons,List.length_nil]);omega)) (j4 Z (r5 Z Z (m9 G Z Z Z Z) (j4 Z (r5 Z Z (o7 G Z Z Z Z Z Z Z) (j4 Z (r5 Z Z (F5 Z Z Z (by (try simp only [ByteArray.size_append,r8,List.size_toArray,List.length_cons,List.length_nil]);omega)) (j4 Z (r5 Z Z (f9 Z (ArgsOK.of Z) (a2O (G4 k x) J hst) Z) (j4 Z (r5 Z Z (c7 Z Z) (j4 Z (r5 Z Z (j8 Z Z Z) (j4 Z (r5 Z Z (j8 Z Z Z) (j4 Z (r5 Z Z (c6 Z Z) (j4 Z (r5 Z Z (c6 Z Z) (a8V (hK2 _ ?_))))))))))))))))))))))))))))))))))
 clear hK2 K2
 refine d3 (λK3 hK3=>?_)
 refine b8 (a7 Z (b5 Z Z (c7 Z Z) (a7 Z (b5 Z Z (F5 Z Z Z (by (try simp only [ByteArray.size_append,r8,List.size_toArray,List.length_cons,List.length_nil]);omega)) (a7 Z (b5 Z Z (c6 Z Z) (b6 (hK3 _ ?_))))))))
 clear hK3 K3
 exact b9R
theorem H8 (s:ByteArray) (b:Int) (hs:s.size<=1048576):Ctr Tryz.prog 41 [.v (.string s),.v (.int .u8 b)] (.one (.fr 9 1 ((e7 s b).map U0))):=by
 refine Ctr.of (n:=35) G Tryz.func41 Z a8 Z Z Z (λw0=>?_)
 refine b3X ?_
 refine zgo ?_
 refine d9 [0,1] [] (λ(i:Nat)=>[(5,.own 0),(6,.v (.int .i64 ((spO s b i).2:Int))),(7,.v (.int .i64 (i:Int)))]) (λ(i:Nat)=>[(0,some (.row 9 1 ((spO s b i).1.map U0)))]) (λ(i:Nat)=>i<=s.size) (λ(i:Nat)=>s.size - i) 0 Z Z ?_ ?_ ?_ ?_
 ·exact C7
 ·exact c3n
 ·exact a1k
 intro i hinv
 have hi:i<=s.size:=hinv
 have hsp:=b4h (s:=s) (b:=b) (i:=i)
 have hbi:p9 s i=((s.data.toList.getD ((i:Int)).toNat 0).toNat:Int):=rfl
 refine vm4 ?_
 refine a41 ?_
 refine zcd (λh1=>?_) (λh1=>?_)
 ·refine n9 ?_
  refine b65 ?_
  refine zcd (λh2=>?_) (λh2=>?_)
  ·refine c1p ?_
   refine vm5 ?_
   refine b3Y ?_
   refine vm5 ?_
   refine c1q ?_
   exact c7Z
  exact c7Z
 refine c1p ?_
 refine vm5 ?_
 refine b3Y ?_
 refine vm5 ?_
 refine c1q ?_
 refine zfo ?_
 all_goals ((have e:i=s.size:=J;subst e;simp only [e7,List.map_append];rfl))
theorem a98 (s:ByteArray) (k:Int) (hs:s.size<=1048576) (hk:0<=k) (hk2:k<=1000000):Ctr Tryz.prog 132 [.v (.string s),.v (.int .i64 k)] (.many [.v (b29 (rdE s k)),.v (.bool (rdK s k))]):=by
 have hf1:=O2 (s:=s) (c:=35)
 have hf2:=a5D (s:=s) (c:=35)
 have hz:=u7 (n:=k) J J
 have ha:(G5 k).size=(s1 k).size+1:=(by unfold G5;rw [ByteArray.size_append];rfl)
 obtain ⟨hs1,hs2⟩:=Q0 (s:=s) (b:=35)
 obtain ⟨ht1,ht2⟩:=Q0 (s:=y8 s k) (b:=64)
 have hl1:=G6 (s:=s) (b:=35)
 have hrs:(y8 s k).size=(l1 s 35).size - (G5 k).size:=(by rw [y8,a26 (Nat.le_refl _)])
 have hf3:=O2 (s:=y8 s k) (c:=64)
 have hf4:=a5D (s:=y8 s k) (c:=64)
 have hl2:=G6 (s:=y8 s k) (b:=64)
 refine Ctr.of (n:=64) G Tryz.func132 Z Y Z Z Z (λw0=>?_)
 refine d3 (λK1 hK1=>?_)
 refine b8 (a7 Z (d8 G 1 Z Z Z Z Z (a7 Z (b5 Z Z (c6 Z Z) (b6 (hK1 _ ?_))))))
 clear hK1 K1
 refine d3 (λK2 hK2=>?_)
 refine b8 (a7 Z (b5 Z Z (c7 Z Z) (a7 Z (b5 Z Z (f9 Z (ArgsOK.of Z) (w3 _ J J) Z) (a7 Z (b5 Z Z (F5 Z Z Z (by (try simp only [ByteArray.size_append,r8,List.size_toArray,List.length_cons,List.length_nil]);omega)) (a7 Z (b5 Z Z (c6 Z Z) (b6 (hK2 _ ?_))))))))))
 clear hK2 K2
 rw [show (s1 k++(⟨#[32]⟩:ByteArray))=G5 k from rfl]
 refine d3 (λK3 hK3=>?_)
 refine b8 (a7 Z (b5 Z Z (c7 Z Z) (a7 Z (c8 2 Z Z Z (ArgsOK.of Z) (H8 s 35 J) Z Z (a7 Z ?_)))))
 first | refine b5 Z Z (b9 G Z Z Z Z Z J (by simp;omega)) ?_ | refine b5 Z Z (b9 G Z Z Z Z Z J J) ?_
 refine a7 Z (b5 Z Z (i7 G Z Z Z Z Z (x7 J (by simp;omega)) Z) (a7 Z (b5 Z Z (c6 Z Z) (b6 (hK3 _ ?_)))))
 clear hK3 K3
 first | rw [hs1] | rw [show (e7 s 35).getD ((0:Int)).toNat default=l1 s 35 from hs1] | trace_state
 refine d3 (λK4 hK4=>?_)
 refine d3 (λK5 hK5=>?_)
 refine b8 (a7 Z (b5 Z Z (c7 Z Z) (a7 Z (b5 Z Z (o9 G Z Z Z) (a7 Z (b5 Z Z (c7 Z Z) (a7 Z (b5 Z Z (o9 G Z Z Z) (a7 Z (b5 Z Z (B3 Z Z Z Z) (a7 Z (b5 Z Z (c7 Z Z) (A3 Z Z Z (λh1=>?_) (λh1=>?_))))))))))))))
 ·try rw [h1]
  try simp only [rfb] at h1
  have hB:=c39 (c4a (s:=s) (k:=k) J)
  refine l5 Z Z Z Z Z Z (l5 Z Z Z Z Z Z (l5 Z Z Z Z Z Z (l5 Z Z Z Z Z Z (l5 Z Z Z Z Z Z (l5 Z Z Z Z Z Z (a7 Z (b5 Z Z (A0 Z Z Z) (b6 (hK5 _ ?_)))))))))
  clear hK5 K5
  refine J9 Z ?_
  refine d3 (λK6 hK6=>?_)
  refine b8 (a7 Z (b5 Z Z (w5 G Z Z Z Z) (a7 Z (m4 G Z Z Z Z Z Z Z Z Z Z Z (a7 Z (b5 Z Z (c6 Z Z) (b6 (hK6 _ ?_))))))))
  clear hK6 K6
  exact c3e
 ·try rw [h1]
  try simp only [rfb] at h1
  refine o8 Z Z Z (b5 Z Z (c7 Z Z) (o8 Z Z Z (b5 Z Z (c7 Z Z) (o8 Z Z Z (b5 Z Z (o9 G Z Z Z) (o8 Z Z Z (b5 Z Z (H9 G Z Z Z Z Z J J J) (o8 Z Z Z (b5 Z Z (c7 Z Z) (o8 Z Z Z (b5 Z Z (u4 Z Z Z Z) (a7 Z (b5 Z Z (x6 Z Z Z) (b6 (hK5 _ ?_)))))))))))))))
  clear hK5 K5
  refine m6 Z (λh2=>?_) (λh2=>?_)
  ·try rw [h2]
   try simp only [rfb] at h2
   have hB:=c39 (c4b (s:=s) (k:=k) h2)
   refine d3 (λK7 hK7=>?_)
   refine b8 (a7 Z (b5 Z Z (w5 G Z Z Z Z) (a7 Z (m4 G Z Z Z Z Z Z Z Z Z Z Z (a7 Z (b5 Z Z (c6 Z Z) (b6 (hK7 _ ?_))))))))
   clear hK7 K7
   exact c3e
  ·try rw [h2]
   try simp only [rfb] at h2
   have hA:=c6o (s:=s) (k:=k) J h2
   refine s3 (hK4 _ ?_)
   clear hK4 K4
   refine d3 (λK8 hK8=>?_)
   refine b8 (a7 Z (b5 Z Z (c7 Z Z) (a7 Z (b5 Z Z (c7 Z Z) (a7 Z (b5 Z Z (o9 G Z Z Z) (a7 Z (b5 Z Z (H9 G Z Z Z Z Z J J J) (a7 Z (b5 Z Z (c6 Z Z) (b6 (hK8 _ ?_))))))))))))
   clear hK8 K8
   rw [show (l1 s 35).extract (((G5 k).size:Int)).toNat (((l1 s 35).size:Int)).toNat=y8 s k from rfl]
   refine d3 (λK9 hK9=>?_)
   refine b8 (a7 Z (b5 Z Z (c7 Z Z) (a7 Z (c8 3 Z Z Z (ArgsOK.of Z) (H8 (y8 s k) 64 J) Z Z (a7 Z ?_)))))
   first | refine b5 Z Z (b9 G Z Z Z Z Z J (by simp;omega)) ?_ | refine b5 Z Z (b9 G Z Z Z Z Z J J) ?_
   refine a7 Z (b5 Z Z (i7 G Z Z Z Z Z (x7 J (by simp;omega)) Z) (a7 Z (b5 Z Z (c6 Z Z) (b6 (hK9 _ ?_)))))
   clear hK9 K9
   first | rw [ht1] | rw [show (e7 (y8 s k) 64).getD ((0:Int)).toNat default=l1 (y8 s k) 64 from ht1] | trace_state
   refine d3 (λK10 hK10=>?_)
   refine d3 (λK11 hK11=>?_)
   refine b8 (a7 Z (b5 Z Z (c7 Z Z) (a7 Z (b5 Z Z (o9 G Z Z Z) (a7 Z (b5 Z Z (c7 Z Z) (a7 Z (b5 Z Z (o9 G Z Z Z) (a7 Z (b5 Z Z (B3 Z Z Z Z) (b6 (hK11 _ ?_))))))))))))
   clear hK11 K11
   refine m6 Z (λh3=>?_) (λh3=>?_)
   ·try rw [h3]
    try simp only [rfb] at h3
    have hB:=c39 (c4c (s:=s) (k:=k) J)
    refine d3 (λK12 hK12=>?_)
    refine b8 (a7 Z (b5 Z Z (w5 G Z Z Z Z) (a7 Z (m4 G Z Z Z Z Z Z Z Z Z Z Z (a7 Z (b5 Z Z (c6 Z Z) (b6 (hK12 _ ?_))))))))
    clear hK12 K12
    refine e6 (p8 Z Z Z Z (b4 (a08 Z ?_) (b4 (l3 ?_) f6)))
    all_goals clear hK10 K10
    all_goals (first | (rw [hB.1];rfl) | (rw [hB.2];rfl) | (rw [hB.2];done) | (rw [b0Z hB,h4];rfl) | (rw [b0Z hB,h4];simp;done))
   ·try rw [h3]
    try simp only [rfb] at h3
    have hB:=c6p hA J
    have hr:=b7z (s:=s) (k:=k)
    have hxs:(rdX s k).c.size<=9223372036854775807/\(rdX s k).r.size<=9223372036854775807:=J
    refine s3 (hK10 _ ?_)
    clear hK10 K10
    refine d3 (λK13 hK13=>?_)
    refine b8 (a7 Z (b5 Z Z (c7 Z Z) (a7 Z (b5 Z Z (c7 Z Z) (a7 Z (b5 Z Z (c7 Z Z) (a7 Z (b5 Z Z (o9 G Z Z Z) (a7 Z ?_)))))))))
    first | refine b5 Z Z (v6 Z Z Z Z J J) ?_ | refine b5 Z Z (A4 Z Z Z Z) ?_
    refine a7 Z (b5 Z Z (H9 G Z Z Z Z Z J J J) (a7 Z (b5 Z Z (w5 G Z Z Z Z) (a7 Z (d8 G 4 Z Z Z Z Z (a7 Z (m4 G Z Z Z Z Z Z Z Z Z Z Z (b6 (hK13 _ ?_)))))))))
    clear hK13 K13
    rw [show (y8 s k).extract (((l1 (y8 s k) 64).size:Int)+1).toNat (((y8 s k).size:Int)).toNat=(rdX s k).r from rfl]
    rw [show l1 (y8 s k) 64=(rdX s k).c from rfl]
    refine d3 (λK14 hK14=>?_)
    refine j7 13 [1,2,3] mixed Y Z Z (λr0=>?_) (λ_ h=>h)
    refine d4 0 Z Y Y Z Z Z Z (i6 G Z Z Z Z Z Z) (d4 1 Z Y Y Z Z Z Z (i6 G Z Z Z Z Z Z) ?_)
    refine b7 (rs:=[2]) Y Z (AllB.cons ?_ AllB.nil)
    refine g8 [1,2,3] Z Z (b5 Z Z (f9 Z (ArgsOK.of Z) (a0H (rdX s k) hxs) Z) (b6 ⟨Z,?_⟩))
    refine d4 3 Z Y Y Z Z Z Z (c7 Z Z) (b96 (gd:=56) Z (λh4=>?_) (λh4=>?_))
    ·try rw [h4]
     try simp only [rfb] at h4
     refine O1 4 Z Y Y Z Z Z Z Z Z (c7 Z Z) (O1 5 Z Y Y Z Z Z Z Z Z (i6 G Z Z Z Z Z Z) (O1 7 Z Y Y Z Z Z Z Z Z (c7 Z Z) (O1 8 Z Y Y Z Z Z Z Z Z (F5 Z Z Z (by (try simp only [ByteArray.size_append,r8,List.size_toArray,List.length_cons,List.length_nil]);omega)) ?_)))
     refine b7 (rs:=[6]) Y Z (AllB.cons ?_ AllB.nil)
     refine b97 [1,2,3] Z Z Z Z (b5 Z Z (f9 Z (ArgsOK.of Z) (a0E k (rdX s k) J J (by assumption)) Z) (b6 ⟨Z,?_⟩))
     refine O1 9 Z Y Y Z Z Z Z Z Z (u4 Z Z Z Z) (d4 10 Z Y Y Z Z Z Z (A0 Z Z Z) ?_)
     exact c8b
    ·try rw [h4]
     try simp only [rfb] at h4
     refine a2a 4 Z Y Y Z Z Z Z Z Z (a2a 5 Z Y Y Z Z Z Z Z Z (a2a 6 Z Y Y Z Z Z Z Z Z (a2a 7 Z Y Y Z Z Z Z Z Z (a2a 8 Z Y Y Z Z Z Z Z Z (a2a 9 Z Y Y Z Z Z Z Z Z (d4 10 Z Y Y Z Z Z Z (x6 Z Z Z) ?_))))))
     exact c8b
theorem a8u (s:ByteArray) (hs:s.size<=9223372036854775807):Ctr Tryz.prog 57 [.v (.string s)] (.many [.v (.int .i64 (nmN s)),.v (.bool (nmK s))]):=by
 refine Ctr.of (n:=8) G Tryz.func57 Z a8 Z Z Z (λw0=>?_)
 refine zcl (b0F s hs) ?_
 refine zgo ?_
 refine e6 (p8 Z Z Z Z (b4 (l3 ?_) (b4 (l3 ?_) f6)))
 all_goals (rfl)
theorem a48 (w:ByteArray):Ctr Tryz.prog 70 [.v (.string w)] (.one (.v (.int .i64 (a1g (l9 w))))):=by
 refine Ctr.of (n:=20) G Tryz.func70 Z a8 Z Z Z (λw0=>?_)
 refine J4 ?_
 refine zcd (λh1=>?_) (λh1=>?_)
 ·have k1:=b1n.mp h1
  exact a4w
 have k1:=mt b1n.mpr h1
 refine J4 ?_
 refine zcd (λh2=>?_) (λh2=>?_)
 ·have k2:=b1o.mp h2
  exact a4w
 have k2:=mt b1o.mpr h2
 refine J4 ?_
 refine zcd (λh3=>?_) (λh3=>?_)
 ·have k3:=b1p.mp h3
  exact b9D
 have k3:=mt b1p.mpr h3
 refine J4 ?_
 refine zcd (λh4=>?_) (λh4=>?_)
 ·have k4:=b1q.mp h4
  exact a4w
 have k4:=mt b1q.mpr h4
 refine J4 ?_
 refine zcd (λh5=>?_) (λh5=>?_)
 ·have k5:=b1r.mp h5
  exact a4w
 have k5:=mt b1r.mpr h5
 refine J4 ?_
 refine zcd (λh6=>?_) (λh6=>?_)
 ·have k6:=b1s.mp h6
  exact a4w
 have k6:=mt b1s.mpr h6
 refine J4 ?_
 refine zcd (λh7=>?_) (λh7=>?_)
 ·have k7:=b1t.mp h7
  exact a4w
 have k7:=mt b1t.mpr h7
 refine J4 ?_
 refine zcd (λh8=>?_) (λh8=>?_)
 ·have k8:=b1u.mp h8
  exact a4w
 have k8:=mt b1u.mpr h8
 refine J4 ?_
 refine zcd (λh9=>?_) (λh9=>?_)
 ·have k9:=b1v.mp h9
  exact a4w
 have k9:=mt b1v.mpr h9
 refine J4 ?_
 refine zcd (λh10=>?_) (λh10=>?_)
 ·have k10:=b1w.mp h10
  exact a4w
 have k10:=mt b1w.mpr h10
 refine J4 ?_
 refine zcd (λh11=>?_) (λh11=>?_)
 ·have k11:=b2u.mp h11
  exact a4w
 have k11:=mt b2u.mpr h11
 refine J4 ?_
 refine zcd (λh12=>?_) (λh12=>?_)
 ·have k12:=a68.mp h12
  exact b9D
 have k12:=mt a68.mpr h12
 refine J4 ?_
 refine zcd (λh13=>?_) (λh13=>?_)
 ·have k13:=a69.mp h13
  exact b9D
 have k13:=mt a69.mpr h13
 exact b9D
theorem b0H (w:ByteArray) (l:List Int) (hl:a1g (l9 w)=l.length):Ctr Tryz.prog 72 [.v (.string w),.lst 1 (l.map Rf.n8)] (.many [.v (b7R (X6 (l9 w) l).1),.v (.bool (X6 (l9 w) l).2)]):=by
 refine Ctr.of (n:=50) G Tryz.func72 Z a8 Z Z Z (λw0=>?_)
 refine a6q ?_
 refine J4 ?_
 refine zcd (λh1=>?_) (λh1=>?_)
 ·have k1:=b1q.mp h1
  exact b35
 have k1:=mt b1q.mpr h1
 refine J4 ?_
 refine zcd (λh2=>?_) (λh2=>?_)
 ·have k2:=b1r.mp h2
  exact b35
 have k2:=mt b1r.mpr h2
 refine J4 ?_
 refine zcd (λh3=>?_) (λh3=>?_)
 ·have k3:=b1s.mp h3
  exact b35
 have k3:=mt b1s.mpr h3
 refine J4 ?_
 refine zcd (λh4=>?_) (λh4=>?_)
 ·have k4:=b1n.mp h4
  refine zgo ?_
  exact c1y
 have k4:=mt b1n.mpr h4
 refine J4 ?_
 refine zcd (λh5=>?_) (λh5=>?_)
 ·have k5:=b1t.mp h5
  exact b35
 have k5:=mt b1t.mpr h5
 refine J4 ?_
 refine zcd (λh6=>?_) (λh6=>?_)
 ·have k6:=b1u.mp h6
  exact b35
 have k6:=mt b1u.mpr h6
 refine J4 ?_
 refine zcd (λh7=>?_) (λh7=>?_)
 ·have k7:=a69.mp h7
  have hn:=a7a (k:=l9 w) J
  rw [hl] at hn
  refine p6 (j7 9 [] mixed a8 Z Z (λr0=>?_) (λ_ h=>h))
  refine a0C ?_
  refine b0u ?_
  refine b7 (rs:=[7]) a8 Z (AllB.cons ?_ AllB.nil)
  refine f8 [] Z Z ?_
  refine J5 ?_
  refine zsa 8 ?_
  refine H4 ?_
  exact c1y
 have k7:=mt a69.mpr h7
 refine zgo ?_
 exact c1y
theorem Y8 (l:List Int) (hl:l.length<=1048576) (hn:∀i,i < l.length→a0z (l.getD i default)):Ctr Tryz.prog 110 [.lst 1 (l.map Rf.n8)] (.one (.v (.string (a4V l)))):=by
 refine Ctr.of (n:=24) G Tryz.func110 Z a8 Z Z Z (λw0=>?_)
 refine zcd (λh1=>?_) (λh1=>?_)
 ·exact c3p
 have hJ:=c4X (l:=l) J
 refine b3X ?_
 refine zgo ?_
 refine d9 [10,11] [] (λ(i:Nat)=>[(3,.own 0),(12,.v (.int .i64 (i:Int)))]) (λ(i:Nat)=>[(0,some (.row 9 1 ((a9P l i).map U0)))]) (λ(i:Nat)=>i<=l.length) (λ(i:Nat)=>l.length - i) 0 Z Z ?_ ?_ ?_ ?_
 ·exact C7
 ·exact a0e
 ·exact a1k
 intro i hi
 have hpl:=@b3N l i
 refine vm4 ?_
 refine zcd (λh2=>?_) (λh2=>?_)
 ·obtain ⟨hn1,hn2⟩:=hn i J
  refine zcl (x9 (l.getD i default) J J) ?_
  refine vm5 ?_
  refine b3Y ?_
  refine vm6 ?_
  refine zgo ?_
  refine ⟨(i+1),?_,?_,⟨⟨_,Z,by rfl⟩,Z,⟨⟨_,Z,by rfl⟩,Z,trivial⟩⟩,⟨⟨_,Z,by (rw [b6Q J,List.map_append];rfl)⟩,Z,Z,trivial⟩,Z,Z,Z⟩
  ·omega
  omega
 obtain rfl:i=l.length:=J
 refine zcl (a3x (a9P l l.length) (Nat.le_trans b3N hl) (c0Y hl hn)) ?_
 refine zf1 ?_
 all_goals (first | (rw [hE];rfl) | (rw [hJ];done))
theorem a0I (l:List Int) (hl:l.length<=1048576) (hn:∀i,i < l.length→a0z (l.getD i default)):Ctr Tryz.prog 97 [.lst 1 (l.map Rf.n8)] (.one (.v (.string (a4V l)))):=by
 refine Ctr.of (n:=27) G Tryz.func97 Z a8 Z Z Z (λw0=>?_)
 refine zcd (λh1=>?_) (λh1=>?_)
 ·exact c3p
 have hJ:=b8V (l:=l) J
 obtain ⟨hn1,hn2⟩:=hn 0 J
 refine zcl (w3 (l.getD 0 default) J J) ?_
 refine zgo ?_
 refine d9 [0] [] (λ(i:Nat)=>[(3,.v (.string (jnS (b2o l) i))),(4,.v (.int .i64 (i:Int)))]) (λ(i:Nat)=>[]) (λ(i:Nat)=>1<=i/\i<=l.length) (λ(i:Nat)=>l.length - i) 1 Z Z ?_ ?_ ?_ ?_
 ·exact ⟨Nat.le_refl _,by omega⟩
 ·exact ⟨⟨_,Z,by (first | rfl | (rw [b5E,a1O J];first | done | rfl))⟩,Z,⟨⟨_,Z,by (first | rfl | (rw [b5E,a1O J];first | done | rfl))⟩,Z,trivial⟩⟩
 ·exact trivial
 intro i hi
 refine vm4 ?_
 refine zcd (λh2=>?_) (λh2=>?_)
 ·obtain ⟨hn3,hn4⟩:=hn i J
  have hz:=b1j hn i J
  have hzn:=u7 (n:=l.getD i default) J hn4
  refine zgo ?_
  refine b64 ?_
  refine zcl (w3 (l.getD i default) J J) ?_
  refine b64 ?_
  refine zgo ?_
  refine ⟨(i+1),?_,?_,⟨⟨_,Z,by (first | rfl | (rw [a6e J,a1O J];first | done | rfl))⟩,Z,⟨⟨_,Z,by (first | rfl | (rw [a6e J,a1O J];first | done | rfl))⟩,Z,trivial⟩⟩,trivial,Z,Z,Z⟩
  ·exact ⟨by omega,by omega⟩
  omega
 obtain rfl:i=l.length:=J
 refine zf1 ?_
 all_goals (first | (rw [hE];rfl) | (rw [hJ];done))
theorem a7m (sl:List Slot) (hF:SlF sl):Ctr Tryz.prog 116 [.lst 3 (sl.map e9)] (.one (.v (.string (a4p sl)))):=by
 have hl4:=hF.len
 have hcs:(⟨#[45,112,97,98]⟩:ByteArray).size=4:=rfl
 refine Ctr.of (n:=40) G Tryz.func116 Z a8 Z Z Z (λw0=>?_)
 refine b3X ?_
 refine zgo ?_
 refine d9 [8,9] [] (λ(i:Nat)=>[(3,.own 0),(10,.v (.int .i64 (i:Int)))]) (λ(i:Nat)=>[(0,some (.row 9 1 ((a6g sl i).map U0)))]) (λ(i:Nat)=>i<=sl.length) (λ(i:Nat)=>sl.length - i) 0 Z Z ?_ ?_ ?_ ?_
 ·exact C7
 ·exact a0e
 ·exact a1k
 intro i hi
 have hpl:=@b3O sl i
 refine vm4 ?_
 refine zcd (λh1=>?_) (λh1=>?_)
 ·have hs3:=hF.s03 (i:=i) J
  have hlb:=@a67 (sl.getD i default).s
  rw [a6f] at hlb
  refine zgo ?_
  refine b0t ?_
  refine c1p ?_
  refine zcd (λh2=>?_) (λh2=>?_)
  ·have hnm:=hF.nums (i:=i) J J
   refine zgd ?_
   refine zcl (x9 (sl.getD i default).q J J) ?_
   refine b63 ?_
   refine zcl (x9 (sl.getD i default).p J J) ?_
   refine b63 ?_
   refine b63 ?_
   exact c78
  exact c78
 obtain rfl:i=sl.length:=J
 have hJ:=@b8W sl
 refine zcl (a3x (a6g sl sl.length) (Nat.le_trans b3O J) (c0Z J (c14 hF))) ?_
 refine zf1 ?_
 all_goals (first | (rw [hJ];done))
theorem b0I (sl:List Slot) (hF:SlF sl):Ctr Tryz.prog 146 [.lst 3 (sl.map e9)] (.one (.v (.string (a4p sl)))):=by
 have hl4:=hF.len
 have hcs:(⟨#[45,112,97,98]⟩:ByteArray).size=4:=rfl
 refine Ctr.of (n:=46) G Tryz.func146 Z a8 Z Z Z (λw0=>?_)
 refine zgo ?_
 refine d9 [0] [] (λ(i:Nat)=>[(3,.v (.string (jnS (a2s sl) i))),(4,.v (.int .i64 (i:Int)))]) (λ(i:Nat)=>[]) (λ(i:Nat)=>i<=sl.length) (λ(i:Nat)=>sl.length - i) 0 Z Z ?_ ?_ ?_ ?_
 ·exact C7
 ·exact a0e
 ·exact trivial
 intro i hi
 refine vm4 ?_
 refine zcd (λh1=>?_) (λh1=>?_)
 ·have hs3:=hF.s03 (i:=i) J
  have hlb:=@a67 (sl.getD i default).s
  rw [a6f] at hlb
  have hz:=b1k (c14 hF) i J
  refine zcd (λh2=>?_) (λh2=>?_)
  ·refine zgo ?_
   refine b64 ?_
   exact c7T
  exact c7T
 obtain rfl:i=sl.length:=J
 have hJ:jnS (a2s sl) sl.length=a4p sl:=(by rw [a4p,jnA,a0A])
 refine zf1 ?_
 all_goals (first | (rw [hJ];done))
theorem a7n (rs:List Route) (a:Abs) (c:Nat) (hF:AbsF rs a) (hc:c < a.ma.length):Ctr Tryz.prog 117 [.lst 2 (rs.map l7),.agg [.lst 1 (a.en.map j6),.lst 1 (a.ra.map j6),.lst 1 (a.po.map j6),.lst 1 (a.ma.map Rf.n8),.nst none 1 (a.st.map a5T)],.v (.int .i64 (c:Int))] (.one (.v (.int .i64 (A9 rs a c)))):=by
 have f0:=hF.n
 have f1:=hF.rn
 have f2:=hF.st
 have f3:=hF.en
 have f4:=hF.ra
 have f5:=hF.po
 have fl:=hF.len c hc
 have fe:=hF.el c hc
 have fm:=hF.rt
 have ftn:(((a.st.getD c default).length:Int) - 1).toNat=(a.st.getD c default).length - 1:=J
 have ft:0 < (a.st.getD c default).length→0<=(a.st.getD c default).getD (((a.st.getD c default).length:Int) - 1).toNat default/\(a.st.getD c default).getD (((a.st.getD c default).length:Int) - 1).toNat default<=7:=λh0=>(by rw [ftn];exact fe _ J)
 refine Ctr.of (n:=69) G Tryz.func117 Z a8 Z Z Z (λw0=>?_)
 refine j5 1 Z (λ_=>Z) (λu1=>?_)
 refine vm3 ?_
 refine zgd ?_
 refine zgo ?_
 refine j4 Z (r5 Z Z (N5 G Z Z Z Z) ?_)
 refine zcd (λh1=>?_) (λh1=>?_)
 ·refine zf1 ?_
  all_goals exact c2y
 refine zcd (λh2=>?_) (λh2=>?_)
 ·refine n9 ?_
  refine b5 Z Z (b7q Z Z Z) ?_
  exact c3z
 exact c3z
theorem a99 (rs:List Route) (a:Abs) (c:Nat) (hF:AbsF rs a) (hc:c < a.ma.length):Ctr Tryz.prog 144 [.lst 2 (rs.map l7),.agg [.lst 1 (a.en.map j6),.lst 1 (a.ra.map j6),.lst 1 (a.po.map j6),.lst 1 (a.ma.map Rf.n8),.nst none 1 (a.st.map a5T)],.v (.int .i64 (c:Int))] (.one (.v (.int .i64 (A9 rs a c)))):=by
 have f0:=hF.n
 have f1:=hF.rn
 have f2:=hF.st
 have f3:=hF.en
 have f4:=hF.ra
 have f5:=hF.po
 have fl:=hF.len c hc
 have fe:=hF.el c hc
 have fm:=hF.rt
 have ftn:(((a.st.getD c default).length:Int) - 1).toNat=(a.st.getD c default).length - 1:=J
 have ft:0 < (a.st.getD c default).length→0<=(a.st.getD c default).getD (((a.st.getD c default).length:Int) - 1).toNat default/\(a.st.getD c default).getD (((a.st.getD c default).length:Int) - 1).toNat default<=7:=λh0=>(by rw [ftn];exact fe _ J)
 refine Ctr.of (n:=97) G Tryz.func144 Z a8 Z Z Z (λw0=>?_)
 refine j5 1 Z (λ_=>Z) (λu1=>?_)
 refine vm3 ?_
 refine zgo ?_
 refine d9 [0,2,4] [0] (λ(i:Nat)=>[(7,.v (.int .i64 (t8 rs a c i))),(8,.v (.int .i64 (i:Int)))]) (λ(i:Nat)=>[]) (λ(i:Nat)=>i<=8) (λ(i:Nat)=>8 - i) 0 Z Z ?_ ?_ ?_ ?_
 ·exact C7
 ·exact c3k
 ·exact trivial
 intro i hinv
 have hbl:=@a5U rs a c i
 refine vm4 ?_
 refine zcd (λh1=>?_) (λh1=>?_)
 ·refine zgd ?_
  refine zcd (λh2=>?_) (λh2=>?_)
  ·refine zcd (λh3=>?_) (λh3=>?_)
   ·refine zcd (λh4=>?_) (λh4=>?_)
    ·refine zwt ?_
     exact b9B
    refine zcd (λh5=>?_) (λh5=>?_)
    ·exact b9B
    exact b9B
   refine zwf ?_
   exact b9B
  refine zwf ?_
  exact b9B
 refine n9 ?_
 refine b66 ?_
 refine zgd ?_
 refine zcd (λh6=>?_) (λh6=>?_)
 ·refine zwt ?_
  exact b9G
 refine zcd (λh7=>?_) (λh7=>?_)
 ·refine zwt ?_
  exact b9G
 refine zcd (λh8=>?_) (λh8=>?_)
 ·refine zwt ?_
  exact b9G
 refine zcd (λh9=>?_) (λh9=>?_)
 ·refine zgo ?_
  refine b0v ?_
  refine r5 Z Z (N5 G Z Z Z Z) ?_
  refine zcd (λh10=>?_) (λh10=>?_)
  ·exact b9G
  exact b9G
 refine zwf ?_
 refine zf1 ?_
 all_goals exact c2o
end Go.Proofs.YtpfhomblkgmkkaaGreatDoor
