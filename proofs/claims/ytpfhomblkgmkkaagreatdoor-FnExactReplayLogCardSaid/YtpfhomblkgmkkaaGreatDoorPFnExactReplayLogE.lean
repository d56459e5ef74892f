/- Texts merged into one: L1, N, P2, L2, L3, Q1, F1, W4. -/
import Derived.Test.YtpfhomblkgmkkaaGreatDoorPFnExactReplayLogD
set_option maxHeartbeats 4000000
set_option linter.unusedSimpArgs false
set_option linter.unusedVariables false
set_option maxRecDepth 20000
namespace Go.Proofs.YtpfhomblkgmkkaaGreatDoor
open Go Go.Rf
theorem a3D (s:ByteArray) (hs:s.size≤9223372036854775807):Ctr Tryz.prog 68 [.v (.string s)] (.one (.v (.bool (a0v s)))):=by
 refine Ctr.of (n:=26) G Tryz.func68 rfl b3 rfl rfl rfl (fun w0=>?_)
 refine zgo ?_
 refine i7 [0] [] (fun (i:Nat)=>[(3,.v (.int .i64 (i:Int)))]) (fun (i:Nat)=>[]) (fun (i:Nat)=>i≤s.size∧∀ j,j < i→(a4y s) j=true) (fun (i:Nat)=>s.size - i) 0 rfl rfl ?_ ?_ ?_ ?_
 ·exact ⟨Nat.zero_le _,fun j hj=>by omega⟩
 ·exact ⟨⟨_,rfl,by (first | rfl | (simp;done) | (simp;omega))⟩,rfl,trivial⟩
 ·exact trivial
 intro i hinv
 have hbb:=a3g s i
 have hbi:r4 s i=((s.data.toList.getD ((i:Int)).toNat 0).toNat:Int):=rfl
 simp only [List.cons_append,List.nil_append]
 refine a32 ?_
 refine zcd (fun h1=>?_) (fun h1=>?_)
 ·refine vm5 ?_
  refine b4e ?_
  refine zcd (fun h2=>?_) (fun h2=>?_)
  ·refine H3 ?_
   all_goals exact a9C
  refine zgo ?_
  refine a0P ?_
  refine b4e ?_
  refine zcd (fun h3=>?_) (fun h3=>?_)
  ·refine H3 ?_
   all_goals exact a9C
  refine zgo ?_
  refine a0P ?_
  refine b4e ?_
  refine zcd (fun h4=>?_) (fun h4=>?_)
  ·refine zf1 ?_
   all_goals exact a9C
  refine zgo ?_
  refine ⟨(i+1),?_,?_,⟨⟨_,rfl,by rfl⟩,rfl,trivial⟩,trivial,rfl,rfl,rfl⟩
  ·refine ⟨by omega,i8 hinv.2 ?_⟩;(simp only [a4y,Bool.and_eq_true,decide_eq_true_eq,Bool.not_eq_true',beq_eq_false_iff_ne,ne_eq] at *;omega)
  omega
 refine zf1 ?_
 all_goals exact a9C
theorem a2R (s:ByteArray) (k:Int) (hs:s.size≤9223372036854775807):Ctr Tryz.prog 55 [.v (.string s),.v (.int .i64 k)] (.one (.v (.bool (a0v s && decide ((s.size:Int)≤k))))):=by
 refine Ctr.of (n:=28) G Tryz.func55 rfl b3 rfl rfl rfl (fun w0=>?_)
 refine zgo ?_
 refine i7 [0,1] [] (fun (i:Nat)=>[(5,.v (.int .i64 (i:Int)))]) (fun (i:Nat)=>[]) (fun (i:Nat)=>i≤s.size∧∀ j,j < i→(a4y s) j=true) (fun (i:Nat)=>s.size - i) 0 rfl rfl ?_ ?_ ?_ ?_
 ·exact ⟨Nat.zero_le _,fun j hj=>by omega⟩
 ·exact ⟨⟨_,rfl,by (first | rfl | (simp;done) | (simp;omega))⟩,rfl,trivial⟩
 ·exact trivial
 intro i hinv
 have hbb:=a3g s i
 have hbi:r4 s i=((s.data.toList.getD ((i:Int)).toNat 0).toNat:Int):=rfl
 simp only [List.cons_append,List.nil_append]
 refine a32 ?_
 refine zcd (fun h1=>?_) (fun h1=>?_)
 ·refine c3Y ?_
  refine a96 ?_
  refine zcd (fun h2=>?_) (fun h2=>?_)
  ·have hin:=a8J.mp h2
   refine H3 ?_
   all_goals exact a9C
  have hin:=p7.mp h2
  refine zgo ?_
  refine a0P ?_
  refine b4e ?_
  refine zcd (fun h3=>?_) (fun h3=>?_)
  ·refine zf1 ?_
   all_goals exact a9C
  refine zgo ?_
  refine ⟨(i+1),?_,?_,⟨⟨_,rfl,by rfl⟩,rfl,trivial⟩,trivial,rfl,rfl,rfl⟩
  ·refine ⟨by omega,i8 hinv.2 ?_⟩;(simp only [a4y,Bool.and_eq_true,decide_eq_true_eq,Bool.not_eq_true',beq_eq_false_iff_ne,ne_eq] at *;omega)
  omega
 refine a32 ?_
 refine zf1 ?_
 all_goals exact a9C
theorem a77 (s:ByteArray) (b:Int) (hs:s.size≤9223372036854775807):Ctr Tryz.prog 56 [.v (.string s),.v (.int .u8 b)] (.one (.v (.bool (m5 s b)))):=by
 refine Ctr.of (n:=17) G Tryz.func56 rfl b3 rfl rfl rfl (fun w0=>?_)
 refine zgo ?_
 refine i7 [0,1] [] (fun (i:Nat)=>[(5,.v (.int .i64 (i:Int)))]) (fun (i:Nat)=>[]) (fun (i:Nat)=>i≤s.size∧∀ j,j < i→((fun j=>!(r4 s j==b))) j=true) (fun (i:Nat)=>s.size - i) 0 rfl rfl ?_ ?_ ?_ ?_
 ·exact ⟨Nat.zero_le _,fun j hj=>by omega⟩
 ·exact ⟨⟨_,rfl,by (first | rfl | (simp;done) | (simp;omega))⟩,rfl,trivial⟩
 ·exact trivial
 intro i hinv
 have hbb:=a3g s i
 have hbi:r4 s i=((s.data.toList.getD ((i:Int)).toNat 0).toNat:Int):=rfl
 simp only [List.cons_append,List.nil_append]
 refine a32 ?_
 refine zcd (fun h1=>?_) (fun h1=>?_)
 ·refine vm5 ?_
  refine b4e ?_
  refine zcd (fun h2=>?_) (fun h2=>?_)
  ·refine zf1 ?_
   all_goals exact c06
  refine zgo ?_
  refine ⟨(i+1),?_,?_,⟨⟨_,rfl,by rfl⟩,rfl,trivial⟩,trivial,rfl,rfl,rfl⟩
  ·refine ⟨by omega,i8 hinv.2 ?_⟩;(simp only [Bool.not_eq_true',beq_eq_false_iff_ne,ne_eq];omega)
  omega
 refine zf1 ?_
 all_goals exact c06
theorem a1i (x:Rec) (h0:x.c.size≤9223372036854775807∧x.r.size≤9223372036854775807):Ctr Tryz.prog 28 [.v (b2u x)] (.one (.v (.bool (E2 x)))):=by
 refine Ctr.of (n:=22) G Tryz.func28 rfl b3 rfl rfl rfl (fun w0=>?_)
 refine vm1 ?_
 refine R6 ?_
 refine zcd (fun h1=>?_) (fun h1=>?_)
 ·refine zcl (a2R x.c _ h0.1) ?_
  refine zcd (fun h2=>?_) (fun h2=>?_)
  ·refine zcl (a77 x.c _ h0.1) ?_
   refine zcd (fun h3=>?_) (fun h3=>?_)
   ·refine zcl (a2R x.r _ h0.2) ?_
    refine zf1 ?_
    all_goals exact b5k
   refine zf1 ?_
   all_goals exact b5k
  refine zf1 ?_
  all_goals exact b5k
 refine zf1 ?_
 all_goals exact b5k
theorem N6 (x:Rec) (h0:x.c.size≤9223372036854775807∧x.r.size≤9223372036854775807):Ctr Tryz.prog 34 [.v (b2u x)] (.one (.v (.bool (E2 x)))):=by
 refine Ctr.of (n:=29) G Tryz.func34 rfl b3 rfl rfl rfl (fun w0=>?_)
 refine vm1 ?_
 refine a32 ?_
 refine b17 ?_
 refine zcd (fun h1=>?_) (fun h1=>?_)
 ·refine zgo ?_
  refine a0P ?_
  refine b6 rfl rfl (j9 G rfl rfl rfl) ?_
  refine zcd (fun h2=>?_) (fun h2=>?_)
  ·refine zcl (a3D x.c h0.1) ?_
   refine zcd (fun h3=>?_) (fun h3=>?_)
   ·refine zcl (a3D x.r h0.2) ?_
    refine zcd (fun h4=>?_) (fun h4=>?_)
    ·refine zcl (a1g x.c 64) ?_
     refine zf1 ?_
     all_goals exact b3p
    refine zf1 ?_
    all_goals exact b3p
   refine zf1 ?_
   all_goals exact b3p
  refine zf1 ?_
  all_goals exact b3p
 refine zf1 ?_
 all_goals exact b3p
theorem b2b (s:ByteArray) (hs:s.size≤9223372036854775807):Ctr Tryz.prog 149 [.v (.string s)] (.one (.v (.int .i64 (a5g s s.size)))):=by
 refine Ctr.of (n:=21) G Tryz.func149 rfl b3 rfl rfl rfl (fun w0=>?_)
 refine zgo ?_
 refine i7 [0] [] (fun (i:Nat)=>[(3,.v (.int .i64 (a5g s i))),(4,.v (.int .i64 (i:Int)))]) (fun (i:Nat)=>[]) (fun (i:Nat)=>i≤s.size) (fun (i:Nat)=>s.size - i) 0 rfl rfl ?_ ?_ ?_ ?_
 ·exact Nat.zero_le _
 ·exact ⟨⟨_,rfl,by rfl⟩,rfl,⟨⟨_,rfl,by rfl⟩,rfl,trivial⟩⟩
 ·exact trivial
 intro i hinv
 have hi:i≤s.size:=hinv
 have hsl:=a5h s i
 have hbb:=a3g s i
 have hbi:r4 s i=((s.data.toList.getD ((i:Int)).toNat 0).toNat:Int):=rfl
 simp only [List.cons_append,List.nil_append]
 refine a32 ?_
 refine zcd (fun h1=>?_) (fun h1=>?_)
 ·refine c39 ?_
  refine ⟨(i+1),?_,?_,⟨⟨_,rfl,by rfl⟩,rfl,⟨⟨_,rfl,by rfl⟩,rfl,trivial⟩⟩,trivial,rfl,rfl,rfl⟩
  ·omega
  omega
 refine zf1 ?_
 all_goals (have e:i=s.size:=(by omega);subst e;rfl)
theorem a78 (s:ByteArray) (hs:s.size≤9223372036854775807):Ctr Tryz.prog 180 [.v (.string s)] (.one (.v (.int .i64 (a5g s s.size)))):=by
 refine Ctr.of (n:=21) G Tryz.func180 rfl b3 rfl rfl rfl (fun w0=>?_)
 refine zgo ?_
 refine i7 [0] [] (fun (i:Nat)=>[(3,.v (.int .i64 (a5g s i))),(4,.v (.int .i64 (i:Int)))]) (fun (i:Nat)=>[]) (fun (i:Nat)=>i≤s.size) (fun (i:Nat)=>s.size - i) 0 rfl rfl ?_ ?_ ?_ ?_
 ·exact Nat.zero_le _
 ·exact ⟨⟨_,rfl,by rfl⟩,rfl,⟨⟨_,rfl,by rfl⟩,rfl,trivial⟩⟩
 ·exact trivial
 intro i hinv
 have hi:i≤s.size:=hinv
 have hsl:=a5h s i
 have hbb:=a3g s i
 have hbi:r4 s i=((s.data.toList.getD ((i:Int)).toNat 0).toNat:Int):=rfl
 simp only [List.cons_append,List.nil_append]
 refine a32 ?_
 refine zcd (fun h1=>?_) (fun h1=>?_)
 ·refine c39 ?_
  refine ⟨(i+1),?_,?_,⟨⟨_,rfl,by rfl⟩,rfl,⟨⟨_,rfl,by rfl⟩,rfl,trivial⟩⟩,trivial,rfl,rfl,rfl⟩
  ·omega
  omega
 refine zf1 ?_
 all_goals (have e:i=s.size:=(by omega);subst e;rfl)
theorem a2c (n:Int) (h0:-9223372036854775807≤n) (h1:n≤9223372036854775807) (ih:∀ k:Int,0≤k→(n < 0∨k < n)→k≤9223372036854775807→Ctr Tryz.prog 101 [.v (.int .i64 k)] (.one (.v (.string (t7 k))))):Ctr Tryz.prog 101 [.v (.int .i64 n)] (.one (.v (.string (t7 n)))):=by
 refine Ctr.of (n:=25) G Tryz.func101 rfl (by kernel_rfl) rfl rfl rfl (fun w0=>?_)
 refine f9 (fun K1 hK1=>?_)
 refine d4 ?_
 refine a8 rfl ?_
 refine b6 rfl rfl (d6 rfl rfl) ?_
 refine b4 ?_
 refine hK1 _ ?_
 clear hK1 K1
 refine f9 (fun K2 hK2=>?_)
 refine f9 (fun K3 hK3=>?_)
 refine d4 ?_
 refine a8 rfl ?_
 refine b6 rfl rfl (e6 rfl rfl) ?_
 refine a8 rfl ?_
 refine b6 rfl rfl (I9 rfl rfl rfl rfl) ?_
 refine b4 ?_
 refine hK3 _ ?_
 clear hK3 K3
 refine r7 rfl (fun h1=>?_) (fun h1=>?_)
 ·try rw [h1]
  try simp only [rfb] at h1
  refine f9 (fun K4 hK4=>?_)
  refine d4 ?_
  refine a8 rfl ?_
  refine b6 rfl rfl (e6 rfl rfl) ?_
  refine a8 rfl ?_
  refine b6 rfl rfl (c0f rfl rfl (by omega) (by omega)) ?_
  refine a8 rfl ?_
  refine b6 rfl rfl (f6 rfl (ArgsOK.of rfl) (ih _ (by omega) (by omega) (by omega)) rfl) ?_
  refine a8 rfl ?_
  refine b6 rfl rfl (J8 rfl rfl rfl (by first | (have hz:=z8 (n:=-n) (by omega) (by omega);rw [t8];simp only [List.size_toArray,List.length_cons,List.length_nil];omega) | (have hz:=z8 (n:=(k:Int) / 10) (by omega) (by omega);rw [ByteArray.size_extract];simp only [t8,List.size_toArray,List.length_cons,List.length_nil];omega))) ?_
  refine a8 rfl ?_
  refine b6 rfl rfl (d6 rfl rfl) ?_
  refine b4 ?_
  refine hK4 _ ?_
  clear hK4 K4
  refine c6 ?_
  refine H1 rfl ?_
  refine c1 ?_
  all_goals clear hK2 K2
  all_goals (first | (rw [a5f h1];done) | (have e:((k:Int)+1).toNat=k+1:=(by omega);rw [e];exact congrArg Value.string ((a1U (by omega)).trans (a2r (by omega)).symm)) | (have e:((k:Int) % 10).toNat=k % 10:=(by omega);have e2:((k:Int) % 10+1).toNat=k % 10+1:=(by omega);rw [e,e2,a1U (by omega),a3L (by omega)];rfl))
 ·try rw [h1]
  try simp only [rfb] at h1
  refine y9 ?_
  refine hK2 _ ?_
  clear hK2 K2
  refine f9 (fun K5 hK5=>?_)
  refine f9 (fun K6 hK6=>?_)
  refine d4 ?_
  refine a8 rfl ?_
  refine b6 rfl rfl (e6 rfl rfl) ?_
  refine a8 rfl ?_
  refine b6 rfl rfl (I9 rfl rfl rfl rfl) ?_
  refine b4 ?_
  refine hK6 _ ?_
  clear hK6 K6
  refine r7 rfl (fun h2=>?_) (fun h2=>?_)
  ·try rw [h2]
   try simp only [rfb] at h2
   obtain ⟨k,rfl⟩:∃ k:Nat,n=(k:Int):=⟨n.toNat,by omega⟩
   refine f9 (fun K7 hK7=>?_)
   refine d4 ?_
   refine a8 rfl ?_
   refine b6 rfl rfl (e6 rfl rfl) ?_
   refine a8 rfl ?_
   refine b6 rfl rfl (e6 rfl rfl) ?_
   refine a8 rfl ?_
   first | refine b6 rfl rfl (x8 rfl rfl rfl rfl (by omega) (by omega)) ?_ | refine b6 rfl rfl (C5 rfl rfl rfl rfl) ?_
   refine a8 rfl ?_
   refine b6 rfl rfl (N7 G rfl rfl rfl rfl rfl (by omega) (by omega) (by rw [t8];simp only [List.size_toArray,List.length_cons,List.length_nil];omega)) ?_
   refine a8 rfl ?_
   refine b6 rfl rfl (d6 rfl rfl) ?_
   refine b4 ?_
   refine hK7 _ ?_
   clear hK7 K7
   refine c6 ?_
   refine H1 rfl ?_
   refine c1 ?_
   all_goals clear hK5 K5
   all_goals (first | (rw [a5f h1];done) | (have e:((k:Int)+1).toNat=k+1:=(by omega);rw [e];exact congrArg Value.string ((a1U (by omega)).trans (a2r (by omega)).symm)) | (have e:((k:Int) % 10).toNat=k % 10:=(by omega);have e2:((k:Int) % 10+1).toNat=k % 10+1:=(by omega);rw [e,e2,a1U (by omega),a3L (by omega)];rfl))
  ·try rw [h2]
   try simp only [rfb] at h2
   obtain ⟨k,rfl⟩:∃ k:Nat,n=(k:Int):=⟨n.toNat,by omega⟩
   refine y9 ?_
   refine hK5 _ ?_
   clear hK5 K5
   refine f9 (fun K8 hK8=>?_)
   refine a4Y mixed (by kernel_rfl) ?_
   refine m4 rfl ?_
   refine u9 rfl rfl (e6 rfl rfl) ?_
   refine m4 rfl ?_
   first | refine u9 rfl rfl (b5z rfl rfl rfl (by omega) (by omega) (by omega)) ?_ | refine u9 rfl rfl (c0e rfl rfl rfl (by omega)) ?_
   refine m4 rfl ?_
   refine u9 rfl rfl (f6 rfl (ArgsOK.of rfl) (ih _ (by omega) (by omega) (by omega)) rfl) ?_
   refine m4 rfl ?_
   refine u9 rfl rfl (e6 rfl rfl) ?_
   refine m4 rfl ?_
   first | refine u9 rfl rfl (a6y rfl rfl rfl (by omega) (by omega)) ?_ | refine u9 rfl rfl (b4j rfl rfl rfl (by omega)) ?_
   refine m4 rfl ?_
   refine u9 rfl rfl (e6 rfl rfl) ?_
   refine m4 rfl ?_
   first | refine u9 rfl rfl (a6y rfl rfl rfl (by omega) (by omega)) ?_ | refine u9 rfl rfl (b4j rfl rfl rfl (by omega)) ?_
   refine m4 rfl ?_
   first | refine u9 rfl rfl (x8 rfl rfl rfl rfl (by omega) (by omega)) ?_ | refine u9 rfl rfl (C5 rfl rfl rfl rfl) ?_
   refine m4 rfl ?_
   refine u9 rfl rfl (N7 G rfl rfl rfl rfl rfl (by omega) (by omega) (by rw [t8];simp only [List.size_toArray,List.length_cons,List.length_nil];omega)) ?_
   refine m4 rfl ?_
   refine u9 rfl rfl (J8 rfl rfl rfl (by first | (have hz:=z8 (n:=-n) (by omega) (by omega);rw [t8];simp only [List.size_toArray,List.length_cons,List.length_nil];omega) | (have hz:=z8 (n:=(k:Int) / 10) (by omega) (by omega);rw [ByteArray.size_extract];simp only [t8,List.size_toArray,List.length_cons,List.length_nil];omega))) ?_
   refine m4 rfl ?_
   refine u9 rfl rfl (d6 rfl rfl) ?_
   refine a8v ?_
   refine hK8 _ ?_
   clear hK8 K8
   refine c6 ?_
   refine H1 rfl ?_
   refine c1 ?_
   all_goals (first | (rw [a5f h1];done) | (have e:((k:Int)+1).toNat=k+1:=(by omega);rw [e];exact congrArg Value.string ((a1U (by omega)).trans (a2r (by omega)).symm)) | (have e:((k:Int) % 10).toNat=k % 10:=(by omega);have e2:((k:Int) % 10+1).toNat=k % 10+1:=(by omega);rw [e,e2,a1U (by omega),a3L (by omega)];rfl))
theorem b07:∀ (m:Nat) (n:Int),n.toNat=m→0≤n→n≤9223372036854775807→Ctr Tryz.prog 101 [.v (.int .i64 n)] (.one (.v (.string (t7 n)))):=by
 intro m
 induction m using Nat.strongRecOn with
 | ind m ih =>
  intro n hm h0 h1
  exact a2c n (by omega) h1 (fun k hk hlt hk1=>ih k.toNat (by omega) k rfl hk hk1)
theorem y7 (n:Int) (h0:-9223372036854775807≤n) (h1:n≤9223372036854775807):Ctr Tryz.prog 101 [.v (.int .i64 n)] (.one (.v (.string (t7 n)))):=by
 by_cases h:0≤n
 ·exact b07 _ n rfl h h1
 exact a2c n h0 h1 (fun k hk _ hk1=>b07 _ k rfl hk hk1)
end Go.Proofs.YtpfhomblkgmkkaaGreatDoor
set_option maxRecDepth 20000
namespace Go.Proofs.YtpfhomblkgmkkaaGreatDoor
open Go Go.Rf
theorem b0d (s:ByteArray) (hs:s.size≤9223372036854775807):Ctr Tryz.prog 96 [.v (.string s)] (.many [.v (.int .i64 (nmN s)),.v (.bool (nmK s))]):=by
 have hb0:r4 s 0=((s.data.toList.getD ((0:Int)).toNat 0).toNat:Int):=rfl
 refine Ctr.of (n:=58) G Tryz.func96 rfl (by kernel_rfl) rfl rfl rfl (fun w0=>?_)
 refine f9 (fun K1 hK1=>?_)
 refine d4 ?_
 refine a8 rfl ?_
 refine b6 rfl rfl (d6 rfl rfl) ?_
 refine a8 rfl ?_
 refine b6 rfl rfl (d6 rfl rfl) ?_
 refine b4 ?_
 refine hK1 _ ?_
 clear hK1 K1
 refine f9 (fun K2 hK2=>?_)
 refine d4 ?_
 refine a8 rfl ?_
 refine b6 rfl rfl (e6 rfl rfl) ?_
 refine a8 rfl ?_
 refine b6 rfl rfl (d6 rfl rfl) ?_
 refine b4 ?_
 refine hK2 _ ?_
 clear hK2 K2
 refine b9d (nt:=58) (fun (a:ByteArray)=>[(4,.v (.string a)),(0,.v (.string s))]) (fun (a:ByteArray)=>[]) (fun a=>a=l8 s) 30 [0,4] [] ?_ (fun a ha=>?_)
 ·skip
  refine f9 (fun K4 hK4=>?_)
  refine d4 (a8 rfl (b6 rfl rfl (e6 rfl rfl) (a8 rfl (b6 rfl rfl (j9 G rfl rfl rfl) (a8 rfl (b6 rfl rfl (I9 rfl rfl rfl rfl) (a8 rfl (b6 rfl rfl (e6 rfl rfl) (D4 rfl rfl rfl (fun h1=>?_) (fun h1=>?_))))))))))
  ·try rw [h1]
   try simp only [rfb] at h1
   refine u6 rfl rfl rfl ?_
   refine b6 rfl rfl (e6 rfl rfl) ?_
   refine u6 rfl rfl rfl ?_
   refine b6 rfl rfl (S3 G rfl rfl rfl rfl (by omega) (by omega)) ?_
   refine u6 rfl rfl rfl ?_
   refine b6 rfl rfl (I9 rfl rfl rfl rfl) ?_
   refine a8 rfl ?_
   refine b6 rfl rfl (C9 rfl rfl rfl) ?_
   refine b4 ?_
   refine hK4 _ ?_
   clear hK4 K4
   refine r7 rfl (fun h2=>?_) (fun h2=>?_)
   ·try rw [h2]
    try simp only [rfb] at h2
    refine d4 ?_
    refine a8 rfl ?_
    refine b6 rfl rfl (e6 rfl rfl) ?_
    refine a8 rfl ?_
    refine b6 rfl rfl (N7 G rfl rfl rfl rfl rfl (by omega) (by omega) (by omega)) ?_
    refine a8 rfl ?_
    refine b6 rfl rfl (d6 rfl rfl) ?_
    exact b4 ⟨(s.extract ((1:Int)).toNat ((s.size:Int)).toNat),c3g (by omega) (by first | assumption | omega),rfl,rfl,rfl,rfl⟩
   ·try rw [h2]
    try simp only [rfb] at h2
    exact y9 ⟨s,c0m (by omega),rfl,rfl,rfl,rfl⟩
  ·try rw [h1]
   try simp only [rfb] at h1
   refine m7 rfl rfl rfl rfl rfl rfl ?_
   refine m7 rfl rfl rfl rfl rfl rfl ?_
   refine m7 rfl rfl rfl rfl rfl rfl ?_
   refine a8 rfl ?_
   refine b6 rfl rfl (F8 rfl rfl rfl) ?_
   refine b4 ?_
   refine hK4 _ ?_
   clear hK4 K4
   refine a8f rfl ?_
   exact y9 ⟨s,c0m (by omega),rfl,rfl,rfl,rfl⟩
 ·skip
  subst ha
  have hbl:=c1p (s:=s)
  refine f9 (fun K5 hK5=>?_)
  refine f9 (fun K6 hK6=>?_)
  refine d4 ?_
  refine a8 rfl ?_
  refine b6 rfl rfl (e6 rfl rfl) ?_
  refine a8 rfl ?_
  refine b6 rfl rfl (j9 G rfl rfl rfl) ?_
  refine a8 rfl ?_
  refine b6 rfl rfl (f6 rfl (ArgsOK.of rfl) (a0s _ _ _) rfl) ?_
  refine a8 rfl ?_
  refine b6 rfl rfl (a2K rfl rfl) ?_
  refine b4 ?_
  refine hK6 _ ?_
  clear hK6 K6
  refine r7 rfl (fun h3=>?_) (fun h3=>?_)
  ·try rw [h3]
   try simp only [rfb] at h3
   refine f9 (fun K7 hK7=>?_)
   refine d4 ?_
   refine a8 rfl ?_
   refine b6 rfl rfl (d6 rfl rfl) ?_
   refine a8 rfl ?_
   refine b6 rfl rfl (d6 rfl rfl) ?_
   refine b4 ?_
   refine hK7 _ ?_
   clear hK7 K7
   refine c6 (g8 rfl rfl rfl rfl (a7 (c1 ?_) (a7 (c1 ?_) b9)))
   all_goals clear hK5 K5
   all_goals (first | (rw [(a5p (s:=s) h3).1];done) | (rw [(a5p (s:=s) h3).2];done) | (rw [(a5q (s:=s) (i:=i) (by omega) (by simp only [W8,Bool.and_eq_false_iff,decide_eq_false_iff_not];omega)).1];done) | (rw [(a5q (s:=s) (i:=i) (by omega) (by simp only [W8,Bool.and_eq_false_iff,decide_eq_false_iff_not];omega)).2];done) | (rw [(X1 (s:=s) (n:=-dV (l8 s) i) (by have e:i=(l8 s).size:=(by omega);rw [W9 (by omega),e]) (by assumption)).1];done) | (rw [(X1 (s:=s) (n:=-dV (l8 s) i) (by have e:i=(l8 s).size:=(by omega);rw [W9 (by omega),e]) (by assumption)).2];done) | (rw [(X1 (s:=s) (n:=dV (l8 s) i) (by have e:i=(l8 s).size:=(by omega);rw [X0 (by omega),e]) (by assumption)).1];done) | (rw [(X1 (s:=s) (n:=dV (l8 s) i) (by have e:i=(l8 s).size:=(by omega);rw [X0 (by omega),e]) (by assumption)).2];done) | (rw [(X2 (s:=s) (n:=-dV (l8 s) i) (i:=i) h3 (by omega) hinv.2 (by have e:i=(l8 s).size:=(by omega);rw [W9 (by omega),e]) (by assumption)).1];done) | (rw [(X2 (s:=s) (n:=-dV (l8 s) i) (i:=i) h3 (by omega) hinv.2 (by have e:i=(l8 s).size:=(by omega);rw [W9 (by omega),e]) (by assumption)).2];done) | (rw [(X2 (s:=s) (n:=dV (l8 s) i) (i:=i) h3 (by omega) hinv.2 (by have e:i=(l8 s).size:=(by omega);rw [X0 (by omega),e]) (by assumption)).1];done) | (rw [(X2 (s:=s) (n:=dV (l8 s) i) (i:=i) h3 (by omega) hinv.2 (by have e:i=(l8 s).size:=(by omega);rw [X0 (by omega),e]) (by assumption)).2];done))
  ·try rw [h3]
   try simp only [rfb] at h3
   have hin:=p7.mp h3
   refine y9 ?_
   refine hK5 _ ?_
   clear hK5 K5
   refine f9 (fun K8 hK8=>?_)
   refine d4 ?_
   refine a8 rfl ?_
   refine b6 rfl rfl (d6 rfl rfl) ?_
   refine b4 ?_
   refine hK8 _ ?_
   clear hK8 K8
   refine f9 (fun K9 hK9=>?_)
   refine f9 (fun K10 hK10=>?_)
   refine d4 ?_
   refine a8 rfl ?_
   refine b6 rfl rfl (d6 rfl rfl) ?_
   refine b4 ?_
   refine hK10 _ ?_
   clear hK10 K10
   refine w7 ?_
   refine i7 [0,4] [] (fun (i:Nat)=>[(5,.v (.int .i64 (dV (l8 s) i))),(6,.v (.int .i64 (i:Int)))]) (fun (i:Nat)=>[]) (fun (i:Nat)=>i≤(l8 s).size∧∀ j,j < i→W8 (l8 s) j=true) (fun (i:Nat)=>(l8 s).size - i) 0 rfl rfl ?_ ?_ ?_ ?_
   ·exact ⟨Nat.zero_le _,fun j hj=>by omega⟩
   ·exact ⟨⟨_,rfl,by rfl⟩,rfl,⟨⟨_,rfl,by rfl⟩,rfl,trivial⟩⟩
   ·exact trivial
   ·intro i hinv
    have hi:i≤(l8 s).size:=hinv.1
    have hdl:=c0j hinv.2
    have hbi:r4 (l8 s) i=(((l8 s).data.toList.getD ((i:Int)).toNat 0).toNat:Int):=rfl
    simp only [List.cons_append,List.nil_append]
    refine f9 (fun K11 hK11=>?_)
    refine f9 (fun K12 hK12=>?_)
    refine d4 ?_
    refine a8 rfl ?_
    refine b6 rfl rfl (e6 rfl rfl) ?_
    refine a8 rfl ?_
    refine b6 rfl rfl (e6 rfl rfl) ?_
    refine a8 rfl ?_
    refine b6 rfl rfl (j9 G rfl rfl rfl) ?_
    refine a8 rfl ?_
    refine b6 rfl rfl (I9 rfl rfl rfl rfl) ?_
    refine b4 ?_
    refine hK12 _ ?_
    clear hK12 K12
    refine r7 rfl (fun h4=>?_) (fun h4=>?_)
    ·try rw [h4]
     try simp only [rfb] at h4
     refine y9 ?_
     refine hK11 _ ?_
     clear hK11 K11
     refine f9 (fun K13 hK13=>?_)
     refine w7 ?_
     refine f9 (fun K14 hK14=>?_)
     refine f9 (fun K15 hK15=>?_)
     refine d4 ?_
     refine a8 rfl ?_
     refine b6 rfl rfl (e6 rfl rfl) ?_
     refine a8 rfl ?_
     refine b6 rfl rfl (e6 rfl rfl) ?_
     refine a8 rfl ?_
     refine b6 rfl rfl (S3 G rfl rfl rfl rfl (by omega) (by omega)) ?_
     refine a8 rfl (b6 rfl rfl (I9 rfl rfl rfl rfl) (a8 rfl (b6 rfl rfl (e6 rfl rfl) (D4 rfl rfl rfl (fun h5=>?_) (fun h5=>?_)))))
     ·try rw [h5]
      try simp only [rfb] at h5
      refine m7 rfl rfl rfl rfl rfl rfl ?_
      refine m7 rfl rfl rfl rfl rfl rfl ?_
      refine m7 rfl rfl rfl rfl rfl rfl ?_
      refine m7 rfl rfl rfl rfl rfl rfl ?_
      refine a8 rfl ?_
      refine b6 rfl rfl (C9 rfl rfl rfl) ?_
      refine b4 ?_
      refine hK15 _ ?_
      clear hK15 K15
      refine J6 rfl ?_
      refine f9 (fun K16 hK16=>?_)
      refine d4 ?_
      refine a8 rfl ?_
      refine b6 rfl rfl (d6 rfl rfl) ?_
      refine a8 rfl ?_
      refine b6 rfl rfl (d6 rfl rfl) ?_
      refine b4 ?_
      refine hK16 _ ?_
      clear hK16 K16
      refine c6 (g8 rfl rfl rfl rfl (a7 (c1 ?_) (a7 (c1 ?_) b9)))
      all_goals clear hK14 K14 hK13 K13 hK9 K9
      all_goals (first | (rw [(a5p (s:=s) h3).1];done) | (rw [(a5p (s:=s) h3).2];done) | (rw [(a5q (s:=s) (i:=i) (by omega) (by simp only [W8,Bool.and_eq_false_iff,decide_eq_false_iff_not];omega)).1];done) | (rw [(a5q (s:=s) (i:=i) (by omega) (by simp only [W8,Bool.and_eq_false_iff,decide_eq_false_iff_not];omega)).2];done) | (rw [(X1 (s:=s) (n:=-dV (l8 s) i) (by have e:i=(l8 s).size:=(by omega);rw [W9 (by omega),e]) (by assumption)).1];done) | (rw [(X1 (s:=s) (n:=-dV (l8 s) i) (by have e:i=(l8 s).size:=(by omega);rw [W9 (by omega),e]) (by assumption)).2];done) | (rw [(X1 (s:=s) (n:=dV (l8 s) i) (by have e:i=(l8 s).size:=(by omega);rw [X0 (by omega),e]) (by assumption)).1];done) | (rw [(X1 (s:=s) (n:=dV (l8 s) i) (by have e:i=(l8 s).size:=(by omega);rw [X0 (by omega),e]) (by assumption)).2];done) | (rw [(X2 (s:=s) (n:=-dV (l8 s) i) (i:=i) h3 (by omega) hinv.2 (by have e:i=(l8 s).size:=(by omega);rw [W9 (by omega),e]) (by assumption)).1];done) | (rw [(X2 (s:=s) (n:=-dV (l8 s) i) (i:=i) h3 (by omega) hinv.2 (by have e:i=(l8 s).size:=(by omega);rw [W9 (by omega),e]) (by assumption)).2];done) | (rw [(X2 (s:=s) (n:=dV (l8 s) i) (i:=i) h3 (by omega) hinv.2 (by have e:i=(l8 s).size:=(by omega);rw [X0 (by omega),e]) (by assumption)).1];done) | (rw [(X2 (s:=s) (n:=dV (l8 s) i) (i:=i) h3 (by omega) hinv.2 (by have e:i=(l8 s).size:=(by omega);rw [X0 (by omega),e]) (by assumption)).2];done))
     ·try rw [h5]
      try simp only [rfb] at h5
      refine u6 rfl rfl rfl ?_
      refine b6 rfl rfl (e6 rfl rfl) ?_
      refine u6 rfl rfl rfl ?_
      refine b6 rfl rfl (e6 rfl rfl) ?_
      refine u6 rfl rfl rfl ?_
      refine b6 rfl rfl (S3 G rfl rfl rfl rfl (by omega) (by omega)) ?_
      refine u6 rfl rfl rfl ?_
      refine b6 rfl rfl (I9 rfl rfl rfl rfl) ?_
      refine a8 rfl ?_
      refine b6 rfl rfl (F8 rfl rfl rfl) ?_
      refine b4 ?_
      refine hK15 _ ?_
      clear hK15 K15
      refine r7 rfl (fun h6=>?_) (fun h6=>?_)
      ·try rw [h6]
       try simp only [rfb] at h6
       refine f9 (fun K17 hK17=>?_)
       refine d4 ?_
       refine a8 rfl ?_
       refine b6 rfl rfl (d6 rfl rfl) ?_
       refine a8 rfl ?_
       refine b6 rfl rfl (d6 rfl rfl) ?_
       refine b4 ?_
       refine hK17 _ ?_
       clear hK17 K17
       refine c6 (g8 rfl rfl rfl rfl (a7 (c1 ?_) (a7 (c1 ?_) b9)))
       all_goals clear hK14 K14 hK13 K13 hK9 K9
       all_goals (first | (rw [(a5p (s:=s) h3).1];done) | (rw [(a5p (s:=s) h3).2];done) | (rw [(a5q (s:=s) (i:=i) (by omega) (by simp only [W8,Bool.and_eq_false_iff,decide_eq_false_iff_not];omega)).1];done) | (rw [(a5q (s:=s) (i:=i) (by omega) (by simp only [W8,Bool.and_eq_false_iff,decide_eq_false_iff_not];omega)).2];done) | (rw [(X1 (s:=s) (n:=-dV (l8 s) i) (by have e:i=(l8 s).size:=(by omega);rw [W9 (by omega),e]) (by assumption)).1];done) | (rw [(X1 (s:=s) (n:=-dV (l8 s) i) (by have e:i=(l8 s).size:=(by omega);rw [W9 (by omega),e]) (by assumption)).2];done) | (rw [(X1 (s:=s) (n:=dV (l8 s) i) (by have e:i=(l8 s).size:=(by omega);rw [X0 (by omega),e]) (by assumption)).1];done) | (rw [(X1 (s:=s) (n:=dV (l8 s) i) (by have e:i=(l8 s).size:=(by omega);rw [X0 (by omega),e]) (by assumption)).2];done) | (rw [(X2 (s:=s) (n:=-dV (l8 s) i) (i:=i) h3 (by omega) hinv.2 (by have e:i=(l8 s).size:=(by omega);rw [W9 (by omega),e]) (by assumption)).1];done) | (rw [(X2 (s:=s) (n:=-dV (l8 s) i) (i:=i) h3 (by omega) hinv.2 (by have e:i=(l8 s).size:=(by omega);rw [W9 (by omega),e]) (by assumption)).2];done) | (rw [(X2 (s:=s) (n:=dV (l8 s) i) (i:=i) h3 (by omega) hinv.2 (by have e:i=(l8 s).size:=(by omega);rw [X0 (by omega),e]) (by assumption)).1];done) | (rw [(X2 (s:=s) (n:=dV (l8 s) i) (i:=i) h3 (by omega) hinv.2 (by have e:i=(l8 s).size:=(by omega);rw [X0 (by omega),e]) (by assumption)).2];done))
      ·try rw [h6]
       try simp only [rfb] at h6
       refine y9 ?_
       refine hK14 _ ?_
       clear hK14 K14
       refine d4 ?_
       refine a8 rfl ?_
       refine b6 rfl rfl (e6 rfl rfl) ?_
       refine a8 rfl ?_
       first | refine b6 rfl rfl (x8 rfl rfl rfl rfl (by omega) (by omega)) ?_ | refine b6 rfl rfl (C5 rfl rfl rfl rfl) ?_
       refine a8 rfl ?_
       refine b6 rfl rfl (e6 rfl rfl) ?_
       refine a8 rfl ?_
       refine b6 rfl rfl (e6 rfl rfl) ?_
       refine a8 rfl ?_
       refine b6 rfl rfl (S3 G rfl rfl rfl rfl (by omega) (by omega)) ?_
       refine a8 rfl ?_
       first | refine b6 rfl rfl (x8 rfl rfl rfl rfl (by omega) (by omega)) ?_ | refine b6 rfl rfl (C5 rfl rfl rfl rfl) ?_
       refine a8 rfl ?_
       first | refine b6 rfl rfl (b0t G rfl rfl rfl rfl (by omega) (by omega)) ?_ | refine b6 rfl rfl (a8A G rfl rfl rfl rfl) ?_
       refine a8 rfl ?_
       first | refine b6 rfl rfl (x8 rfl rfl rfl rfl (by omega) (by omega)) ?_ | refine b6 rfl rfl (C5 rfl rfl rfl rfl) ?_
       refine a8 rfl ?_
       refine b6 rfl rfl (d6 rfl rfl) ?_
       refine b4 ?_
       refine hK13 _ ?_
       clear hK13 K13
       refine d4 ?_
       refine a8 rfl ?_
       refine b6 rfl rfl (e6 rfl rfl) ?_
       refine a8 rfl ?_
       first | refine b6 rfl rfl (x8 rfl rfl rfl rfl (by omega) (by omega)) ?_ | refine b6 rfl rfl (C5 rfl rfl rfl rfl) ?_
       refine a8 rfl ?_
       refine b6 rfl rfl (d6 rfl rfl) ?_
       refine b4 ⟨(i+1),?_,?_,⟨⟨_,rfl,by (first | rfl | exact congrArg (fun v=>AV.v (.int .i64 v)) (b4u (t:=l8 s) (i:=i) (by omega) (by omega) (by omega) (by omega)))⟩,rfl,⟨⟨_,rfl,by (first | rfl | exact congrArg (fun v=>AV.v (.int .i64 v)) (b4u (t:=l8 s) (i:=i) (by omega) (by omega) (by omega) (by omega)))⟩,rfl,trivial⟩⟩,trivial,rfl,rfl,rfl⟩
       ·exact ⟨by omega,i8 hinv.2 (by simp only [W8,Bool.and_eq_true,decide_eq_true_eq];omega)⟩
       ·omega
    ·try rw [h4]
     try simp only [rfb] at h4
     refine Y0 ?_
     refine hK9 _ ?_
     clear hK11 K11 hK9 K9
     refine f9 (fun K18 hK18=>?_)
     refine f9 (fun K19 hK19=>?_)
     refine d4 ?_
     refine a8 rfl ?_
     refine b6 rfl rfl (e6 rfl rfl) ?_
     refine a8 rfl ?_
     refine b6 rfl rfl (j9 G rfl rfl rfl) ?_
     refine a8 rfl ?_
     refine b6 rfl rfl (e6 rfl rfl) ?_
     refine a8 rfl ?_
     refine b6 rfl rfl (j9 G rfl rfl rfl) ?_
     refine a8 rfl ?_
     refine b6 rfl rfl (I9 rfl rfl rfl rfl) ?_
     refine b4 ?_
     refine hK19 _ ?_
     clear hK19 K19
     refine r7 rfl (fun h7=>?_) (fun h7=>?_)
     ·try rw [h7]
      try simp only [rfb] at h7
      refine d4 ?_
      refine a8 rfl ?_
      refine b6 rfl rfl (e6 rfl rfl) ?_
      refine a8 rfl ?_
      refine b6 rfl rfl (c0f rfl rfl (by omega) (by omega)) ?_
      refine a8 rfl ?_
      refine b6 rfl rfl (d6 rfl rfl) ?_
      refine b4 ?_
      refine hK18 _ ?_
      clear hK18 K18
      refine f9 (fun K20 hK20=>?_)
      refine f9 (fun K21 hK21=>?_)
      refine d4 ?_
      refine a8 rfl ?_
      refine b6 rfl rfl (e6 rfl rfl) ?_
      refine a8 rfl ?_
      refine b6 rfl rfl (f6 rfl (ArgsOK.of rfl) (y7 _ (by omega) (by omega)) rfl) ?_
      refine a8 rfl ?_
      refine b6 rfl rfl (e6 rfl rfl) ?_
      refine a8 rfl ?_
      refine b6 rfl rfl (z7 rfl rfl rfl rfl) ?_
      refine b4 ?_
      refine hK21 _ ?_
      clear hK21 K21
      refine r7 rfl (fun h8=>?_) (fun h8=>?_)
      ·try rw [h8]
       try simp only [rfb] at h8
       refine f9 (fun K22 hK22=>?_)
       refine d4 ?_
       refine a8 rfl ?_
       refine b6 rfl rfl (d6 rfl rfl) ?_
       refine a8 rfl ?_
       refine b6 rfl rfl (d6 rfl rfl) ?_
       refine b4 ?_
       refine hK22 _ ?_
       clear hK22 K22
       refine c6 (g8 rfl rfl rfl rfl (a7 (c1 ?_) (a7 (c1 ?_) b9)))
       all_goals clear hK20 K20
       all_goals (first | (rw [(a5p (s:=s) h3).1];done) | (rw [(a5p (s:=s) h3).2];done) | (rw [(a5q (s:=s) (i:=i) (by omega) (by simp only [W8,Bool.and_eq_false_iff,decide_eq_false_iff_not];omega)).1];done) | (rw [(a5q (s:=s) (i:=i) (by omega) (by simp only [W8,Bool.and_eq_false_iff,decide_eq_false_iff_not];omega)).2];done) | (rw [(X1 (s:=s) (n:=-dV (l8 s) i) (by have e:i=(l8 s).size:=(by omega);rw [W9 (by omega),e]) (by assumption)).1];done) | (rw [(X1 (s:=s) (n:=-dV (l8 s) i) (by have e:i=(l8 s).size:=(by omega);rw [W9 (by omega),e]) (by assumption)).2];done) | (rw [(X1 (s:=s) (n:=dV (l8 s) i) (by have e:i=(l8 s).size:=(by omega);rw [X0 (by omega),e]) (by assumption)).1];done) | (rw [(X1 (s:=s) (n:=dV (l8 s) i) (by have e:i=(l8 s).size:=(by omega);rw [X0 (by omega),e]) (by assumption)).2];done) | (rw [(X2 (s:=s) (n:=-dV (l8 s) i) (i:=i) h3 (by omega) hinv.2 (by have e:i=(l8 s).size:=(by omega);rw [W9 (by omega),e]) (by assumption)).1];done) | (rw [(X2 (s:=s) (n:=-dV (l8 s) i) (i:=i) h3 (by omega) hinv.2 (by have e:i=(l8 s).size:=(by omega);rw [W9 (by omega),e]) (by assumption)).2];done) | (rw [(X2 (s:=s) (n:=dV (l8 s) i) (i:=i) h3 (by omega) hinv.2 (by have e:i=(l8 s).size:=(by omega);rw [X0 (by omega),e]) (by assumption)).1];done) | (rw [(X2 (s:=s) (n:=dV (l8 s) i) (i:=i) h3 (by omega) hinv.2 (by have e:i=(l8 s).size:=(by omega);rw [X0 (by omega),e]) (by assumption)).2];done))
      ·try rw [h8]
       try simp only [rfb] at h8
       refine y9 ?_
       refine hK20 _ ?_
       clear hK20 K20
       refine f9 (fun K23 hK23=>?_)
       refine d4 ?_
       refine a8 rfl ?_
       refine b6 rfl rfl (e6 rfl rfl) ?_
       refine a8 rfl ?_
       refine b6 rfl rfl (d6 rfl rfl) ?_
       refine a8 rfl ?_
       refine b6 rfl rfl (d6 rfl rfl) ?_
       refine b4 ?_
       refine hK23 _ ?_
       clear hK23 K23
       refine c6 (g8 rfl rfl rfl rfl (a7 (c1 ?_) (a7 (c1 ?_) b9)))
       all_goals (first | (rw [(a5p (s:=s) h3).1];done) | (rw [(a5p (s:=s) h3).2];done) | (rw [(a5q (s:=s) (i:=i) (by omega) (by simp only [W8,Bool.and_eq_false_iff,decide_eq_false_iff_not];omega)).1];done) | (rw [(a5q (s:=s) (i:=i) (by omega) (by simp only [W8,Bool.and_eq_false_iff,decide_eq_false_iff_not];omega)).2];done) | (rw [(X1 (s:=s) (n:=-dV (l8 s) i) (by have e:i=(l8 s).size:=(by omega);rw [W9 (by omega),e]) (by assumption)).1];done) | (rw [(X1 (s:=s) (n:=-dV (l8 s) i) (by have e:i=(l8 s).size:=(by omega);rw [W9 (by omega),e]) (by assumption)).2];done) | (rw [(X1 (s:=s) (n:=dV (l8 s) i) (by have e:i=(l8 s).size:=(by omega);rw [X0 (by omega),e]) (by assumption)).1];done) | (rw [(X1 (s:=s) (n:=dV (l8 s) i) (by have e:i=(l8 s).size:=(by omega);rw [X0 (by omega),e]) (by assumption)).2];done) | (rw [(X2 (s:=s) (n:=-dV (l8 s) i) (i:=i) h3 (by omega) hinv.2 (by have e:i=(l8 s).size:=(by omega);rw [W9 (by omega),e]) (by assumption)).1];done) | (rw [(X2 (s:=s) (n:=-dV (l8 s) i) (i:=i) h3 (by omega) hinv.2 (by have e:i=(l8 s).size:=(by omega);rw [W9 (by omega),e]) (by assumption)).2];done) | (rw [(X2 (s:=s) (n:=dV (l8 s) i) (i:=i) h3 (by omega) hinv.2 (by have e:i=(l8 s).size:=(by omega);rw [X0 (by omega),e]) (by assumption)).1];done) | (rw [(X2 (s:=s) (n:=dV (l8 s) i) (i:=i) h3 (by omega) hinv.2 (by have e:i=(l8 s).size:=(by omega);rw [X0 (by omega),e]) (by assumption)).2];done))
     ·try rw [h7]
      try simp only [rfb] at h7
      refine y9 ?_
      refine hK18 _ ?_
      clear hK18 K18
      refine f9 (fun K24 hK24=>?_)
      refine f9 (fun K25 hK25=>?_)
      refine d4 ?_
      refine a8 rfl ?_
      refine b6 rfl rfl (e6 rfl rfl) ?_
      refine a8 rfl ?_
      refine b6 rfl rfl (f6 rfl (ArgsOK.of rfl) (y7 _ (by omega) (by omega)) rfl) ?_
      refine a8 rfl ?_
      refine b6 rfl rfl (e6 rfl rfl) ?_
      refine a8 rfl ?_
      refine b6 rfl rfl (z7 rfl rfl rfl rfl) ?_
      refine b4 ?_
      refine hK25 _ ?_
      clear hK25 K25
      refine r7 rfl (fun h9=>?_) (fun h9=>?_)
      ·try rw [h9]
       try simp only [rfb] at h9
       refine f9 (fun K26 hK26=>?_)
       refine d4 ?_
       refine a8 rfl ?_
       refine b6 rfl rfl (d6 rfl rfl) ?_
       refine a8 rfl ?_
       refine b6 rfl rfl (d6 rfl rfl) ?_
       refine b4 ?_
       refine hK26 _ ?_
       clear hK26 K26
       refine c6 (g8 rfl rfl rfl rfl (a7 (c1 ?_) (a7 (c1 ?_) b9)))
       all_goals clear hK24 K24
       all_goals (first | (rw [(a5p (s:=s) h3).1];done) | (rw [(a5p (s:=s) h3).2];done) | (rw [(a5q (s:=s) (i:=i) (by omega) (by simp only [W8,Bool.and_eq_false_iff,decide_eq_false_iff_not];omega)).1];done) | (rw [(a5q (s:=s) (i:=i) (by omega) (by simp only [W8,Bool.and_eq_false_iff,decide_eq_false_iff_not];omega)).2];done) | (rw [(X1 (s:=s) (n:=-dV (l8 s) i) (by have e:i=(l8 s).size:=(by omega);rw [W9 (by omega),e]) (by assumption)).1];done) | (rw [(X1 (s:=s) (n:=-dV (l8 s) i) (by have e:i=(l8 s).size:=(by omega);rw [W9 (by omega),e]) (by assumption)).2];done) | (rw [(X1 (s:=s) (n:=dV (l8 s) i) (by have e:i=(l8 s).size:=(by omega);rw [X0 (by omega),e]) (by assumption)).1];done) | (rw [(X1 (s:=s) (n:=dV (l8 s) i) (by have e:i=(l8 s).size:=(by omega);rw [X0 (by omega),e]) (by assumption)).2];done) | (rw [(X2 (s:=s) (n:=-dV (l8 s) i) (i:=i) h3 (by omega) hinv.2 (by have e:i=(l8 s).size:=(by omega);rw [W9 (by omega),e]) (by assumption)).1];done) | (rw [(X2 (s:=s) (n:=-dV (l8 s) i) (i:=i) h3 (by omega) hinv.2 (by have e:i=(l8 s).size:=(by omega);rw [W9 (by omega),e]) (by assumption)).2];done) | (rw [(X2 (s:=s) (n:=dV (l8 s) i) (i:=i) h3 (by omega) hinv.2 (by have e:i=(l8 s).size:=(by omega);rw [X0 (by omega),e]) (by assumption)).1];done) | (rw [(X2 (s:=s) (n:=dV (l8 s) i) (i:=i) h3 (by omega) hinv.2 (by have e:i=(l8 s).size:=(by omega);rw [X0 (by omega),e]) (by assumption)).2];done))
      ·try rw [h9]
       try simp only [rfb] at h9
       refine y9 ?_
       refine hK24 _ ?_
       clear hK24 K24
       refine f9 (fun K27 hK27=>?_)
       refine d4 ?_
       refine a8 rfl ?_
       refine b6 rfl rfl (e6 rfl rfl) ?_
       refine a8 rfl ?_
       refine b6 rfl rfl (d6 rfl rfl) ?_
       refine a8 rfl ?_
       refine b6 rfl rfl (d6 rfl rfl) ?_
       refine b4 ?_
       refine hK27 _ ?_
       clear hK27 K27
       refine c6 (g8 rfl rfl rfl rfl (a7 (c1 ?_) (a7 (c1 ?_) b9)))
       all_goals (first | (rw [(a5p (s:=s) h3).1];done) | (rw [(a5p (s:=s) h3).2];done) | (rw [(a5q (s:=s) (i:=i) (by omega) (by simp only [W8,Bool.and_eq_false_iff,decide_eq_false_iff_not];omega)).1];done) | (rw [(a5q (s:=s) (i:=i) (by omega) (by simp only [W8,Bool.and_eq_false_iff,decide_eq_false_iff_not];omega)).2];done) | (rw [(X1 (s:=s) (n:=-dV (l8 s) i) (by have e:i=(l8 s).size:=(by omega);rw [W9 (by omega),e]) (by assumption)).1];done) | (rw [(X1 (s:=s) (n:=-dV (l8 s) i) (by have e:i=(l8 s).size:=(by omega);rw [W9 (by omega),e]) (by assumption)).2];done) | (rw [(X1 (s:=s) (n:=dV (l8 s) i) (by have e:i=(l8 s).size:=(by omega);rw [X0 (by omega),e]) (by assumption)).1];done) | (rw [(X1 (s:=s) (n:=dV (l8 s) i) (by have e:i=(l8 s).size:=(by omega);rw [X0 (by omega),e]) (by assumption)).2];done) | (rw [(X2 (s:=s) (n:=-dV (l8 s) i) (i:=i) h3 (by omega) hinv.2 (by have e:i=(l8 s).size:=(by omega);rw [W9 (by omega),e]) (by assumption)).1];done) | (rw [(X2 (s:=s) (n:=-dV (l8 s) i) (i:=i) h3 (by omega) hinv.2 (by have e:i=(l8 s).size:=(by omega);rw [W9 (by omega),e]) (by assumption)).2];done) | (rw [(X2 (s:=s) (n:=dV (l8 s) i) (i:=i) h3 (by omega) hinv.2 (by have e:i=(l8 s).size:=(by omega);rw [X0 (by omega),e]) (by assumption)).1];done) | (rw [(X2 (s:=s) (n:=dV (l8 s) i) (i:=i) h3 (by omega) hinv.2 (by have e:i=(l8 s).size:=(by omega);rw [X0 (by omega),e]) (by assumption)).2];done))
end Go.Proofs.YtpfhomblkgmkkaaGreatDoor
set_option maxRecDepth 20000
namespace Go.Proofs.YtpfhomblkgmkkaaGreatDoor
open Go Go.Rf
theorem b0e (s:ByteArray) (hs:s.size≤3900):Ctr Tryz.prog 102 [.v (.string s)] (.one (.v (.string (a0h s)))):=by
 have hsm:=a5h s s.size
 have hz:=z8 (n:=a5g s s.size) (by omega) (by omega)
 refine Ctr.of (n:=9) G Tryz.func102 rfl (by kernel_rfl) rfl rfl rfl (fun w0=>?_)
 refine f9 (fun K1 hK1=>?_)
 refine d4 ?_
 refine a8 rfl ?_
 refine b6 rfl rfl (d6 rfl rfl) ?_
 refine b4 ?_
 refine hK1 _ ?_
 clear hK1 K1
 refine f9 (fun K2 hK2=>?_)
 refine d4 ?_
 refine a8 rfl ?_
 refine b6 rfl rfl (e6 rfl rfl) ?_
 refine a8 rfl ?_
 refine b6 rfl rfl (J8 rfl rfl rfl (by (try simp only [ByteArray.size_append,t8,List.size_toArray,List.length_cons,List.length_nil]);omega)) ?_
 refine a8 rfl ?_
 refine b6 rfl rfl (e6 rfl rfl) ?_
 refine a8 rfl ?_
 refine b6 rfl rfl (f6 rfl (ArgsOK.of rfl) (b2b _ (by first | assumption | omega)) rfl) ?_
 refine a8 rfl ?_
 refine b6 rfl rfl (f6 rfl (ArgsOK.of rfl) (y7 _ (by omega) (by omega)) rfl) ?_
 refine a8 rfl ?_
 refine b6 rfl rfl (J8 rfl rfl rfl (by (try simp only [ByteArray.size_append,t8,List.size_toArray,List.length_cons,List.length_nil]);omega)) ?_
 refine a8 rfl ?_
 refine b6 rfl rfl (d6 rfl rfl) ?_
 refine b4 ?_
 refine hK2 _ ?_
 clear hK2 K2
 refine c6 ?_
 refine H1 rfl ?_
 refine c1 ?_
 all_goals (rfl)
theorem a2V (s:ByteArray) (hs:s.size≤3900) (hst:m5 s 35=false):Ctr Tryz.prog 122 [.v (.string s)] (.many [.v (.string (a0h s)),.v (.bool true)]):=by
 have hsm:=a5h s s.size
 have hz:=z8 (n:=a5g s s.size) (by omega) (by omega)
 have e35:((UInt8.toNat 35:Nat):Int)=35:=rfl
 have hss:=a1V (s:=s)
 have hse:(a0h s).size=(s++(⟨#[35]⟩:ByteArray)++t7 (a5g s s.size)).size:=rfl
 refine Ctr.of (n:=22) G Tryz.func122 rfl (by kernel_rfl) rfl rfl rfl (fun w0=>?_)
 refine f9 (fun K1 hK1=>?_)
 refine d4 ?_
 refine a8 rfl ?_
 refine b6 rfl rfl (d6 rfl rfl) ?_
 refine a8 rfl ?_
 refine b6 rfl rfl (d6 rfl rfl) ?_
 refine b4 ?_
 refine hK1 _ ?_
 clear hK1 K1
 refine f9 (fun K2 hK2=>?_)
 refine f9 (fun K3 hK3=>?_)
 refine d4 (a8 rfl (b6 rfl rfl (e6 rfl rfl) (a8 rfl (b6 rfl rfl (j9 G rfl rfl rfl) (a8 rfl (b6 rfl rfl (I9 rfl rfl rfl rfl) (a8 rfl (b6 rfl rfl (e6 rfl rfl) (D4 rfl rfl rfl (fun h1=>?_) (fun h1=>?_))))))))))
 ·try rw [h1]
  try simp only [rfb] at h1
  exfalso;omega
 ·try rw [h1]
  try simp only [rfb] at h1
  refine u6 rfl rfl rfl ?_
  refine b6 rfl rfl (e6 rfl rfl) ?_
  refine u6 rfl rfl rfl ?_
  refine b6 rfl rfl (f6 rfl (ArgsOK.of rfl) (a1g s 35) rfl) ?_
  refine a8 rfl ?_
  refine b6 rfl rfl (F8 rfl rfl rfl) ?_
  refine b4 ?_
  refine hK3 _ ?_
  clear hK3 K3
  refine r7 rfl (fun h2=>?_) (fun h2=>?_)
  ·try rw [h2]
   try simp only [rfb] at h2
   exact absurd (show m5 s 35=true from h2) (by rw [hst];simp)
  ·try rw [h2]
   try simp only [rfb] at h2
   refine y9 ?_
   refine hK2 _ ?_
   clear hK2 K2
   refine f9 (fun K4 hK4=>?_)
   refine d4 ?_
   refine a8 rfl ?_
   refine b6 rfl rfl (e6 rfl rfl) ?_
   refine a8 rfl ?_
   refine b6 rfl rfl (J8 rfl rfl rfl (by (try simp only [ByteArray.size_append,t8,List.size_toArray,List.length_cons,List.length_nil]);omega)) ?_
   refine a8 rfl ?_
   refine b6 rfl rfl (e6 rfl rfl) ?_
   refine a8 rfl ?_
   refine b6 rfl rfl (f6 rfl (ArgsOK.of rfl) (a78 _ (by first | assumption | omega)) rfl) ?_
   refine a8 rfl ?_
   refine b6 rfl rfl (f6 rfl (ArgsOK.of rfl) (B5 _ (by omega) (by omega)) rfl) ?_
   refine a8 rfl ?_
   refine b6 rfl rfl (J8 rfl rfl rfl (by (try simp only [ByteArray.size_append,t8,List.size_toArray,List.length_cons,List.length_nil]);omega)) ?_
   refine a8 rfl ?_
   refine b6 rfl rfl (d6 rfl rfl) ?_
   refine b4 ?_
   refine hK4 _ ?_
   clear hK4 K4
   refine f9 (fun K5 hK5=>?_)
   refine f9 (fun K6 hK6=>?_)
   refine d4 ?_
   refine a8 rfl ?_
   refine b6 rfl rfl (e6 rfl rfl) ?_
   refine a8 rfl ?_
   refine b6 rfl rfl (j9 G rfl rfl rfl) ?_
   refine a8 rfl ?_
   refine b6 rfl rfl (I9 rfl rfl rfl rfl) ?_
   refine b4 ?_
   refine hK6 _ ?_
   clear hK6 K6
   refine r7 rfl (fun h3=>?_) (fun h3=>?_)
   ·try rw [h3]
    try simp only [rfb] at h3
    exfalso;have h3q:(4000:Int) < ((a0h s).size:Int):=h3;omega
   ·try rw [h3]
    try simp only [rfb] at h3
    refine y9 ?_
    refine hK5 _ ?_
    clear hK5 K5
    refine f9 (fun K7 hK7=>?_)
    refine d4 ?_
    refine a8 rfl ?_
    refine b6 rfl rfl (e6 rfl rfl) ?_
    refine a8 rfl ?_
    refine b6 rfl rfl (d6 rfl rfl) ?_
    refine a8 rfl ?_
    refine b6 rfl rfl (d6 rfl rfl) ?_
    refine b4 ?_
    refine hK7 _ ?_
    clear hK7 K7
    refine c6 (g8 rfl rfl rfl rfl (a7 (c1 ?_) (a7 (c1 ?_) b9)))
    all_goals (first | rfl | (simp_all;done))
theorem V8 (k:Int) (x:Rec) (hk:0≤k) (hk2:k≤1000000) (hx:E2 x=true):Ctr Tryz.prog 61 [.v (.int .i64 k),.v (b2u x)] (.one (.v (.string (a02 k x)))):=by
 have hbs:=a3M hk (by omega) hx
 have hst:=a3h hk hx
 obtain ⟨hx1,hx2,hx3,hx4,hx5⟩:=a03 hx
 have hz:=z8 (n:=k) (by omega) (by omega)
 have hss:=a1V (s:=G7 k x)
 refine Ctr.of (n:=17) G Tryz.func61 rfl (by kernel_rfl) rfl rfl rfl (fun w0=>?_)
 refine f9 (fun K1 hK1=>?_)
 refine d4 ?_
 refine a8 rfl ?_
 refine B0 1 rfl rfl rfl rfl rfl rfl rfl ?_
 refine a8 rfl ?_
 refine b6 rfl rfl (d6 rfl rfl) ?_
 refine b4 ?_
 refine hK1 _ ?_
 clear hK1 K1
 refine f9 (fun K2 hK2=>?_)
 refine a4Y mixed (by kernel_rfl) ?_
 refine m4 rfl ?_
 refine u9 rfl rfl (e6 rfl rfl) ?_
 refine m4 rfl ?_
 refine u9 rfl rfl (f6 rfl (ArgsOK.of rfl) (y7 _ (by omega) (by omega)) rfl) ?_
 refine m4 rfl ?_
 refine u9 rfl rfl (J8 rfl rfl rfl (by (try simp only [ByteArray.size_append,t8,List.size_toArray,List.length_cons,List.length_nil]);omega)) ?_
 refine m4 rfl ?_
 refine u9 rfl rfl (l5 G rfl rfl rfl rfl) ?_
 refine m4 rfl ?_
 refine u9 rfl rfl (n9 G rfl rfl rfl rfl rfl rfl rfl) ?_
 refine m4 rfl ?_
 refine u9 rfl rfl (J8 rfl rfl rfl (by (try simp only [ByteArray.size_append,t8,List.size_toArray,List.length_cons,List.length_nil]);omega)) ?_
 refine m4 rfl ?_
 refine u9 rfl rfl (J8 rfl rfl rfl (by (try simp only [ByteArray.size_append,t8,List.size_toArray,List.length_cons,List.length_nil]);omega)) ?_
 refine m4 rfl ?_
 refine u9 rfl rfl (l5 G rfl rfl rfl rfl) ?_
 refine m4 rfl ?_
 refine u9 rfl rfl (n9 G rfl rfl rfl rfl rfl rfl rfl) ?_
 refine m4 rfl ?_
 refine u9 rfl rfl (J8 rfl rfl rfl (by (try simp only [ByteArray.size_append,t8,List.size_toArray,List.length_cons,List.length_nil]);omega)) ?_
 refine m4 rfl ?_
 refine u9 rfl rfl (f6 rfl (ArgsOK.of rfl) (b0e (G7 k x) (by omega)) rfl) ?_
 refine m4 rfl ?_
 refine u9 rfl rfl (J8 rfl rfl rfl (by (try simp only [ByteArray.size_append,t8,List.size_toArray,List.length_cons,List.length_nil]);omega)) ?_
 refine m4 rfl ?_
 refine u9 rfl rfl (d6 rfl rfl) ?_
 refine a8v ?_
 refine hK2 _ ?_
 clear hK2 K2
 refine c6 ?_
 refine H1 rfl ?_
 refine c1 ?_
 all_goals (rfl)
theorem a0F (k:Int) (x:Rec) (hk:0≤k) (hk2:k≤1000000) (hx:E2 x=true):Ctr Tryz.prog 76 [.v (.int .i64 k),.v (b2u x)] (.one (.v (.string (a02 k x)))):=by
 have hbs:=a3M hk (by omega) hx
 have hst:=a3h hk hx
 obtain ⟨hx1,hx2,hx3,hx4,hx5⟩:=a03 hx
 have hz:=z8 (n:=k) (by omega) (by omega)
 have hss:=a1V (s:=G7 k x)
 refine Ctr.of (n:=23) G Tryz.func76 rfl (by kernel_rfl) rfl rfl rfl (fun w0=>?_)
 refine f9 (fun K1 hK1=>?_)
 refine d4 ?_
 refine a8 rfl ?_
 refine B0 1 rfl rfl rfl rfl rfl rfl rfl ?_
 refine a8 rfl ?_
 refine b6 rfl rfl (d6 rfl rfl) ?_
 refine b4 ?_
 refine hK1 _ ?_
 clear hK1 K1
 refine f9 (fun K2 hK2=>?_)
 refine a4Y mixed (by kernel_rfl) ?_
 refine m4 rfl ?_
 refine u9 rfl rfl (e6 rfl rfl) ?_
 refine m4 rfl ?_
 refine u9 rfl rfl (f6 rfl (ArgsOK.of rfl) (B5 _ (by omega) (by omega)) rfl) ?_
 refine m4 rfl ?_
 refine u9 rfl rfl (J8 rfl rfl rfl (by (try simp only [ByteArray.size_append,t8,List.size_toArray,List.length_cons,List.length_nil]);omega)) ?_
 refine m4 rfl ?_
 refine u9 rfl rfl (l5 G rfl rfl rfl rfl) ?_
 refine m4 rfl ?_
 refine u9 rfl rfl (n9 G rfl rfl rfl rfl rfl rfl rfl) ?_
 refine m4 rfl ?_
 refine u9 rfl rfl (J8 rfl rfl rfl (by (try simp only [ByteArray.size_append,t8,List.size_toArray,List.length_cons,List.length_nil]);omega)) ?_
 refine m4 rfl ?_
 refine u9 rfl rfl (J8 rfl rfl rfl (by (try simp only [ByteArray.size_append,t8,List.size_toArray,List.length_cons,List.length_nil]);omega)) ?_
 refine m4 rfl ?_
 refine u9 rfl rfl (l5 G rfl rfl rfl rfl) ?_
 refine m4 rfl ?_
 refine u9 rfl rfl (n9 G rfl rfl rfl rfl rfl rfl rfl) ?_
 refine m4 rfl ?_
 refine u9 rfl rfl (J8 rfl rfl rfl (by (try simp only [ByteArray.size_append,t8,List.size_toArray,List.length_cons,List.length_nil]);omega)) ?_
 refine m4 rfl ?_
 refine u9 rfl rfl (f6 rfl (ArgsOK.of rfl) (a2V (G7 k x) (by omega) hst) rfl) ?_
 refine m4 rfl ?_
 refine u9 rfl rfl (e6 rfl rfl) ?_
 refine m4 rfl ?_
 refine u9 rfl rfl (n8 rfl rfl rfl) ?_
 refine m4 rfl ?_
 refine u9 rfl rfl (n8 rfl rfl rfl) ?_
 refine m4 rfl ?_
 refine u9 rfl rfl (d6 rfl rfl) ?_
 refine m4 rfl ?_
 refine u9 rfl rfl (d6 rfl rfl) ?_
 refine a8v ?_
 refine hK2 _ ?_
 clear hK2 K2
 refine f9 (fun K3 hK3=>?_)
 refine d4 ?_
 refine a8 rfl ?_
 refine b6 rfl rfl (e6 rfl rfl) ?_
 refine a8 rfl ?_
 refine b6 rfl rfl (J8 rfl rfl rfl (by (try simp only [ByteArray.size_append,t8,List.size_toArray,List.length_cons,List.length_nil]);omega)) ?_
 refine a8 rfl ?_
 refine b6 rfl rfl (d6 rfl rfl) ?_
 refine b4 ?_
 refine hK3 _ ?_
 clear hK3 K3
 refine c6 ?_
 refine H1 rfl ?_
 refine c1 ?_
 all_goals (rfl)
end Go.Proofs.YtpfhomblkgmkkaaGreatDoor
set_option maxRecDepth 20000
namespace Go.Proofs.YtpfhomblkgmkkaaGreatDoor
open Go Go.Rf
theorem V9 (s:ByteArray) (b:Int) (hs:s.size≤1048576):Ctr Tryz.prog 41 [.v (.string s),.v (.int .u8 b)] (.one (.fr 9 1 ((j2 s b).map a6N))):=by
 refine Ctr.of (n:=35) G Tryz.func41 rfl b3 rfl rfl rfl (fun w0=>?_)
 refine b14 ?_
 refine zgo ?_
 refine i7 [0,1] [] (fun (i:Nat)=>[(5,.own 0),(6,.v (.int .i64 ((spO s b i).2:Int))),(7,.v (.int .i64 (i:Int)))]) (fun (i:Nat)=>[(0,some (.row 9 1 ((spO s b i).1.map a6N)))]) (fun (i:Nat)=>i≤s.size) (fun (i:Nat)=>s.size - i) 0 rfl rfl ?_ ?_ ?_ ?_
 ·exact Nat.zero_le _
 ·exact ⟨⟨_,rfl,by rfl⟩,rfl,⟨⟨_,rfl,by rfl⟩,rfl,⟨⟨_,rfl,by rfl⟩,rfl,trivial⟩⟩⟩
 ·exact ⟨⟨_,rfl,by rfl⟩,rfl,rfl,trivial⟩
 intro i hinv
 have hi:i≤s.size:=hinv
 have hsp:=b1l (s:=s) (b:=b) (i:=i)
 have hbi:r4 s i=((s.data.toList.getD ((i:Int)).toNat 0).toNat:Int):=rfl
 simp only [List.cons_append,List.nil_append]
 refine a32 ?_
 refine zcd (fun h1=>?_) (fun h1=>?_)
 ·refine vm5 ?_
  refine b4e ?_
  refine zcd (fun h2=>?_) (fun h2=>?_)
  ·refine b8Q ?_
   refine o9 ?_
   refine b4f ?_
   refine o9 ?_
   refine c0a ?_
   refine zgo ?_
   refine ⟨(i+1),?_,?_,⟨⟨_,rfl,by (first | rfl | (rw [F0 (by omega)];done) | (rw [P4 (by omega)];done) | (rw [F0 (by omega)];rfl) | (rw [P4 (by omega)];rfl) | (rw [F0 (by omega),List.map_append];rfl))⟩,rfl,⟨⟨_,rfl,by (first | rfl | (rw [F0 (by omega)];done) | (rw [P4 (by omega)];done) | (rw [F0 (by omega)];rfl) | (rw [P4 (by omega)];rfl) | (rw [F0 (by omega),List.map_append];rfl))⟩,rfl,⟨⟨_,rfl,by (first | rfl | (rw [F0 (by omega)];done) | (rw [P4 (by omega)];done) | (rw [F0 (by omega)];rfl) | (rw [P4 (by omega)];rfl) | (rw [F0 (by omega),List.map_append];rfl))⟩,rfl,trivial⟩⟩⟩,⟨⟨_,rfl,by (first | rfl | (rw [F0 (by omega)];done) | (rw [P4 (by omega)];done) | (rw [F0 (by omega)];rfl) | (rw [P4 (by omega)];rfl) | (rw [F0 (by omega),List.map_append];rfl))⟩,rfl,rfl,trivial⟩,rfl,rfl,rfl⟩
   ·omega
   omega
  refine zgo ?_
  refine ⟨(i+1),?_,?_,⟨⟨_,rfl,by (first | rfl | (rw [F0 (by omega)];done) | (rw [P4 (by omega)];done) | (rw [F0 (by omega)];rfl) | (rw [P4 (by omega)];rfl) | (rw [F0 (by omega),List.map_append];rfl))⟩,rfl,⟨⟨_,rfl,by (first | rfl | (rw [F0 (by omega)];done) | (rw [P4 (by omega)];done) | (rw [F0 (by omega)];rfl) | (rw [P4 (by omega)];rfl) | (rw [F0 (by omega),List.map_append];rfl))⟩,rfl,⟨⟨_,rfl,by (first | rfl | (rw [F0 (by omega)];done) | (rw [P4 (by omega)];done) | (rw [F0 (by omega)];rfl) | (rw [P4 (by omega)];rfl) | (rw [F0 (by omega),List.map_append];rfl))⟩,rfl,trivial⟩⟩⟩,⟨⟨_,rfl,by (first | rfl | (rw [F0 (by omega)];done) | (rw [P4 (by omega)];done) | (rw [F0 (by omega)];rfl) | (rw [P4 (by omega)];rfl) | (rw [F0 (by omega),List.map_append];rfl))⟩,rfl,rfl,trivial⟩,rfl,rfl,rfl⟩
  ·omega
  omega
 refine b8Q ?_
 refine o9 ?_
 refine b4f ?_
 refine o9 ?_
 refine c0a ?_
 refine zfo ?_
 all_goals ((have e:i=s.size:=(by omega);subst e;simp only [j2,List.map_append];rfl))
theorem a9O (s:ByteArray) (k:Int) (hs:s.size≤1048576) (hk:0≤k) (hk2:k≤1000000):Ctr Tryz.prog 132 [.v (.string s),.v (.int .i64 k)] (.many [.v (b2u (rdE s k)),.v (.bool (rdK s k))]):=by
 have hf1:=S7 (s:=s) (c:=35)
 have hf2:=a5j (s:=s) (c:=35)
 have hz:=z8 (n:=k) (by omega) (by omega)
 have ha:(L9 k).size=(t7 k).size+1:=(by unfold L9;rw [ByteArray.size_append];rfl)
 obtain ⟨hs1,hs2⟩:=U3 (s:=s) (b:=35)
 obtain ⟨ht1,ht2⟩:=U3 (s:=B9 s k) (b:=64)
 have hl1:=R5 (s:=s) (b:=35)
 have hrs:(B9 s k).size=(l7 s 35).size - (L9 k).size:=(by rw [B9,a04 (Nat.le_refl _)])
 have hf3:=S7 (s:=B9 s k) (c:=64)
 have hf4:=a5j (s:=B9 s k) (c:=64)
 have hl2:=R5 (s:=B9 s k) (b:=64)
 refine Ctr.of (n:=64) G Tryz.func132 rfl (by kernel_rfl) rfl rfl rfl (fun w0=>?_)
 refine f9 (fun K1 hK1=>?_)
 refine d4 ?_
 refine a8 rfl ?_
 refine d8 G 1 rfl rfl rfl rfl rfl ?_
 refine a8 rfl ?_
 refine b6 rfl rfl (d6 rfl rfl) ?_
 refine b4 ?_
 refine hK1 _ ?_
 clear hK1 K1
 refine f9 (fun K2 hK2=>?_)
 refine d4 ?_
 refine a8 rfl ?_
 refine b6 rfl rfl (e6 rfl rfl) ?_
 refine a8 rfl ?_
 refine b6 rfl rfl (f6 rfl (ArgsOK.of rfl) (y7 _ (by omega) (by omega)) rfl) ?_
 refine a8 rfl ?_
 refine b6 rfl rfl (J8 rfl rfl rfl (by (try simp only [ByteArray.size_append,t8,List.size_toArray,List.length_cons,List.length_nil]);omega)) ?_
 refine a8 rfl ?_
 refine b6 rfl rfl (d6 rfl rfl) ?_
 refine b4 ?_
 refine hK2 _ ?_
 clear hK2 K2
 rw [show (t7 k++(⟨#[32]⟩:ByteArray))=L9 k from rfl]
 refine f9 (fun K3 hK3=>?_)
 refine d4 ?_
 refine a8 rfl ?_
 refine b6 rfl rfl (e6 rfl rfl) ?_
 refine a8 rfl ?_
 refine d7 2 rfl rfl rfl (ArgsOK.of rfl) (V9 s 35 (by omega)) rfl rfl ?_
 refine a8 rfl ?_
 first | refine b6 rfl rfl (b8 G rfl rfl rfl rfl rfl (by omega) (by simp;omega)) ?_ | refine b6 rfl rfl (b8 G rfl rfl rfl rfl rfl (by omega) (by omega)) ?_
 refine a8 rfl ?_
 refine b6 rfl rfl (j6 G rfl rfl rfl rfl rfl (B4 (by omega) (by simp;omega)) rfl) ?_
 refine a8 rfl ?_
 refine b6 rfl rfl (d6 rfl rfl) ?_
 refine b4 ?_
 refine hK3 _ ?_
 clear hK3 K3
 first | rw [hs1] | rw [show (j2 s 35).getD ((0:Int)).toNat default=l7 s 35 from hs1] | trace_state
 refine f9 (fun K4 hK4=>?_)
 refine f9 (fun K5 hK5=>?_)
 refine d4 (a8 rfl (b6 rfl rfl (e6 rfl rfl) (a8 rfl (b6 rfl rfl (j9 G rfl rfl rfl) (a8 rfl (b6 rfl rfl (e6 rfl rfl) (a8 rfl (b6 rfl rfl (j9 G rfl rfl rfl) (a8 rfl (b6 rfl rfl (I9 rfl rfl rfl rfl) (a8 rfl (b6 rfl rfl (e6 rfl rfl) (D4 rfl rfl rfl (fun h1=>?_) (fun h1=>?_))))))))))))))
 ·try rw [h1]
  try simp only [rfb] at h1
  have hB:=c1g (c1h (s:=s) (k:=k) (by omega))
  refine m7 rfl rfl rfl rfl rfl rfl ?_
  refine m7 rfl rfl rfl rfl rfl rfl ?_
  refine m7 rfl rfl rfl rfl rfl rfl ?_
  refine m7 rfl rfl rfl rfl rfl rfl ?_
  refine m7 rfl rfl rfl rfl rfl rfl ?_
  refine m7 rfl rfl rfl rfl rfl rfl ?_
  refine a8 rfl ?_
  refine b6 rfl rfl (C9 rfl rfl rfl) ?_
  refine b4 ?_
  refine hK5 _ ?_
  clear hK5 K5
  refine J6 rfl ?_
  refine f9 (fun K6 hK6=>?_)
  refine d4 ?_
  refine a8 rfl ?_
  refine b6 rfl rfl (v8 G rfl rfl rfl rfl) ?_
  refine a8 rfl ?_
  refine j7 G rfl rfl rfl rfl rfl rfl rfl rfl rfl rfl rfl ?_
  refine a8 rfl ?_
  refine b6 rfl rfl (d6 rfl rfl) ?_
  refine b4 ?_
  refine hK6 _ ?_
  clear hK6 K6
  refine c6 (g8 rfl rfl rfl rfl (a7 (A7 rfl ?_) (a7 (c1 ?_) b9)))
  all_goals clear hK4 K4
  all_goals (first | (rw [hB.1];rfl) | (rw [hB.2];rfl) | (rw [hB.2];done) | (rw [a4h hB,h4];rfl) | (rw [a4h hB,h4];simp;done))
 ·try rw [h1]
  try simp only [rfb] at h1
  refine u6 rfl rfl rfl ?_
  refine b6 rfl rfl (e6 rfl rfl) ?_
  refine u6 rfl rfl rfl ?_
  refine b6 rfl rfl (e6 rfl rfl) ?_
  refine u6 rfl rfl rfl ?_
  refine b6 rfl rfl (j9 G rfl rfl rfl) ?_
  refine u6 rfl rfl rfl ?_
  refine b6 rfl rfl (N7 G rfl rfl rfl rfl rfl (by omega) (by omega) (by omega)) ?_
  refine u6 rfl rfl rfl ?_
  refine b6 rfl rfl (e6 rfl rfl) ?_
  refine u6 rfl rfl rfl ?_
  refine b6 rfl rfl (z7 rfl rfl rfl rfl) ?_
  refine a8 rfl ?_
  refine b6 rfl rfl (F8 rfl rfl rfl) ?_
  refine b4 ?_
  refine hK5 _ ?_
  clear hK5 K5
  refine r7 rfl (fun h2=>?_) (fun h2=>?_)
  ·try rw [h2]
   try simp only [rfb] at h2
   have hB:=c1g (c1i (s:=s) (k:=k) h2)
   refine f9 (fun K7 hK7=>?_)
   refine d4 ?_
   refine a8 rfl ?_
   refine b6 rfl rfl (v8 G rfl rfl rfl rfl) ?_
   refine a8 rfl ?_
   refine j7 G rfl rfl rfl rfl rfl rfl rfl rfl rfl rfl rfl ?_
   refine a8 rfl ?_
   refine b6 rfl rfl (d6 rfl rfl) ?_
   refine b4 ?_
   refine hK7 _ ?_
   clear hK7 K7
   refine c6 (g8 rfl rfl rfl rfl (a7 (A7 rfl ?_) (a7 (c1 ?_) b9)))
   all_goals clear hK4 K4
   all_goals (first | (rw [hB.1];rfl) | (rw [hB.2];rfl) | (rw [hB.2];done) | (rw [a4h hB,h4];rfl) | (rw [a4h hB,h4];simp;done))
  ·try rw [h2]
   try simp only [rfb] at h2
   have hA:=c28 (s:=s) (k:=k) (by omega) h2
   refine y9 ?_
   refine hK4 _ ?_
   clear hK4 K4
   refine f9 (fun K8 hK8=>?_)
   refine d4 ?_
   refine a8 rfl ?_
   refine b6 rfl rfl (e6 rfl rfl) ?_
   refine a8 rfl ?_
   refine b6 rfl rfl (e6 rfl rfl) ?_
   refine a8 rfl ?_
   refine b6 rfl rfl (j9 G rfl rfl rfl) ?_
   refine a8 rfl ?_
   refine b6 rfl rfl (N7 G rfl rfl rfl rfl rfl (by omega) (by omega) (by omega)) ?_
   refine a8 rfl ?_
   refine b6 rfl rfl (d6 rfl rfl) ?_
   refine b4 ?_
   refine hK8 _ ?_
   clear hK8 K8
   rw [show (l7 s 35).extract (((L9 k).size:Int)).toNat (((l7 s 35).size:Int)).toNat=B9 s k from rfl]
   refine f9 (fun K9 hK9=>?_)
   refine d4 ?_
   refine a8 rfl ?_
   refine b6 rfl rfl (e6 rfl rfl) ?_
   refine a8 rfl ?_
   refine d7 3 rfl rfl rfl (ArgsOK.of rfl) (V9 (B9 s k) 64 (by omega)) rfl rfl ?_
   refine a8 rfl ?_
   first | refine b6 rfl rfl (b8 G rfl rfl rfl rfl rfl (by omega) (by simp;omega)) ?_ | refine b6 rfl rfl (b8 G rfl rfl rfl rfl rfl (by omega) (by omega)) ?_
   refine a8 rfl ?_
   refine b6 rfl rfl (j6 G rfl rfl rfl rfl rfl (B4 (by omega) (by simp;omega)) rfl) ?_
   refine a8 rfl ?_
   refine b6 rfl rfl (d6 rfl rfl) ?_
   refine b4 ?_
   refine hK9 _ ?_
   clear hK9 K9
   first | rw [ht1] | rw [show (j2 (B9 s k) 64).getD ((0:Int)).toNat default=l7 (B9 s k) 64 from ht1] | trace_state
   refine f9 (fun K10 hK10=>?_)
   refine f9 (fun K11 hK11=>?_)
   refine d4 ?_
   refine a8 rfl ?_
   refine b6 rfl rfl (e6 rfl rfl) ?_
   refine a8 rfl ?_
   refine b6 rfl rfl (j9 G rfl rfl rfl) ?_
   refine a8 rfl ?_
   refine b6 rfl rfl (e6 rfl rfl) ?_
   refine a8 rfl ?_
   refine b6 rfl rfl (j9 G rfl rfl rfl) ?_
   refine a8 rfl ?_
   refine b6 rfl rfl (I9 rfl rfl rfl rfl) ?_
   refine b4 ?_
   refine hK11 _ ?_
   clear hK11 K11
   refine r7 rfl (fun h3=>?_) (fun h3=>?_)
   ·try rw [h3]
    try simp only [rfb] at h3
    have hB:=c1g (c1j (s:=s) (k:=k) (by omega))
    refine f9 (fun K12 hK12=>?_)
    refine d4 ?_
    refine a8 rfl ?_
    refine b6 rfl rfl (v8 G rfl rfl rfl rfl) ?_
    refine a8 rfl ?_
    refine j7 G rfl rfl rfl rfl rfl rfl rfl rfl rfl rfl rfl ?_
    refine a8 rfl ?_
    refine b6 rfl rfl (d6 rfl rfl) ?_
    refine b4 ?_
    refine hK12 _ ?_
    clear hK12 K12
    refine c6 (g8 rfl rfl rfl rfl (a7 (A7 rfl ?_) (a7 (c1 ?_) b9)))
    all_goals clear hK10 K10
    all_goals (first | (rw [hB.1];rfl) | (rw [hB.2];rfl) | (rw [hB.2];done) | (rw [a4h hB,h4];rfl) | (rw [a4h hB,h4];simp;done))
   ·try rw [h3]
    try simp only [rfb] at h3
    have hB:=c29 hA (by omega)
    have hr:=b6J (s:=s) (k:=k)
    have hxs:(rdX s k).c.size≤9223372036854775807∧(rdX s k).r.size≤9223372036854775807:=(by omega)
    refine y9 ?_
    refine hK10 _ ?_
    clear hK10 K10
    refine f9 (fun K13 hK13=>?_)
    refine d4 ?_
    refine a8 rfl ?_
    refine b6 rfl rfl (e6 rfl rfl) ?_
    refine a8 rfl ?_
    refine b6 rfl rfl (e6 rfl rfl) ?_
    refine a8 rfl ?_
    refine b6 rfl rfl (e6 rfl rfl) ?_
    refine a8 rfl ?_
    refine b6 rfl rfl (j9 G rfl rfl rfl) ?_
    refine a8 rfl ?_
    first | refine b6 rfl rfl (x8 rfl rfl rfl rfl (by omega) (by omega)) ?_ | refine b6 rfl rfl (C5 rfl rfl rfl rfl) ?_
    refine a8 rfl ?_
    refine b6 rfl rfl (N7 G rfl rfl rfl rfl rfl (by omega) (by omega) (by omega)) ?_
    refine a8 rfl ?_
    refine b6 rfl rfl (v8 G rfl rfl rfl rfl) ?_
    refine a8 rfl ?_
    refine d8 G 4 rfl rfl rfl rfl rfl ?_
    refine a8 rfl ?_
    refine j7 G rfl rfl rfl rfl rfl rfl rfl rfl rfl rfl rfl ?_
    refine b4 ?_
    refine hK13 _ ?_
    clear hK13 K13
    rw [show (B9 s k).extract (((l7 (B9 s k) 64).size:Int)+1).toNat (((B9 s k).size:Int)).toNat=(rdX s k).r from rfl]
    rw [show l7 (B9 s k) 64=(rdX s k).c from rfl]
    refine f9 (fun K14 hK14=>?_)
    refine l4 13 [1,2,3] mixed (by kernel_rfl) rfl rfl (fun r0=>?_) (fun _ h=>h)
    refine e9 0 rfl (by kernel_rfl) (by kernel_rfl) rfl rfl rfl rfl (p5 G rfl rfl rfl rfl rfl rfl) ?_
    refine e9 1 rfl (by kernel_rfl) (by kernel_rfl) rfl rfl rfl rfl (p5 G rfl rfl rfl rfl rfl rfl) ?_
    refine b5 (rs:=[2]) (by kernel_rfl) rfl (AllB.cons ?_ AllB.nil)
    refine c7 [1,2,3] rfl rfl (b6 rfl rfl (f6 rfl (ArgsOK.of rfl) (a1i (rdX s k) hxs) rfl) (b4 ⟨rfl,?_⟩))
    refine e9 3 rfl (by kernel_rfl) (by kernel_rfl) rfl rfl rfl rfl (e6 rfl rfl) (b83 (gd:=56) rfl (fun h4=>?_) (fun h4=>?_))
    ·try rw [h4]
     try simp only [rfb] at h4
     refine S6 4 rfl (by kernel_rfl) (by kernel_rfl) rfl rfl rfl rfl rfl rfl (e6 rfl rfl) ?_
     refine S6 5 rfl (by kernel_rfl) (by kernel_rfl) rfl rfl rfl rfl rfl rfl (p5 G rfl rfl rfl rfl rfl rfl) ?_
     refine S6 7 rfl (by kernel_rfl) (by kernel_rfl) rfl rfl rfl rfl rfl rfl (e6 rfl rfl) ?_
     refine S6 8 rfl (by kernel_rfl) (by kernel_rfl) rfl rfl rfl rfl rfl rfl (J8 rfl rfl rfl (by (try simp only [ByteArray.size_append,t8,List.size_toArray,List.length_cons,List.length_nil]);omega)) ?_
     refine b5 (rs:=[6]) (by kernel_rfl) rfl (AllB.cons ?_ AllB.nil)
     refine b84 [1,2,3] rfl rfl rfl rfl (b6 rfl rfl (f6 rfl (ArgsOK.of rfl) (V8 k (rdX s k) (by omega) (by omega) (by assumption)) rfl) (b4 ⟨rfl,?_⟩))
     refine S6 9 rfl (by kernel_rfl) (by kernel_rfl) rfl rfl rfl rfl rfl rfl (z7 rfl rfl rfl rfl) ?_
     refine e9 10 rfl (by kernel_rfl) (by kernel_rfl) rfl rfl rfl rfl (C9 rfl rfl rfl) ?_
     refine b5 (rs:=[11]) (by kernel_rfl) rfl (AllB.cons ?_ AllB.nil)
     refine c7 [1,2,3] rfl rfl (j7 G rfl rfl rfl rfl rfl rfl rfl rfl rfl rfl rfl (b4 ⟨rfl,?_⟩))
     refine e9 12 rfl (by kernel_rfl) (by kernel_rfl) rfl rfl rfl rfl (d6 rfl rfl) ?_
     refine l6 (by kernel_rfl) ?_
     refine hK14 _ ?_
     clear hK14 K14
     refine c6 (g8 rfl rfl rfl rfl (a7 (A7 rfl ?_) (a7 (c1 ?_) b9)))
     all_goals (first | (rw [hB.1];rfl) | (rw [hB.2];rfl) | (rw [hB.2];done) | (rw [a4h hB,h4];rfl) | (rw [a4h hB,h4];simp;done))
    ·try rw [h4]
     try simp only [rfb] at h4
     refine a2o 4 rfl (by kernel_rfl) (by kernel_rfl) rfl rfl rfl rfl rfl rfl ?_
     refine a2o 5 rfl (by kernel_rfl) (by kernel_rfl) rfl rfl rfl rfl rfl rfl ?_
     refine a2o 6 rfl (by kernel_rfl) (by kernel_rfl) rfl rfl rfl rfl rfl rfl ?_
     refine a2o 7 rfl (by kernel_rfl) (by kernel_rfl) rfl rfl rfl rfl rfl rfl ?_
     refine a2o 8 rfl (by kernel_rfl) (by kernel_rfl) rfl rfl rfl rfl rfl rfl ?_
     refine a2o 9 rfl (by kernel_rfl) (by kernel_rfl) rfl rfl rfl rfl rfl rfl ?_
     refine e9 10 rfl (by kernel_rfl) (by kernel_rfl) rfl rfl rfl rfl (F8 rfl rfl rfl) ?_
     refine b5 (rs:=[11]) (by kernel_rfl) rfl (AllB.cons ?_ AllB.nil)
     refine c7 [1,2,3] rfl rfl (j7 G rfl rfl rfl rfl rfl rfl rfl rfl rfl rfl rfl (b4 ⟨rfl,?_⟩))
     refine e9 12 rfl (by kernel_rfl) (by kernel_rfl) rfl rfl rfl rfl (d6 rfl rfl) ?_
     refine l6 (by kernel_rfl) ?_
     refine hK14 _ ?_
     clear hK14 K14
     refine c6 (g8 rfl rfl rfl rfl (a7 (A7 rfl ?_) (a7 (c1 ?_) b9)))
     all_goals (first | (rw [hB.1];rfl) | (rw [hB.2];rfl) | (rw [hB.2];done) | (rw [a4h hB,h4];rfl) | (rw [a4h hB,h4];simp;done))
end Go.Proofs.YtpfhomblkgmkkaaGreatDoor
set_option maxRecDepth 20000
namespace Go.Proofs.YtpfhomblkgmkkaaGreatDoor
open Go Go.Rf
theorem a79 (s:ByteArray) (hs:s.size≤9223372036854775807):Ctr Tryz.prog 57 [.v (.string s)] (.many [.v (.int .i64 (nmN s)),.v (.bool (nmK s))]):=by
 refine Ctr.of (n:=8) G Tryz.func57 rfl b3 rfl rfl rfl (fun w0=>?_)
 refine zcl (b0d s hs) ?_
 refine zgo ?_
 refine c6 (g8 rfl rfl rfl rfl (a7 (c1 ?_) (a7 (c1 ?_) b9)))
 all_goals (rfl)
theorem a4T (w:ByteArray):Ctr Tryz.prog 70 [.v (.string w)] (.one (.v (.int .i64 (a1J (m3 w))))):=by
 refine Ctr.of (n:=20) G Tryz.func70 rfl b3 rfl rfl rfl (fun w0=>?_)
 refine R6 ?_
 refine zcd (fun h1=>?_) (fun h1=>?_)
 ·have k1:=b0O.mp h1
  refine H3 ?_
  all_goals exact a6d
 have k1:=mt b0O.mpr h1
 refine R6 ?_
 refine zcd (fun h2=>?_) (fun h2=>?_)
 ·have k2:=b0P.mp h2
  refine H3 ?_
  all_goals exact a6d
 have k2:=mt b0P.mpr h2
 refine R6 ?_
 refine zcd (fun h3=>?_) (fun h3=>?_)
 ·have k3:=b0Q.mp h3
  refine zf1 ?_
  all_goals exact a6d
 have k3:=mt b0Q.mpr h3
 refine R6 ?_
 refine zcd (fun h4=>?_) (fun h4=>?_)
 ·have k4:=b0R.mp h4
  refine H3 ?_
  all_goals exact a6d
 have k4:=mt b0R.mpr h4
 refine R6 ?_
 refine zcd (fun h5=>?_) (fun h5=>?_)
 ·have k5:=b0S.mp h5
  refine H3 ?_
  all_goals exact a6d
 have k5:=mt b0S.mpr h5
 refine R6 ?_
 refine zcd (fun h6=>?_) (fun h6=>?_)
 ·have k6:=b0T.mp h6
  refine H3 ?_
  all_goals exact a6d
 have k6:=mt b0T.mpr h6
 refine R6 ?_
 refine zcd (fun h7=>?_) (fun h7=>?_)
 ·have k7:=b0U.mp h7
  refine H3 ?_
  all_goals exact a6d
 have k7:=mt b0U.mpr h7
 refine R6 ?_
 refine zcd (fun h8=>?_) (fun h8=>?_)
 ·have k8:=b0V.mp h8
  refine H3 ?_
  all_goals exact a6d
 have k8:=mt b0V.mpr h8
 refine R6 ?_
 refine zcd (fun h9=>?_) (fun h9=>?_)
 ·have k9:=b0W.mp h9
  refine H3 ?_
  all_goals exact a6d
 have k9:=mt b0W.mpr h9
 refine R6 ?_
 refine zcd (fun h10=>?_) (fun h10=>?_)
 ·have k10:=b0X.mp h10
  refine H3 ?_
  all_goals exact a6d
 have k10:=mt b0X.mpr h10
 refine R6 ?_
 refine zcd (fun h11=>?_) (fun h11=>?_)
 ·have k11:=b1U.mp h11
  refine H3 ?_
  all_goals exact a6d
 have k11:=mt b1U.mpr h11
 refine R6 ?_
 refine zcd (fun h12=>?_) (fun h12=>?_)
 ·have k12:=a60.mp h12
  refine zf1 ?_
  all_goals exact a6d
 have k12:=mt a60.mpr h12
 refine R6 ?_
 refine zcd (fun h13=>?_) (fun h13=>?_)
 ·have k13:=a61.mp h13
  refine zf1 ?_
  all_goals exact a6d
 have k13:=mt a61.mpr h13
 refine zf1 ?_
 all_goals exact a6d
theorem b0f (w:ByteArray) (l:List Int) (hl:a1J (m3 w)=l.length):Ctr Tryz.prog 72 [.v (.string w),.lst 1 (l.map Rf.r9)] (.many [.v (b61 (a0o (m3 w) l).1),.v (.bool (a0o (m3 w) l).2)]):=by
 refine Ctr.of (n:=50) G Tryz.func72 rfl b3 rfl rfl rfl (fun w0=>?_)
 refine a3x ?_
 refine R6 ?_
 refine zcd (fun h1=>?_) (fun h1=>?_)
 ·have k1:=b0R.mp h1
  have hn:=O8 (k:=m3 w) (by omega)
  rw [hl] at hn
  refine zgo ?_
  refine c6 (g8 rfl rfl rfl rfl (a7 (A7 rfl ?_) (a7 (c1 ?_) b9)))
  all_goals exact a7z
 have k1:=mt b0R.mpr h1
 refine R6 ?_
 refine zcd (fun h2=>?_) (fun h2=>?_)
 ·have k2:=b0S.mp h2
  have hn:=O8 (k:=m3 w) (by omega)
  rw [hl] at hn
  refine zgo ?_
  refine c6 (g8 rfl rfl rfl rfl (a7 (A7 rfl ?_) (a7 (c1 ?_) b9)))
  all_goals exact a7z
 have k2:=mt b0S.mpr h2
 refine R6 ?_
 refine zcd (fun h3=>?_) (fun h3=>?_)
 ·have k3:=b0T.mp h3
  have hn:=O8 (k:=m3 w) (by omega)
  rw [hl] at hn
  refine zgo ?_
  refine c6 (g8 rfl rfl rfl rfl (a7 (A7 rfl ?_) (a7 (c1 ?_) b9)))
  all_goals exact a7z
 have k3:=mt b0T.mpr h3
 refine R6 ?_
 refine zcd (fun h4=>?_) (fun h4=>?_)
 ·have k4:=b0O.mp h4
  refine zgo ?_
  refine c6 (g8 rfl rfl rfl rfl (a7 (A7 rfl ?_) (a7 (c1 ?_) b9)))
  all_goals exact a7z
 have k4:=mt b0O.mpr h4
 refine R6 ?_
 refine zcd (fun h5=>?_) (fun h5=>?_)
 ·have k5:=b0U.mp h5
  have hn:=O8 (k:=m3 w) (by omega)
  rw [hl] at hn
  refine zgo ?_
  refine c6 (g8 rfl rfl rfl rfl (a7 (A7 rfl ?_) (a7 (c1 ?_) b9)))
  all_goals exact a7z
 have k5:=mt b0U.mpr h5
 refine R6 ?_
 refine zcd (fun h6=>?_) (fun h6=>?_)
 ·have k6:=b0V.mp h6
  have hn:=O8 (k:=m3 w) (by omega)
  rw [hl] at hn
  refine zgo ?_
  refine c6 (g8 rfl rfl rfl rfl (a7 (A7 rfl ?_) (a7 (c1 ?_) b9)))
  all_goals exact a7z
 have k6:=mt b0V.mpr h6
 refine R6 ?_
 refine zcd (fun h7=>?_) (fun h7=>?_)
 ·have k7:=a61.mp h7
  have hn:=a62 (k:=m3 w) (by omega)
  rw [hl] at hn
  refine u4 (l4 9 [] mixed b3 rfl rfl (fun r0=>?_) (fun _ h=>h))
  refine a1e ?_
  refine zsa 4 ?_
  refine a1f ?_
  refine b5 (rs:=[7]) b3 rfl (AllB.cons ?_ AllB.nil)
  refine i1 [] rfl rfl ?_
  refine vm9 ?_
  refine zsa 8 ?_
  refine G3 ?_
  refine c6 (g8 rfl rfl rfl rfl (a7 (A7 rfl ?_) (a7 (c1 ?_) b9)))
  all_goals exact a7z
 have k7:=mt a61.mpr h7
 refine zgo ?_
 refine c6 (g8 rfl rfl rfl rfl (a7 (A7 rfl ?_) (a7 (c1 ?_) b9)))
 all_goals exact a7z
end Go.Proofs.YtpfhomblkgmkkaaGreatDoor
set_option maxRecDepth 20000
namespace Go.Proofs.YtpfhomblkgmkkaaGreatDoor
open Go Go.Rf
theorem a0A (l:List Int) (hl:l.length≤1048576) (hn:∀ i,i < l.length→a1c (l.getD i default)):Ctr Tryz.prog 110 [.lst 1 (l.map Rf.r9)] (.one (.v (.string (a4I l)))):=by
 refine Ctr.of (n:=24) G Tryz.func110 rfl b3 rfl rfl rfl (fun w0=>?_)
 refine zcd (fun h1=>?_) (fun h1=>?_)
 ·have hE:=b71 (l:=l) (by omega)
  refine zf1 ?_
  all_goals exact b5l
 have hJ:=c1Y (l:=l) (by omega)
 refine b14 ?_
 refine zgo ?_
 refine i7 [10,11] [] (fun (i:Nat)=>[(3,.own 0),(12,.v (.int .i64 (i:Int)))]) (fun (i:Nat)=>[(0,some (.row 9 1 ((a9s l i).map a6N)))]) (fun (i:Nat)=>i≤l.length) (fun (i:Nat)=>l.length - i) 0 rfl rfl ?_ ?_ ?_ ?_
 ·exact Nat.zero_le _
 ·exact ⟨⟨_,rfl,by rfl⟩,rfl,⟨⟨_,rfl,by rfl⟩,rfl,trivial⟩⟩
 ·exact ⟨⟨_,rfl,by rfl⟩,rfl,rfl,trivial⟩
 intro i hi
 have hpl:=@b3a l i
 simp only [List.cons_append,List.nil_append]
 refine zcd (fun h2=>?_) (fun h2=>?_)
 ·obtain ⟨hn1,hn2⟩:=hn i (by omega)
  refine zcl (B5 (l.getD i default) (by omega) (by omega)) ?_
  refine o9 ?_
  refine b4f ?_
  refine o9 ?_
  refine vm7 ?_
  refine zgo ?_
  refine ⟨(i+1),?_,?_,⟨⟨_,rfl,by rfl⟩,rfl,⟨⟨_,rfl,by rfl⟩,rfl,trivial⟩⟩,⟨⟨_,rfl,by (rw [b6d (by omega),List.map_append];rfl)⟩,rfl,rfl,trivial⟩,rfl,rfl,rfl⟩
  ·omega
  omega
 obtain rfl:i=l.length:=(by omega)
 refine zcl (a3y (a9s l l.length) (Nat.le_trans b3a hl) (b9L hl hn)) ?_
 refine zf1 ?_
 all_goals exact b5l
theorem a1j (l:List Int) (hl:l.length≤1048576) (hn:∀ i,i < l.length→a1c (l.getD i default)):Ctr Tryz.prog 97 [.lst 1 (l.map Rf.r9)] (.one (.v (.string (a4I l)))):=by
 refine Ctr.of (n:=27) G Tryz.func97 rfl b3 rfl rfl rfl (fun w0=>?_)
 refine zcd (fun h1=>?_) (fun h1=>?_)
 ·have hE:=b71 (l:=l) (by omega)
  refine zf1 ?_
  all_goals exact b5l
 have hJ:=b72 (l:=l) (by omega)
 obtain ⟨hn1,hn2⟩:=hn 0 (by omega)
 refine zcl (y7 (l.getD 0 default) (by omega) (by omega)) ?_
 refine zgo ?_
 refine i7 [0] [] (fun (i:Nat)=>[(3,.v (.string (jnS (b1Q l) i))),(4,.v (.int .i64 (i:Int)))]) (fun (i:Nat)=>[]) (fun (i:Nat)=>1≤i∧i≤l.length) (fun (i:Nat)=>l.length - i) 1 rfl rfl ?_ ?_ ?_ ?_
 ·exact ⟨Nat.le_refl _,by omega⟩
 ·exact ⟨⟨_,rfl,by (first | rfl | (rw [b4U,a16 (by omega)];first | done | rfl))⟩,rfl,⟨⟨_,rfl,by (first | rfl | (rw [b4U,a16 (by omega)];first | done | rfl))⟩,rfl,trivial⟩⟩
 ·exact trivial
 intro i hi
 simp only [List.cons_append,List.nil_append]
 refine zcd (fun h2=>?_) (fun h2=>?_)
 ·obtain ⟨hn3,hn4⟩:=hn i (by omega)
  have hz:=b0K hn i (by omega)
  have hzn:=z8 (n:=l.getD i default) (by omega) hn4
  refine vm5 ?_
  refine b13 ?_
  refine zcl (y7 (l.getD i default) (by omega) (by omega)) ?_
  refine o9 ?_
  refine b13 ?_
  refine zgo ?_
  refine ⟨(i+1),?_,?_,⟨⟨_,rfl,by (first | rfl | (rw [a50 (by omega),a16 (by omega)];first | done | rfl))⟩,rfl,⟨⟨_,rfl,by (first | rfl | (rw [a50 (by omega),a16 (by omega)];first | done | rfl))⟩,rfl,trivial⟩⟩,trivial,rfl,rfl,rfl⟩
  ·exact ⟨by omega,by omega⟩
  omega
 obtain rfl:i=l.length:=(by omega)
 refine zf1 ?_
 all_goals exact b5l
theorem a7a (sl:List Slot) (hF:SlF sl):Ctr Tryz.prog 116 [.lst 3 (sl.map j8)] (.one (.v (.string (a4k sl)))):=by
 have hl4:=hF.len
 have hcs:(⟨#[45,112,97,98]⟩:ByteArray).size=4:=rfl
 refine Ctr.of (n:=40) G Tryz.func116 rfl b3 rfl rfl rfl (fun w0=>?_)
 refine b14 ?_
 refine zgo ?_
 refine i7 [8,9] [] (fun (i:Nat)=>[(3,.own 0),(10,.v (.int .i64 (i:Int)))]) (fun (i:Nat)=>[(0,some (.row 9 1 ((a54 sl i).map a6N)))]) (fun (i:Nat)=>i≤sl.length) (fun (i:Nat)=>sl.length - i) 0 rfl rfl ?_ ?_ ?_ ?_
 ·exact Nat.zero_le _
 ·exact ⟨⟨_,rfl,by rfl⟩,rfl,⟨⟨_,rfl,by rfl⟩,rfl,trivial⟩⟩
 ·exact ⟨⟨_,rfl,by rfl⟩,rfl,rfl,trivial⟩
 intro i hi
 have hpl:=@b3b sl i
 simp only [List.cons_append,List.nil_append]
 refine zcd (fun h1=>?_) (fun h1=>?_)
 ·have hs3:=hF.s03 (i:=i) (by omega)
  have hlb:=@a6Y (sl.getD i default).s
  rw [a52] at hlb
  refine vm5 ?_
  refine a95 ?_
  refine b8Q ?_
  refine zcd (fun h2=>?_) (fun h2=>?_)
  ·have hnm:=hF.nums (i:=i) (by omega) (by omega)
   refine zgd ?_
   refine zcl (B5 (sl.getD i default).q (by omega) (by omega)) ?_
   refine b6m ?_
   refine zcl (B5 (sl.getD i default).p (by omega) (by omega)) ?_
   refine b6m ?_
   refine b6m ?_
   refine vm5 ?_
   refine b8S ?_
   refine o9 ?_
   refine vm7 ?_
   refine zgo ?_
   refine ⟨(i+1),?_,?_,⟨⟨_,rfl,by rfl⟩,rfl,⟨⟨_,rfl,by rfl⟩,rfl,trivial⟩⟩,⟨⟨_,rfl,by (first | (rw [b73 (by omega) (by omega),List.map_append];rfl) | (rw [b74 (by omega) (by omega),List.map_append];rfl))⟩,rfl,rfl,trivial⟩,rfl,rfl,rfl⟩
   ·omega
   omega
  refine vm5 ?_
  refine b8S ?_
  refine o9 ?_
  refine vm7 ?_
  refine zgo ?_
  refine ⟨(i+1),?_,?_,⟨⟨_,rfl,by rfl⟩,rfl,⟨⟨_,rfl,by rfl⟩,rfl,trivial⟩⟩,⟨⟨_,rfl,by (first | (rw [b73 (by omega) (by omega),List.map_append];rfl) | (rw [b74 (by omega) (by omega),List.map_append];rfl))⟩,rfl,rfl,trivial⟩,rfl,rfl,rfl⟩
  ·omega
  omega
 obtain rfl:i=sl.length:=(by omega)
 have hJ:=@b75 sl
 refine zcl (a3y (a54 sl sl.length) (Nat.le_trans b3b (by omega)) (b9M (by omega) (c0B hF))) ?_
 refine zf1 ?_
 all_goals (first | (rw [hJ];done))
theorem b0g (sl:List Slot) (hF:SlF sl):Ctr Tryz.prog 146 [.lst 3 (sl.map j8)] (.one (.v (.string (a4k sl)))):=by
 have hl4:=hF.len
 have hcs:(⟨#[45,112,97,98]⟩:ByteArray).size=4:=rfl
 refine Ctr.of (n:=46) G Tryz.func146 rfl b3 rfl rfl rfl (fun w0=>?_)
 refine zgo ?_
 refine i7 [0] [] (fun (i:Nat)=>[(3,.v (.string (jnS (a2C sl) i))),(4,.v (.int .i64 (i:Int)))]) (fun (i:Nat)=>[]) (fun (i:Nat)=>i≤sl.length) (fun (i:Nat)=>sl.length - i) 0 rfl rfl ?_ ?_ ?_ ?_
 ·exact Nat.zero_le _
 ·exact ⟨⟨_,rfl,by rfl⟩,rfl,⟨⟨_,rfl,by rfl⟩,rfl,trivial⟩⟩
 ·exact trivial
 intro i hi
 simp only [List.cons_append,List.nil_append]
 refine zcd (fun h1=>?_) (fun h1=>?_)
 ·have hs3:=hF.s03 (i:=i) (by omega)
  have hlb:=@a6Y (sl.getD i default).s
  rw [a52] at hlb
  have hz:=b0L (c0B hF) i (by omega)
  refine zcd (fun h2=>?_) (fun h2=>?_)
  ·refine vm5 ?_
   refine b13 ?_
   refine b8Q ?_
   refine o9 ?_
   refine b13 ?_
   refine zcd (fun h3=>?_) (fun h3=>?_)
   ·have hnm:=hF.nums (i:=i) (by omega) (by omega)
    refine c38 ?_
    refine ⟨(i+1),?_,?_,⟨⟨_,rfl,by (first | rfl | (rw [b3c (by omega) (by omega) (by omega)];rfl) | (rw [b3d (by omega) (by omega) (by omega)];rfl) | (rw [b3e (by omega) (by omega) (by omega)];rfl) | (rw [b3f (by omega) (by omega) (by omega)];rfl))⟩,rfl,⟨⟨_,rfl,by (first | rfl | (rw [b3c (by omega) (by omega) (by omega)];rfl) | (rw [b3d (by omega) (by omega) (by omega)];rfl) | (rw [b3e (by omega) (by omega) (by omega)];rfl) | (rw [b3f (by omega) (by omega) (by omega)];rfl))⟩,rfl,trivial⟩⟩,trivial,rfl,rfl,rfl⟩
    ·omega
    omega
   refine zgo ?_
   refine ⟨(i+1),?_,?_,⟨⟨_,rfl,by (first | rfl | (rw [b3c (by omega) (by omega) (by omega)];rfl) | (rw [b3d (by omega) (by omega) (by omega)];rfl) | (rw [b3e (by omega) (by omega) (by omega)];rfl) | (rw [b3f (by omega) (by omega) (by omega)];rfl))⟩,rfl,⟨⟨_,rfl,by (first | rfl | (rw [b3c (by omega) (by omega) (by omega)];rfl) | (rw [b3d (by omega) (by omega) (by omega)];rfl) | (rw [b3e (by omega) (by omega) (by omega)];rfl) | (rw [b3f (by omega) (by omega) (by omega)];rfl))⟩,rfl,trivial⟩⟩,trivial,rfl,rfl,rfl⟩
   ·omega
   omega
  refine b8Q ?_
  refine o9 ?_
  refine b13 ?_
  refine zcd (fun h4=>?_) (fun h4=>?_)
  ·have hnm:=hF.nums (i:=i) (by omega) (by omega)
   refine c38 ?_
   refine ⟨(i+1),?_,?_,⟨⟨_,rfl,by (first | rfl | (rw [b3c (by omega) (by omega) (by omega)];rfl) | (rw [b3d (by omega) (by omega) (by omega)];rfl) | (rw [b3e (by omega) (by omega) (by omega)];rfl) | (rw [b3f (by omega) (by omega) (by omega)];rfl))⟩,rfl,⟨⟨_,rfl,by (first | rfl | (rw [b3c (by omega) (by omega) (by omega)];rfl) | (rw [b3d (by omega) (by omega) (by omega)];rfl) | (rw [b3e (by omega) (by omega) (by omega)];rfl) | (rw [b3f (by omega) (by omega) (by omega)];rfl))⟩,rfl,trivial⟩⟩,trivial,rfl,rfl,rfl⟩
   ·omega
   omega
  refine zgo ?_
  refine ⟨(i+1),?_,?_,⟨⟨_,rfl,by (first | rfl | (rw [b3c (by omega) (by omega) (by omega)];rfl) | (rw [b3d (by omega) (by omega) (by omega)];rfl) | (rw [b3e (by omega) (by omega) (by omega)];rfl) | (rw [b3f (by omega) (by omega) (by omega)];rfl))⟩,rfl,⟨⟨_,rfl,by (first | rfl | (rw [b3c (by omega) (by omega) (by omega)];rfl) | (rw [b3d (by omega) (by omega) (by omega)];rfl) | (rw [b3e (by omega) (by omega) (by omega)];rfl) | (rw [b3f (by omega) (by omega) (by omega)];rfl))⟩,rfl,trivial⟩⟩,trivial,rfl,rfl,rfl⟩
  ·omega
  omega
 obtain rfl:i=sl.length:=(by omega)
 have hJ:jnS (a2C sl) sl.length=a4k sl:=(by rw [a4k,jnA,a1d])
 refine zf1 ?_
 all_goals (first | (rw [hJ];done))
end Go.Proofs.YtpfhomblkgmkkaaGreatDoor
set_option maxRecDepth 20000
namespace Go.Proofs.YtpfhomblkgmkkaaGreatDoor
open Go Go.Rf
theorem a7b (rs:List Route) (a:Abs) (c:Nat) (hF:AbsF rs a) (hc:c < a.ma.length):Ctr Tryz.prog 117 [.lst 2 (rs.map p8),.agg [.lst 1 (a.en.map r3),.lst 1 (a.ra.map r3),.lst 1 (a.po.map r3),.lst 1 (a.ma.map Rf.r9),.nst none 1 (a.st.map a5D)],.v (.int .i64 (c:Int))] (.one (.v (.int .i64 (D9 rs a c)))):=by
 have f0:=hF.n
 have f1:=hF.rn
 have f2:=hF.st
 have f3:=hF.en
 have f4:=hF.ra
 have f5:=hF.po
 have fl:=hF.len c hc
 have fe:=hF.el c hc
 have fm:=hF.rt
 have ftn:(((a.st.getD c default).length:Int) - 1).toNat=(a.st.getD c default).length - 1:=(by omega)
 have ft:0 < (a.st.getD c default).length→0≤(a.st.getD c default).getD (((a.st.getD c default).length:Int) - 1).toNat default∧(a.st.getD c default).getD (((a.st.getD c default).length:Int) - 1).toNat default≤7:=fun h0=>(by rw [ftn];exact fe _ (by omega))
 refine Ctr.of (n:=69) G Tryz.func117 rfl b3 rfl rfl rfl (fun w0=>?_)
 refine o7 1 rfl (fun _=>rfl) (fun u1=>?_)
 refine vm1 ?_
 refine zgd ?_
 refine zgo ?_
 refine m4 rfl (u9 rfl rfl (S2 G rfl rfl rfl rfl) ?_)
 refine zcd (fun h1=>?_) (fun h1=>?_)
 ·refine zf1 ?_
  all_goals exact b8I
 refine zcd (fun h2=>?_) (fun h2=>?_)
 ·refine vm5 ?_
  refine b6 rfl rfl (b6B rfl rfl rfl) ?_
  refine zgo ?_
  refine i7 [2,4,40,41] [0] (fun (i:Nat)=>[(8,.v (.int .i64 (D8 rs a c (a9c rs a c) i).2)),(9,.v (.int .i64 (D8 rs a c (a9c rs a c) i).1)),(42,.v (.int .i64 (i:Int)))]) (fun (i:Nat)=>[]) (fun (i:Nat)=>i≤rs.length) (fun (i:Nat)=>rs.length - i) 0 rfl rfl ?_ ?_ ?_ ?_
  ·exact Nat.zero_le _
  ·exact ⟨⟨_,rfl,by first | rfl | (simp only [D8];rw [a6U (by omega)];done) | (simp only [D8];rw [a6T (by omega)];done)⟩,rfl,⟨⟨_,rfl,by first | rfl | (simp only [D8];rw [a6U (by omega)];done) | (simp only [D8];rw [a6T (by omega)];done)⟩,rfl,⟨⟨_,rfl,by first | rfl | (simp only [D8];rw [a6U (by omega)];done) | (simp only [D8];rw [a6T (by omega)];done)⟩,rfl,trivial⟩⟩⟩
  ·exact trivial
  intro i hinv
  simp only [List.cons_append,List.nil_append]
  refine zcd (fun h3=>?_) (fun h3=>?_)
  ·refine vm5 ?_
   refine a95 ?_
   refine zcd (fun h4=>?_) (fun h4=>?_)
   ·refine zcd (fun h5=>?_) (fun h5=>?_)
    ·refine zcd (fun h6=>?_) (fun h6=>?_)
     ·refine zgd ?_
      refine zgo ?_
      refine ⟨(i+1),?_,?_,⟨⟨_,rfl,by first | rfl | (rw [A2 c8 c8 c8];done) | (rw [p9 C2];done) | (rw [p9 C0];done)⟩,rfl,⟨⟨_,rfl,by first | rfl | (rw [A2 c8 c8 c8];done) | (rw [p9 C2];done) | (rw [p9 C0];done)⟩,rfl,⟨⟨_,rfl,by first | rfl | (rw [A2 c8 c8 c8];done) | (rw [p9 C2];done) | (rw [p9 C0];done)⟩,rfl,trivial⟩⟩⟩,trivial,rfl,rfl,rfl⟩
      ·omega
      omega
     refine zgo ?_
     refine ⟨(i+1),?_,?_,⟨⟨_,rfl,by first | rfl | (rw [A2 c8 c8 c8];done) | (rw [p9 C2];done) | (rw [p9 C0];done)⟩,rfl,⟨⟨_,rfl,by first | rfl | (rw [A2 c8 c8 c8];done) | (rw [p9 C2];done) | (rw [p9 C0];done)⟩,rfl,⟨⟨_,rfl,by first | rfl | (rw [A2 c8 c8 c8];done) | (rw [p9 C2];done) | (rw [p9 C0];done)⟩,rfl,trivial⟩⟩⟩,trivial,rfl,rfl,rfl⟩
     ·omega
     omega
    refine zwf ?_
    refine zgo ?_
    refine ⟨(i+1),?_,?_,⟨⟨_,rfl,by first | rfl | (rw [A2 c8 c8 c8];done) | (rw [p9 C2];done) | (rw [p9 C0];done)⟩,rfl,⟨⟨_,rfl,by first | rfl | (rw [A2 c8 c8 c8];done) | (rw [p9 C2];done) | (rw [p9 C0];done)⟩,rfl,⟨⟨_,rfl,by first | rfl | (rw [A2 c8 c8 c8];done) | (rw [p9 C2];done) | (rw [p9 C0];done)⟩,rfl,trivial⟩⟩⟩,trivial,rfl,rfl,rfl⟩
    ·omega
    omega
   refine zwf ?_
   refine zgo ?_
   refine ⟨(i+1),?_,?_,⟨⟨_,rfl,by first | rfl | (rw [A2 c8 c8 c8];done) | (rw [p9 C2];done) | (rw [p9 C0];done)⟩,rfl,⟨⟨_,rfl,by first | rfl | (rw [A2 c8 c8 c8];done) | (rw [p9 C2];done) | (rw [p9 C0];done)⟩,rfl,⟨⟨_,rfl,by first | rfl | (rw [A2 c8 c8 c8];done) | (rw [p9 C2];done) | (rw [p9 C0];done)⟩,rfl,trivial⟩⟩⟩,trivial,rfl,rfl,rfl⟩
   ·omega
   omega
  refine zf1 ?_
  all_goals exact b8I
 refine zgo ?_
 refine i7 [2,4,40,41] [0] (fun (i:Nat)=>[(8,.v (.int .i64 (D8 rs a c (a9c rs a c) i).2)),(9,.v (.int .i64 (D8 rs a c (a9c rs a c) i).1)),(42,.v (.int .i64 (i:Int)))]) (fun (i:Nat)=>[]) (fun (i:Nat)=>i≤rs.length) (fun (i:Nat)=>rs.length - i) 0 rfl rfl ?_ ?_ ?_ ?_
 ·exact Nat.zero_le _
 ·exact ⟨⟨_,rfl,by first | rfl | (simp only [D8];rw [a6U (by omega)];done) | (simp only [D8];rw [a6T (by omega)];done)⟩,rfl,⟨⟨_,rfl,by first | rfl | (simp only [D8];rw [a6U (by omega)];done) | (simp only [D8];rw [a6T (by omega)];done)⟩,rfl,⟨⟨_,rfl,by first | rfl | (simp only [D8];rw [a6U (by omega)];done) | (simp only [D8];rw [a6T (by omega)];done)⟩,rfl,trivial⟩⟩⟩
 ·exact trivial
 intro i hinv
 simp only [List.cons_append,List.nil_append]
 refine zcd (fun h7=>?_) (fun h7=>?_)
 ·refine vm5 ?_
  refine a95 ?_
  refine zcd (fun h8=>?_) (fun h8=>?_)
  ·refine zcd (fun h9=>?_) (fun h9=>?_)
   ·refine zcd (fun h10=>?_) (fun h10=>?_)
    ·refine zgd ?_
     refine zgo ?_
     refine ⟨(i+1),?_,?_,⟨⟨_,rfl,by first | rfl | (rw [A2 c8 c8 c8];done) | (rw [p9 C2];done) | (rw [p9 C0];done)⟩,rfl,⟨⟨_,rfl,by first | rfl | (rw [A2 c8 c8 c8];done) | (rw [p9 C2];done) | (rw [p9 C0];done)⟩,rfl,⟨⟨_,rfl,by first | rfl | (rw [A2 c8 c8 c8];done) | (rw [p9 C2];done) | (rw [p9 C0];done)⟩,rfl,trivial⟩⟩⟩,trivial,rfl,rfl,rfl⟩
     ·omega
     omega
    refine zgo ?_
    refine ⟨(i+1),?_,?_,⟨⟨_,rfl,by first | rfl | (rw [A2 c8 c8 c8];done) | (rw [p9 C2];done) | (rw [p9 C0];done)⟩,rfl,⟨⟨_,rfl,by first | rfl | (rw [A2 c8 c8 c8];done) | (rw [p9 C2];done) | (rw [p9 C0];done)⟩,rfl,⟨⟨_,rfl,by first | rfl | (rw [A2 c8 c8 c8];done) | (rw [p9 C2];done) | (rw [p9 C0];done)⟩,rfl,trivial⟩⟩⟩,trivial,rfl,rfl,rfl⟩
    ·omega
    omega
   refine zwf ?_
   refine zgo ?_
   refine ⟨(i+1),?_,?_,⟨⟨_,rfl,by first | rfl | (rw [A2 c8 c8 c8];done) | (rw [p9 C2];done) | (rw [p9 C0];done)⟩,rfl,⟨⟨_,rfl,by first | rfl | (rw [A2 c8 c8 c8];done) | (rw [p9 C2];done) | (rw [p9 C0];done)⟩,rfl,⟨⟨_,rfl,by first | rfl | (rw [A2 c8 c8 c8];done) | (rw [p9 C2];done) | (rw [p9 C0];done)⟩,rfl,trivial⟩⟩⟩,trivial,rfl,rfl,rfl⟩
   ·omega
   omega
  refine zwf ?_
  refine zgo ?_
  refine ⟨(i+1),?_,?_,⟨⟨_,rfl,by first | rfl | (rw [A2 c8 c8 c8];done) | (rw [p9 C2];done) | (rw [p9 C0];done)⟩,rfl,⟨⟨_,rfl,by first | rfl | (rw [A2 c8 c8 c8];done) | (rw [p9 C2];done) | (rw [p9 C0];done)⟩,rfl,⟨⟨_,rfl,by first | rfl | (rw [A2 c8 c8 c8];done) | (rw [p9 C2];done) | (rw [p9 C0];done)⟩,rfl,trivial⟩⟩⟩,trivial,rfl,rfl,rfl⟩
  ·omega
  omega
 refine zf1 ?_
 all_goals exact b8I
theorem a9P (rs:List Route) (a:Abs) (c:Nat) (hF:AbsF rs a) (hc:c < a.ma.length):Ctr Tryz.prog 144 [.lst 2 (rs.map p8),.agg [.lst 1 (a.en.map r3),.lst 1 (a.ra.map r3),.lst 1 (a.po.map r3),.lst 1 (a.ma.map Rf.r9),.nst none 1 (a.st.map a5D)],.v (.int .i64 (c:Int))] (.one (.v (.int .i64 (D9 rs a c)))):=by
 have f0:=hF.n
 have f1:=hF.rn
 have f2:=hF.st
 have f3:=hF.en
 have f4:=hF.ra
 have f5:=hF.po
 have fl:=hF.len c hc
 have fe:=hF.el c hc
 have fm:=hF.rt
 have ftn:(((a.st.getD c default).length:Int) - 1).toNat=(a.st.getD c default).length - 1:=(by omega)
 have ft:0 < (a.st.getD c default).length→0≤(a.st.getD c default).getD (((a.st.getD c default).length:Int) - 1).toNat default∧(a.st.getD c default).getD (((a.st.getD c default).length:Int) - 1).toNat default≤7:=fun h0=>(by rw [ftn];exact fe _ (by omega))
 refine Ctr.of (n:=97) G Tryz.func144 rfl b3 rfl rfl rfl (fun w0=>?_)
 refine o7 1 rfl (fun _=>rfl) (fun u1=>?_)
 refine vm1 ?_
 refine zgo ?_
 refine i7 [0,2,4] [0] (fun (i:Nat)=>[(7,.v (.int .i64 (w9 rs a c i))),(8,.v (.int .i64 (i:Int)))]) (fun (i:Nat)=>[]) (fun (i:Nat)=>i≤8) (fun (i:Nat)=>8 - i) 0 rfl rfl ?_ ?_ ?_ ?_
 ·exact Nat.zero_le _
 ·exact ⟨⟨_,rfl,by (first | rfl | (simp;done) | (simp;omega))⟩,rfl,⟨⟨_,rfl,by (first | rfl | (simp;done) | (simp;omega))⟩,rfl,trivial⟩⟩
 ·exact trivial
 intro i hinv
 have hbl:=@a5E rs a c i
 simp only [List.cons_append,List.nil_append]
 refine zcd (fun h1=>?_) (fun h1=>?_)
 ·refine zgd ?_
  refine zcd (fun h2=>?_) (fun h2=>?_)
  ·refine zcd (fun h3=>?_) (fun h3=>?_)
   ·refine zcd (fun h4=>?_) (fun h4=>?_)
    ·refine zwt ?_
     refine zgo ?_
     refine ⟨(i+1),?_,?_,⟨⟨_,rfl,by first | rfl | (rw [Z6 c8 c8 (by omega)];done) | (rw [w5 C2];done) | (rw [w5 C0];done)| (rw [w5 (fun _ _=>(by omega))];done)⟩,rfl,⟨⟨_,rfl,by first | rfl | (rw [Z6 c8 c8 (by omega)];done) | (rw [w5 C2];done) | (rw [w5 C0];done)| (rw [w5 (fun _ _=>(by omega))];done)⟩,rfl,trivial⟩⟩,trivial,rfl,rfl,rfl⟩
     ·omega
     omega
    refine zcd (fun h5=>?_) (fun h5=>?_)
    ·refine zgo ?_
     refine ⟨(i+1),?_,?_,⟨⟨_,rfl,by first | rfl | (rw [Z6 c8 c8 (by omega)];done) | (rw [w5 C2];done) | (rw [w5 C0];done)| (rw [w5 (fun _ _=>(by omega))];done)⟩,rfl,⟨⟨_,rfl,by first | rfl | (rw [Z6 c8 c8 (by omega)];done) | (rw [w5 C2];done) | (rw [w5 C0];done)| (rw [w5 (fun _ _=>(by omega))];done)⟩,rfl,trivial⟩⟩,trivial,rfl,rfl,rfl⟩
     ·omega
     omega
    refine zgo ?_
    refine ⟨(i+1),?_,?_,⟨⟨_,rfl,by first | rfl | (rw [Z6 c8 c8 (by omega)];done) | (rw [w5 C2];done) | (rw [w5 C0];done)| (rw [w5 (fun _ _=>(by omega))];done)⟩,rfl,⟨⟨_,rfl,by first | rfl | (rw [Z6 c8 c8 (by omega)];done) | (rw [w5 C2];done) | (rw [w5 C0];done)| (rw [w5 (fun _ _=>(by omega))];done)⟩,rfl,trivial⟩⟩,trivial,rfl,rfl,rfl⟩
    ·omega
    omega
   refine zwf ?_
   refine zgo ?_
   refine ⟨(i+1),?_,?_,⟨⟨_,rfl,by first | rfl | (rw [Z6 c8 c8 (by omega)];done) | (rw [w5 C2];done) | (rw [w5 C0];done)| (rw [w5 (fun _ _=>(by omega))];done)⟩,rfl,⟨⟨_,rfl,by first | rfl | (rw [Z6 c8 c8 (by omega)];done) | (rw [w5 C2];done) | (rw [w5 C0];done)| (rw [w5 (fun _ _=>(by omega))];done)⟩,rfl,trivial⟩⟩,trivial,rfl,rfl,rfl⟩
   ·omega
   omega
  refine zwf ?_
  refine zgo ?_
  refine ⟨(i+1),?_,?_,⟨⟨_,rfl,by first | rfl | (rw [Z6 c8 c8 (by omega)];done) | (rw [w5 C2];done) | (rw [w5 C0];done)| (rw [w5 (fun _ _=>(by omega))];done)⟩,rfl,⟨⟨_,rfl,by first | rfl | (rw [Z6 c8 c8 (by omega)];done) | (rw [w5 C2];done) | (rw [w5 C0];done)| (rw [w5 (fun _ _=>(by omega))];done)⟩,rfl,trivial⟩⟩,trivial,rfl,rfl,rfl⟩
  ·omega
  omega
 refine vm5 ?_
 refine b6o ?_
 refine zgd ?_
 refine zcd (fun h6=>?_) (fun h6=>?_)
 ·refine H3 ?_
  all_goals exact b04
 refine zcd (fun h7=>?_) (fun h7=>?_)
 ·refine H3 ?_
  all_goals exact b04
 refine zcd (fun h8=>?_) (fun h8=>?_)
 ·refine H3 ?_
  all_goals exact b04
 refine zcd (fun h9=>?_) (fun h9=>?_)
 ·refine zgo ?_
  refine a97 ?_
  refine u9 rfl rfl (S2 G rfl rfl rfl rfl) ?_
  refine zcd (fun h10=>?_) (fun h10=>?_)
  ·refine zf1 ?_
   all_goals exact b04
  refine zf1 ?_
  all_goals exact b04
 refine zwf ?_
 refine zf1 ?_
 all_goals exact b04
end Go.Proofs.YtpfhomblkgmkkaaGreatDoor
