/- Texts merged into one: W4, W5, M1, M2. -/
import Derived.Test.YtcnodpipinlpcaaGreatPFnAbstractStepsA
set_option maxHeartbeats 4000000
set_option linter.unusedSimpArgs false
set_option linter.unusedVariables false
set_option maxRecDepth 20000
namespace Go.Proofs.YtcnodpipinlpcaaGreat
open Go Go.Rf
theorem Q0 (rs:List Route) (a:Abs) (c:Nat) (hF:AbsF rs a) (hc:c < a.ma.length):Ctr Tryz.prog 66 [.lst 2 (rs.map u7),.agg [.lst 1 (a.en.map l0),.lst 1 (a.ra.map l0),.lst 1 (a.po.map l0),.lst 1 (a.ma.map Rf.r5),.nst none 1 (a.st.map s1)],.v (.int .i64 (c:Int))] (.one (.v (.int .i64 (z7 rs a c)))):=by
 have f0:=hF.n
 have f1:=hF.rn
 have f2:=hF.st
 have f3:=hF.en
 have f4:=hF.ra
 have f5:=hF.po
 have fl:=hF.len c hc
 have fe:=hF.el c hc
 have fm:=hF.rt
 have ftn:(((a.st.getD c default).length:Int) - 1).toNat=(a.st.getD c default).length - 1:=(by omega)
 have ft:0 < (a.st.getD c default).length→0≤(a.st.getD c default).getD (((a.st.getD c default).length:Int) - 1).toNat default∧(a.st.getD c default).getD (((a.st.getD c default).length:Int) - 1).toNat default≤7:=fun h0=>(by rw [ftn];exact fe _ (by omega))
 refine Ctr.of (n:=69) G Tryz.func66 rfl b5 rfl rfl rfl (fun w0=>?_)
 refine r8 1 rfl (fun _=>rfl) (fun u1=>?_)
 refine zgo ?_
 refine vm6 ?_
 refine zgd ?_
 refine zgo ?_
 refine d6 rfl ?_
 refine b2f ?_
 refine zcd (fun h1=>?_) (fun h1=>?_)
 ·refine zf1 ?_
  all_goals exact b3W
 refine zcd (fun h2=>?_) (fun h2=>?_)
 ·refine F6 ?_
  refine a3 rfl rfl (b2G rfl rfl rfl) ?_
  refine zgo ?_
  refine m4 [2,4,40,41] [0] (fun (i:Nat)=>[(8,.v (.int .i64 (B6 rs a c (a48 rs a c) i).2)),(9,.v (.int .i64 (B6 rs a c (a48 rs a c) i).1)),(42,.v (.int .i64 (i:Int)))]) (fun (i:Nat)=>[]) (fun (i:Nat)=>i≤rs.length) (fun (i:Nat)=>rs.length - i) 0 rfl rfl ?_ ?_ ?_ ?_
  ·exact Nat.zero_le _
  ·exact ⟨⟨_,rfl,by first | rfl | (simp only [B6];rw [a3F (by omega)];done) | (simp only [B6];rw [a3E (by omega)];done)⟩,rfl,⟨⟨_,rfl,by first | rfl | (simp only [B6];rw [a3F (by omega)];done) | (simp only [B6];rw [a3E (by omega)];done)⟩,rfl,⟨⟨_,rfl,by first | rfl | (simp only [B6];rw [a3F (by omega)];done) | (simp only [B6];rw [a3E (by omega)];done)⟩,rfl,trivial⟩⟩⟩
  ·exact trivial
  intro i hinv
  simp only [List.cons_append,List.nil_append]
  refine zcd (fun h3=>?_) (fun h3=>?_)
  ·refine zgo ?_
   refine vm9 ?_
   refine zcd (fun h4=>?_) (fun h4=>?_)
   ·refine zcd (fun h5=>?_) (fun h5=>?_)
    ·refine zcd (fun h6=>?_) (fun h6=>?_)
     ·refine zgd ?_
      refine zgo ?_
      refine ⟨(i+1),?_,?_,⟨⟨_,rfl,by first | rfl | (rw [y0 d8 d8 d8];done) | (rw [p5 I6];done) | (rw [p5 I5];done)⟩,rfl,⟨⟨_,rfl,by first | rfl | (rw [y0 d8 d8 d8];done) | (rw [p5 I6];done) | (rw [p5 I5];done)⟩,rfl,⟨⟨_,rfl,by first | rfl | (rw [y0 d8 d8 d8];done) | (rw [p5 I6];done) | (rw [p5 I5];done)⟩,rfl,trivial⟩⟩⟩,trivial,rfl,rfl,rfl⟩
      ·omega
      omega
     refine zgo ?_
     refine ⟨(i+1),?_,?_,⟨⟨_,rfl,by first | rfl | (rw [y0 d8 d8 d8];done) | (rw [p5 I6];done) | (rw [p5 I5];done)⟩,rfl,⟨⟨_,rfl,by first | rfl | (rw [y0 d8 d8 d8];done) | (rw [p5 I6];done) | (rw [p5 I5];done)⟩,rfl,⟨⟨_,rfl,by first | rfl | (rw [y0 d8 d8 d8];done) | (rw [p5 I6];done) | (rw [p5 I5];done)⟩,rfl,trivial⟩⟩⟩,trivial,rfl,rfl,rfl⟩
     ·omega
     omega
    refine zwf ?_
    refine zgo ?_
    refine ⟨(i+1),?_,?_,⟨⟨_,rfl,by first | rfl | (rw [y0 d8 d8 d8];done) | (rw [p5 I6];done) | (rw [p5 I5];done)⟩,rfl,⟨⟨_,rfl,by first | rfl | (rw [y0 d8 d8 d8];done) | (rw [p5 I6];done) | (rw [p5 I5];done)⟩,rfl,⟨⟨_,rfl,by first | rfl | (rw [y0 d8 d8 d8];done) | (rw [p5 I6];done) | (rw [p5 I5];done)⟩,rfl,trivial⟩⟩⟩,trivial,rfl,rfl,rfl⟩
    ·omega
    omega
   refine zwf ?_
   refine zgo ?_
   refine ⟨(i+1),?_,?_,⟨⟨_,rfl,by first | rfl | (rw [y0 d8 d8 d8];done) | (rw [p5 I6];done) | (rw [p5 I5];done)⟩,rfl,⟨⟨_,rfl,by first | rfl | (rw [y0 d8 d8 d8];done) | (rw [p5 I6];done) | (rw [p5 I5];done)⟩,rfl,⟨⟨_,rfl,by first | rfl | (rw [y0 d8 d8 d8];done) | (rw [p5 I6];done) | (rw [p5 I5];done)⟩,rfl,trivial⟩⟩⟩,trivial,rfl,rfl,rfl⟩
   ·omega
   omega
  refine zf1 ?_
  all_goals exact b3W
 refine zgo ?_
 refine m4 [2,4,40,41] [0] (fun (i:Nat)=>[(8,.v (.int .i64 (B6 rs a c (a48 rs a c) i).2)),(9,.v (.int .i64 (B6 rs a c (a48 rs a c) i).1)),(42,.v (.int .i64 (i:Int)))]) (fun (i:Nat)=>[]) (fun (i:Nat)=>i≤rs.length) (fun (i:Nat)=>rs.length - i) 0 rfl rfl ?_ ?_ ?_ ?_
 ·exact Nat.zero_le _
 ·exact ⟨⟨_,rfl,by first | rfl | (simp only [B6];rw [a3F (by omega)];done) | (simp only [B6];rw [a3E (by omega)];done)⟩,rfl,⟨⟨_,rfl,by first | rfl | (simp only [B6];rw [a3F (by omega)];done) | (simp only [B6];rw [a3E (by omega)];done)⟩,rfl,⟨⟨_,rfl,by first | rfl | (simp only [B6];rw [a3F (by omega)];done) | (simp only [B6];rw [a3E (by omega)];done)⟩,rfl,trivial⟩⟩⟩
 ·exact trivial
 intro i hinv
 simp only [List.cons_append,List.nil_append]
 refine zcd (fun h7=>?_) (fun h7=>?_)
 ·refine zgo ?_
  refine vm9 ?_
  refine zcd (fun h8=>?_) (fun h8=>?_)
  ·refine zcd (fun h9=>?_) (fun h9=>?_)
   ·refine zcd (fun h10=>?_) (fun h10=>?_)
    ·refine zgd ?_
     refine zgo ?_
     refine ⟨(i+1),?_,?_,⟨⟨_,rfl,by first | rfl | (rw [y0 d8 d8 d8];done) | (rw [p5 I6];done) | (rw [p5 I5];done)⟩,rfl,⟨⟨_,rfl,by first | rfl | (rw [y0 d8 d8 d8];done) | (rw [p5 I6];done) | (rw [p5 I5];done)⟩,rfl,⟨⟨_,rfl,by first | rfl | (rw [y0 d8 d8 d8];done) | (rw [p5 I6];done) | (rw [p5 I5];done)⟩,rfl,trivial⟩⟩⟩,trivial,rfl,rfl,rfl⟩
     ·omega
     omega
    refine zgo ?_
    refine ⟨(i+1),?_,?_,⟨⟨_,rfl,by first | rfl | (rw [y0 d8 d8 d8];done) | (rw [p5 I6];done) | (rw [p5 I5];done)⟩,rfl,⟨⟨_,rfl,by first | rfl | (rw [y0 d8 d8 d8];done) | (rw [p5 I6];done) | (rw [p5 I5];done)⟩,rfl,⟨⟨_,rfl,by first | rfl | (rw [y0 d8 d8 d8];done) | (rw [p5 I6];done) | (rw [p5 I5];done)⟩,rfl,trivial⟩⟩⟩,trivial,rfl,rfl,rfl⟩
    ·omega
    omega
   refine zwf ?_
   refine zgo ?_
   refine ⟨(i+1),?_,?_,⟨⟨_,rfl,by first | rfl | (rw [y0 d8 d8 d8];done) | (rw [p5 I6];done) | (rw [p5 I5];done)⟩,rfl,⟨⟨_,rfl,by first | rfl | (rw [y0 d8 d8 d8];done) | (rw [p5 I6];done) | (rw [p5 I5];done)⟩,rfl,⟨⟨_,rfl,by first | rfl | (rw [y0 d8 d8 d8];done) | (rw [p5 I6];done) | (rw [p5 I5];done)⟩,rfl,trivial⟩⟩⟩,trivial,rfl,rfl,rfl⟩
   ·omega
   omega
  refine zwf ?_
  refine zgo ?_
  refine ⟨(i+1),?_,?_,⟨⟨_,rfl,by first | rfl | (rw [y0 d8 d8 d8];done) | (rw [p5 I6];done) | (rw [p5 I5];done)⟩,rfl,⟨⟨_,rfl,by first | rfl | (rw [y0 d8 d8 d8];done) | (rw [p5 I6];done) | (rw [p5 I5];done)⟩,rfl,⟨⟨_,rfl,by first | rfl | (rw [y0 d8 d8 d8];done) | (rw [p5 I6];done) | (rw [p5 I5];done)⟩,rfl,trivial⟩⟩⟩,trivial,rfl,rfl,rfl⟩
  ·omega
  omega
 refine zf1 ?_
 all_goals exact b3W
theorem a1u (rs:List Route) (a:Abs) (c:Nat) (hF:AbsF rs a) (hc:c < a.ma.length):Ctr Tryz.prog 68 [.lst 2 (rs.map u7),.agg [.lst 1 (a.en.map l0),.lst 1 (a.ra.map l0),.lst 1 (a.po.map l0),.lst 1 (a.ma.map Rf.r5),.nst none 1 (a.st.map s1)],.v (.int .i64 (c:Int))] (.one (.v (.int .i64 (z7 rs a c)))):=by
 have f0:=hF.n
 have f1:=hF.rn
 have f2:=hF.st
 have f3:=hF.en
 have f4:=hF.ra
 have f5:=hF.po
 have fl:=hF.len c hc
 have fe:=hF.el c hc
 have fm:=hF.rt
 have ftn:(((a.st.getD c default).length:Int) - 1).toNat=(a.st.getD c default).length - 1:=(by omega)
 have ft:0 < (a.st.getD c default).length→0≤(a.st.getD c default).getD (((a.st.getD c default).length:Int) - 1).toNat default∧(a.st.getD c default).getD (((a.st.getD c default).length:Int) - 1).toNat default≤7:=fun h0=>(by rw [ftn];exact fe _ (by omega))
 refine Ctr.of (n:=97) G Tryz.func68 rfl b5 rfl rfl rfl (fun w0=>?_)
 refine r8 1 rfl (fun _=>rfl) (fun u1=>?_)
 refine zgo ?_
 refine vm6 ?_
 refine zgo ?_
 refine m4 [0,2,4] [0] (fun (i:Nat)=>[(7,.v (.int .i64 (s0 rs a c i))),(8,.v (.int .i64 (i:Int)))]) (fun (i:Nat)=>[]) (fun (i:Nat)=>i≤8) (fun (i:Nat)=>8 - i) 0 rfl rfl ?_ ?_ ?_ ?_
 ·exact Nat.zero_le _
 ·exact ⟨⟨_,rfl,by (first | rfl | (simp;done) | (simp;omega))⟩,rfl,⟨⟨_,rfl,by (first | rfl | (simp;done) | (simp;omega))⟩,rfl,trivial⟩⟩
 ·exact trivial
 intro i hinv
 have hbl:=@a0h rs a c i
 simp only [List.cons_append,List.nil_append]
 refine zcd (fun h1=>?_) (fun h1=>?_)
 ·refine zgd ?_
  refine zcd (fun h2=>?_) (fun h2=>?_)
  ·refine zcd (fun h3=>?_) (fun h3=>?_)
   ·refine zcd (fun h4=>?_) (fun h4=>?_)
    ·refine zwt ?_
     refine zgo ?_
     refine ⟨(i+1),?_,?_,⟨⟨_,rfl,by first | rfl | (rw [O1 d8 d8 (by omega)];done) | (rw [t7 I6];done) | (rw [t7 I5];done)| (rw [t7 (fun _ _=>(by omega))];done)⟩,rfl,⟨⟨_,rfl,by first | rfl | (rw [O1 d8 d8 (by omega)];done) | (rw [t7 I6];done) | (rw [t7 I5];done)| (rw [t7 (fun _ _=>(by omega))];done)⟩,rfl,trivial⟩⟩,trivial,rfl,rfl,rfl⟩
     ·omega
     omega
    refine zcd (fun h5=>?_) (fun h5=>?_)
    ·refine zgo ?_
     refine ⟨(i+1),?_,?_,⟨⟨_,rfl,by first | rfl | (rw [O1 d8 d8 (by omega)];done) | (rw [t7 I6];done) | (rw [t7 I5];done)| (rw [t7 (fun _ _=>(by omega))];done)⟩,rfl,⟨⟨_,rfl,by first | rfl | (rw [O1 d8 d8 (by omega)];done) | (rw [t7 I6];done) | (rw [t7 I5];done)| (rw [t7 (fun _ _=>(by omega))];done)⟩,rfl,trivial⟩⟩,trivial,rfl,rfl,rfl⟩
     ·omega
     omega
    refine zgo ?_
    refine ⟨(i+1),?_,?_,⟨⟨_,rfl,by first | rfl | (rw [O1 d8 d8 (by omega)];done) | (rw [t7 I6];done) | (rw [t7 I5];done)| (rw [t7 (fun _ _=>(by omega))];done)⟩,rfl,⟨⟨_,rfl,by first | rfl | (rw [O1 d8 d8 (by omega)];done) | (rw [t7 I6];done) | (rw [t7 I5];done)| (rw [t7 (fun _ _=>(by omega))];done)⟩,rfl,trivial⟩⟩,trivial,rfl,rfl,rfl⟩
    ·omega
    omega
   refine zwf ?_
   refine zgo ?_
   refine ⟨(i+1),?_,?_,⟨⟨_,rfl,by first | rfl | (rw [O1 d8 d8 (by omega)];done) | (rw [t7 I6];done) | (rw [t7 I5];done)| (rw [t7 (fun _ _=>(by omega))];done)⟩,rfl,⟨⟨_,rfl,by first | rfl | (rw [O1 d8 d8 (by omega)];done) | (rw [t7 I6];done) | (rw [t7 I5];done)| (rw [t7 (fun _ _=>(by omega))];done)⟩,rfl,trivial⟩⟩,trivial,rfl,rfl,rfl⟩
   ·omega
   omega
  refine zwf ?_
  refine zgo ?_
  refine ⟨(i+1),?_,?_,⟨⟨_,rfl,by first | rfl | (rw [O1 d8 d8 (by omega)];done) | (rw [t7 I6];done) | (rw [t7 I5];done)| (rw [t7 (fun _ _=>(by omega))];done)⟩,rfl,⟨⟨_,rfl,by first | rfl | (rw [O1 d8 d8 (by omega)];done) | (rw [t7 I6];done) | (rw [t7 I5];done)| (rw [t7 (fun _ _=>(by omega))];done)⟩,rfl,trivial⟩⟩,trivial,rfl,rfl,rfl⟩
  ·omega
  omega
 refine F6 ?_
 refine a8z ?_
 refine zgd ?_
 refine zcd (fun h6=>?_) (fun h6=>?_)
 ·refine zwt ?_
  refine zf1 ?_
  all_goals exact a9P
 refine zcd (fun h7=>?_) (fun h7=>?_)
 ·refine zwt ?_
  refine zf1 ?_
  all_goals exact a9P
 refine zcd (fun h8=>?_) (fun h8=>?_)
 ·refine zwt ?_
  refine zf1 ?_
  all_goals exact a9P
 refine zcd (fun h9=>?_) (fun h9=>?_)
 ·refine zgo ?_
  refine a5u ?_
  refine b2f ?_
  refine zcd (fun h10=>?_) (fun h10=>?_)
  ·refine zf1 ?_
   all_goals exact a9P
  refine zf1 ?_
  all_goals exact a9P
 refine zwf ?_
 refine zf1 ?_
 all_goals exact a9P
theorem a3R (rs:List Route) (a:Abs) (c:Int) (hs:SmallA a) (hn:rs.length≤1048576):Ctr Tryz.prog 18 [.lst 2 (rs.map u7),.agg [.lst 1 (a.en.map l0),.lst 1 (a.ra.map l0),.lst 1 (a.po.map l0),.lst 1 (a.ma.map Rf.r5),.nst none 1 (a.st.map s1)],.v (.int .i64 c)] (.many [.v (.int .i64 (nxO rs a c).1),.v (.bool (nxO rs a c).2)]):=by
 have hma:=hs.ma
 refine Ctr.of (n:=25) G Tryz.func18 rfl (by kernel_rfl) rfl rfl rfl (fun w0=>?_)
 refine r8 1 rfl (fun _=>rfl) (fun u1=>?_)
 refine b4 (fun K1 hK1=>?_)
 refine a6 ?_
 refine a1 rfl ?_
 refine y4 1 rfl rfl rfl rfl rfl rfl rfl ?_
 refine a1 rfl ?_
 refine a3 rfl rfl (a7 rfl rfl) ?_
 refine a1 rfl ?_
 refine a3 rfl rfl (a7 rfl rfl) ?_
 refine a4 ?_
 refine hK1 _ ?_
 clear hK1 K1
 refine b4 (fun K2 hK2=>?_)
 refine b4 (fun K3 hK3=>?_)
 refine a6 ?_
 refine a1 rfl ?_
 refine a3 rfl rfl (a8 rfl rfl) ?_
 refine a1 rfl ?_
 refine a3 rfl rfl (b3 G rfl rfl rfl rfl rfl rfl) ?_
 refine a1 rfl ?_
 refine a3 rfl rfl (k5 rfl (ArgsOK.of rfl) (O4 _ _ (by assumption) (by first | assumption | omega)) rfl) ?_
 refine a1 rfl (a3 rfl rfl (C2 rfl rfl) (a1 rfl (a3 rfl rfl (a8 rfl rfl) (o8 rfl rfl rfl (fun h1=>?_) (fun h1=>?_)))))
 ·try rw [h1]
  try simp only [rfb] at h1
  refine b6 rfl rfl rfl rfl rfl rfl ?_
  refine b6 rfl rfl rfl rfl rfl rfl ?_
  refine b6 rfl rfl rfl rfl rfl rfl ?_
  refine b6 rfl rfl rfl rfl rfl rfl ?_
  refine b6 rfl rfl rfl rfl rfl rfl ?_
  refine b6 rfl rfl rfl rfl rfl rfl ?_
  refine b6 rfl rfl rfl rfl rfl rfl ?_
  refine a1 rfl ?_
  refine a3 rfl rfl (i5 rfl rfl rfl) ?_
  refine a4 ?_
  refine hK3 _ ?_
  clear hK3 K3
  refine r7 rfl ?_
  refine b4 (fun K4 hK4=>?_)
  refine a6 ?_
  refine a1 rfl ?_
  refine a3 rfl rfl (a7 rfl rfl) ?_
  refine a1 rfl ?_
  refine a3 rfl rfl (a7 rfl rfl) ?_
  refine a4 ?_
  refine hK4 _ ?_
  clear hK4 K4
  refine c8 (v6 rfl rfl rfl rfl (a5 (g9 ?_) (a5 (g9 ?_) d4)))
  all_goals clear hK2 K2
  all_goals (first | (rw [a49 (c:=k) (by assumption) (by omega)];done) | (rw [a5a (by first | exact .inl (by assumption) | exact .inr (by omega))];done))
 ·try rw [h1]
  try simp only [rfb] at h1
  refine c6 rfl rfl rfl ?_
  refine a3 rfl rfl (a8 rfl rfl) ?_
  refine c6 rfl rfl rfl ?_
  refine a3 rfl rfl (b7 G rfl rfl rfl rfl) ?_
  refine c6 rfl rfl rfl ?_
  refine a3 rfl rfl (E0 (c4 G rfl rfl rfl rfl rfl rfl rfl)) ?_
  refine c6 rfl rfl rfl ?_
  first | refine a3 rfl rfl (r4 G rfl rfl rfl rfl (List.length_map _)) ?_ | refine a3 rfl rfl (t6 G rfl rfl rfl rfl) ?_
  refine c6 rfl rfl rfl ?_
  first | refine a3 rfl rfl (i8 rfl rfl rfl rfl (by omega) (by omega)) ?_ | refine a3 rfl rfl (k4 rfl rfl rfl rfl) ?_
  refine c6 rfl rfl rfl ?_
  refine a3 rfl rfl (k5 rfl (ArgsOK.of rfl) (B8 _ _ _) rfl) ?_
  refine c6 rfl rfl rfl ?_
  refine a3 rfl rfl (C2 rfl rfl) ?_
  refine a1 rfl ?_
  refine a3 rfl rfl (i7 rfl rfl rfl) ?_
  refine a4 ?_
  refine hK3 _ ?_
  clear hK3 K3
  refine d1 rfl (fun h2=>?_) (fun h2=>?_)
  ·try rw [h2]
   try simp only [rfb] at h2
   have hq:=I2 h2
   refine b4 (fun K5 hK5=>?_)
   refine a6 ?_
   refine a1 rfl ?_
   refine a3 rfl rfl (a7 rfl rfl) ?_
   refine a1 rfl ?_
   refine a3 rfl rfl (a7 rfl rfl) ?_
   refine a4 ?_
   refine hK5 _ ?_
   clear hK5 K5
   refine c8 (v6 rfl rfl rfl rfl (a5 (g9 ?_) (a5 (g9 ?_) d4)))
   all_goals clear hK2 K2
   all_goals (first | (rw [a49 (c:=k) (by assumption) (by omega)];done) | (rw [a5a (by first | exact .inl (by assumption) | exact .inr (by omega))];done))
  ·try rw [h2]
   try simp only [rfb] at h2
   have hq:=p6.mp h2
   obtain ⟨k,rfl⟩:∃ k:Nat,c=k:=⟨c.toNat,by omega⟩
   have hF:=a3D h1
   refine e9 ?_
   refine hK2 _ ?_
   clear hK2 K2
   refine b4 (fun K6 hK6=>?_)
   refine a6 ?_
   refine a1 rfl ?_
   refine a3 rfl rfl (a8 rfl rfl) ?_
   refine a1 rfl ?_
   refine a3 rfl rfl (b3 G rfl rfl rfl rfl rfl rfl) ?_
   refine a1 rfl ?_
   refine a3 rfl rfl (a8 rfl rfl) ?_
   refine a1 rfl ?_
   refine a3 rfl rfl (k5 rfl (ArgsOK.of rfl) (Q0 rs a k hF (by omega)) rfl) ?_
   refine a1 rfl ?_
   refine a3 rfl rfl (a7 rfl rfl) ?_
   refine a1 rfl ?_
   refine a3 rfl rfl (a7 rfl rfl) ?_
   refine a4 ?_
   refine hK6 _ ?_
   clear hK6 K6
   refine c8 (v6 rfl rfl rfl rfl (a5 (g9 ?_) (a5 (g9 ?_) d4)))
   all_goals (first | (rw [a49 (c:=k) (by assumption) (by omega)];done) | (rw [a5a (by first | exact .inl (by assumption) | exact .inr (by omega))];done))
theorem a3S (rs:List Route) (a:Abs) (c:Int) (hs:SmallA a) (hn:rs.length≤1048576):Ctr Tryz.prog 19 [.lst 2 (rs.map u7),.agg [.lst 1 (a.en.map l0),.lst 1 (a.ra.map l0),.lst 1 (a.po.map l0),.lst 1 (a.ma.map Rf.r5),.nst none 1 (a.st.map s1)],.v (.int .i64 c)] (.many [.v (.int .i64 (nxO rs a c).1),.v (.bool (nxO rs a c).2)]):=by
 have hma:=hs.ma
 refine Ctr.of (n:=25) G Tryz.func19 rfl (by kernel_rfl) rfl rfl rfl (fun w0=>?_)
 refine r8 1 rfl (fun _=>rfl) (fun u1=>?_)
 refine b4 (fun K1 hK1=>?_)
 refine a6 ?_
 refine a1 rfl ?_
 refine y4 1 rfl rfl rfl rfl rfl rfl rfl ?_
 refine a1 rfl ?_
 refine a3 rfl rfl (a7 rfl rfl) ?_
 refine a1 rfl ?_
 refine a3 rfl rfl (a7 rfl rfl) ?_
 refine a4 ?_
 refine hK1 _ ?_
 clear hK1 K1
 refine b4 (fun K2 hK2=>?_)
 refine b4 (fun K3 hK3=>?_)
 refine a6 ?_
 refine a1 rfl ?_
 refine a3 rfl rfl (a8 rfl rfl) ?_
 refine a1 rfl ?_
 refine a3 rfl rfl (b3 G rfl rfl rfl rfl rfl rfl) ?_
 refine a1 rfl ?_
 refine a3 rfl rfl (k5 rfl (ArgsOK.of rfl) (V8 _ _ (by assumption) (by first | assumption | omega)) rfl) ?_
 refine a1 rfl (a3 rfl rfl (C2 rfl rfl) (a1 rfl (a3 rfl rfl (a8 rfl rfl) (o8 rfl rfl rfl (fun h1=>?_) (fun h1=>?_)))))
 ·try rw [h1]
  try simp only [rfb] at h1
  refine b6 rfl rfl rfl rfl rfl rfl ?_
  refine b6 rfl rfl rfl rfl rfl rfl ?_
  refine b6 rfl rfl rfl rfl rfl rfl ?_
  refine b6 rfl rfl rfl rfl rfl rfl ?_
  refine b6 rfl rfl rfl rfl rfl rfl ?_
  refine b6 rfl rfl rfl rfl rfl rfl ?_
  refine b6 rfl rfl rfl rfl rfl rfl ?_
  refine a1 rfl ?_
  refine a3 rfl rfl (i5 rfl rfl rfl) ?_
  refine a4 ?_
  refine hK3 _ ?_
  clear hK3 K3
  refine r7 rfl ?_
  refine b4 (fun K4 hK4=>?_)
  refine a6 ?_
  refine a1 rfl ?_
  refine a3 rfl rfl (a7 rfl rfl) ?_
  refine a1 rfl ?_
  refine a3 rfl rfl (a7 rfl rfl) ?_
  refine a4 ?_
  refine hK4 _ ?_
  clear hK4 K4
  refine c8 (v6 rfl rfl rfl rfl (a5 (g9 ?_) (a5 (g9 ?_) d4)))
  all_goals clear hK2 K2
  all_goals (first | (rw [a49 (c:=k) (by assumption) (by omega)];done) | (rw [a5a (by first | exact .inl (by assumption) | exact .inr (by omega))];done))
 ·try rw [h1]
  try simp only [rfb] at h1
  refine c6 rfl rfl rfl ?_
  refine a3 rfl rfl (a8 rfl rfl) ?_
  refine c6 rfl rfl rfl ?_
  refine a3 rfl rfl (b7 G rfl rfl rfl rfl) ?_
  refine c6 rfl rfl rfl ?_
  refine a3 rfl rfl (E0 (c4 G rfl rfl rfl rfl rfl rfl rfl)) ?_
  refine c6 rfl rfl rfl ?_
  first | refine a3 rfl rfl (r4 G rfl rfl rfl rfl (List.length_map _)) ?_ | refine a3 rfl rfl (t6 G rfl rfl rfl rfl) ?_
  refine c6 rfl rfl rfl ?_
  first | refine a3 rfl rfl (i8 rfl rfl rfl rfl (by omega) (by omega)) ?_ | refine a3 rfl rfl (k4 rfl rfl rfl rfl) ?_
  refine c6 rfl rfl rfl ?_
  refine a3 rfl rfl (k5 rfl (ArgsOK.of rfl) (E9 _ _ _) rfl) ?_
  refine c6 rfl rfl rfl ?_
  refine a3 rfl rfl (C2 rfl rfl) ?_
  refine a1 rfl ?_
  refine a3 rfl rfl (i7 rfl rfl rfl) ?_
  refine a4 ?_
  refine hK3 _ ?_
  clear hK3 K3
  refine d1 rfl (fun h2=>?_) (fun h2=>?_)
  ·try rw [h2]
   try simp only [rfb] at h2
   have hq:=I2 h2
   refine b4 (fun K5 hK5=>?_)
   refine a6 ?_
   refine a1 rfl ?_
   refine a3 rfl rfl (a7 rfl rfl) ?_
   refine a1 rfl ?_
   refine a3 rfl rfl (a7 rfl rfl) ?_
   refine a4 ?_
   refine hK5 _ ?_
   clear hK5 K5
   refine c8 (v6 rfl rfl rfl rfl (a5 (g9 ?_) (a5 (g9 ?_) d4)))
   all_goals clear hK2 K2
   all_goals (first | (rw [a49 (c:=k) (by assumption) (by omega)];done) | (rw [a5a (by first | exact .inl (by assumption) | exact .inr (by omega))];done))
  ·try rw [h2]
   try simp only [rfb] at h2
   have hq:=p6.mp h2
   obtain ⟨k,rfl⟩:∃ k:Nat,c=k:=⟨c.toNat,by omega⟩
   have hF:=a3D h1
   refine e9 ?_
   refine hK2 _ ?_
   clear hK2 K2
   refine b4 (fun K6 hK6=>?_)
   refine a6 ?_
   refine a1 rfl ?_
   refine a3 rfl rfl (a8 rfl rfl) ?_
   refine a1 rfl ?_
   refine a3 rfl rfl (b3 G rfl rfl rfl rfl rfl rfl) ?_
   refine a1 rfl ?_
   refine a3 rfl rfl (a8 rfl rfl) ?_
   refine a1 rfl ?_
   refine a3 rfl rfl (k5 rfl (ArgsOK.of rfl) (a1u rs a k hF (by omega)) rfl) ?_
   refine a1 rfl ?_
   refine a3 rfl rfl (a7 rfl rfl) ?_
   refine a1 rfl ?_
   refine a3 rfl rfl (a7 rfl rfl) ?_
   refine a4 ?_
   refine hK6 _ ?_
   clear hK6 K6
   refine c8 (v6 rfl rfl rfl rfl (a5 (g9 ?_) (a5 (g9 ?_) d4)))
   all_goals (first | (rw [a49 (c:=k) (by assumption) (by omega)];done) | (rw [a5a (by first | exact .inl (by assumption) | exact .inr (by omega))];done))
end Go.Proofs.YtcnodpipinlpcaaGreat
set_option maxRecDepth 20000
namespace Go.Proofs.YtcnodpipinlpcaaGreat
open Go Go.Rf
theorem R5 (l:List Int) (hn:l.length≤1048576):Ctr Tryz.prog 128 [.lst 1 (l.map Rf.r5)] (.one (.fr 3 1 (l.map Rf.r5))):=by
 refine Ctr.of (n:=6) G Tryz.func128 rfl b5 rfl rfl rfl (fun w0=>?_)
 refine F6 ?_
 refine k6 G 1 rfl rfl rfl rfl rfl rfl rfl rfl ?_
 refine b30 ?_
 refine zfo ?_
 all_goals (first | rfl | simp)
theorem y9 (l:List Int) (hn:l.length≤1048576):Ctr Tryz.prog 132 [.lst 1 (l.map Rf.r5)] (.one (.fr 3 1 (l.map Rf.r5))):=by
 refine Ctr.of (n:=6) G Tryz.func132 rfl b5 rfl rfl rfl (fun w0=>?_)
 refine F6 ?_
 refine k6 G 1 rfl rfl rfl rfl rfl rfl rfl rfl ?_
 refine b30 ?_
 refine zfo ?_
 all_goals (first | rfl | simp)
theorem M6 (a:Abs) (hs:SmallA a):Ctr Tryz.prog 56 [.agg [.lst 1 (a.en.map l0),.lst 1 (a.ra.map l0),.lst 1 (a.po.map l0),.lst 1 (a.ma.map Rf.r5),.nst none 1 (a.st.map s1)]] (.shp true [some 5] [.fr 4 1 (a.en.map l0),.fr 4 1 (a.ra.map l0),.fr 4 1 (a.po.map l0),.fr 3 1 (a.ma.map Rf.r5),.ne 26 1 (a.st.map s1)]):=by
 have hz0:=hs.en
 have hz1:=hs.ra
 have hz2:=hs.po
 have hz3:=hs.ma
 have hz4:=hs.st
 refine Ctr.of (n:=39) G Tryz.func56 rfl b5 rfl rfl rfl (fun w0=>?_)
 refine r8 0 rfl (fun _=>rfl) (fun u0=>?_)
 refine a2p ?_
 refine zgn ?_
 refine G3 (j9 19 [0,1] m5 b5 rfl rfl (fun r0=>?_) (fun _ h=>h))
 refine zsa 1 ?_
 refine zsa 2 ?_
 refine zsa 5 ?_
 refine zsa 6 ?_
 refine zsa 9 ?_
 refine zsa 10 ?_
 refine zsa 12 ?_
 refine zsa 13 ?_
 refine z8 (N:=7) rfl (s2 (fuel:=6) [⟨0,6,2,false,.row 4 1 []⟩,⟨4,10,3,false,.row 4 1 []⟩,⟨8,14,4,false,.row 4 1 []⟩,⟨15,21,5,false,.row 26 1 []⟩,⟨17,3,6,true,.box (avR [.slice none 0 0,.slice none 0 0,.slice none 0 0,.slice none 0 0,.slice none 0 0] [])⟩] (AllVOK.cons (VOK.lit G rfl rfl rfl rfl rfl) (AllVOK.cons (VOK.lit G rfl rfl rfl rfl rfl) (AllVOK.cons (VOK.lit G rfl rfl rfl rfl rfl) (AllVOK.cons (VOK.lit G rfl rfl rfl rfl rfl) (AllVOK.cons (VOK.boxS G rfl rfl rfl rfl rfl) (AllVOK.nil)))))) (fun hok=>?_))
 refine n6 [(3,[0])] b5 b5 (fun e he=>hok e he) b5 (AllVS.cons ?_ AllVS.nil)
 refine VStep.mk1 [0,1] 6 (.own 2) 2 (.row 4 1 []) [⟨4,10,3,false,.row 4 1 []⟩,⟨8,14,4,false,.row 4 1 []⟩,⟨15,21,5,false,.row 26 1 []⟩,⟨17,3,6,true,.box (avR [.slice none 0 0,.slice none 0 0,.slice none 0 0,.slice none 0 0,.slice none 0 0] [])⟩] rfl rfl rfl rfl rfl (fun b1 _ hbn=>f7 G a0Q rfl rfl rfl rfl rfl rfl rfl rfl rfl u5 rfl rfl (a4 rfl)) b5 b5 b5 b5 (n6 [(7,[4])] b5 b5 (fun e he=>hok e (vin (is:=[0]) rfl he)) b5 (AllVS.cons ?_ AllVS.nil))
 refine VStep.mk1 [0,1] 10 (.own 3) 3 (.row 4 1 []) [⟨8,14,4,false,.row 4 1 []⟩,⟨15,21,5,false,.row 26 1 []⟩,⟨17,3,6,true,.box (avR [.slice none 0 0,.slice none 0 0,.slice none 0 0,.slice none 0 0,.slice none 0 0] [])⟩] rfl rfl rfl rfl rfl (fun b1 _ hbn=>f7 G a0Q rfl rfl rfl rfl rfl rfl rfl rfl rfl u5 rfl rfl (a4 rfl)) b5 b5 b5 b5 (n6 [(11,[8])] b5 b5 (fun e he=>hok e (vin (is:=[0,4]) rfl he)) b5 (AllVS.cons ?_ AllVS.nil))
 refine VStep.mk1 [0,1] 14 (.own 4) 4 (.row 4 1 []) [⟨15,21,5,false,.row 26 1 []⟩,⟨17,3,6,true,.box (avR [.slice none 0 0,.slice none 0 0,.slice none 0 0,.slice none 0 0,.slice none 0 0] [])⟩] rfl rfl rfl rfl rfl (fun b1 _ hbn=>f7 G a0Q rfl rfl rfl rfl rfl rfl rfl rfl rfl u5 rfl rfl (a4 rfl)) b5 b5 b5 b5 (n6 [(14,[])] b5 b5 (fun e he=>hok e (vin (is:=[0,4,8]) rfl he)) b5 (AllVS.cons ?_ AllVS.nil))
 refine VStep.mk0 [0,1] rfl rfl (fun b1 _ hbn=>g8 8 rfl rfl rfl (ArgsOK.of rfl) (R5 _ hs.ma) rfl rfl (a4 rfl)) b5 b5 b5 b5 (n6 [(16,[15])] b5 b5 (fun e he=>hok e (vin (is:=[0,4,8]) rfl he)) b5 (AllVS.cons ?_ AllVS.nil))
 refine VStep.mk1 [0,1] 21 (.own 5) 5 (.row 26 1 []) [⟨17,3,6,true,.box (avR [.slice none 0 0,.slice none 0 0,.slice none 0 0,.slice none 0 0,.slice none 0 0] [])⟩] rfl rfl rfl rfl rfl (fun b1 _ hbn=>a3 rfl rfl (g0 G rfl rfl rfl rfl) (a4 rfl)) b5 b5 b5 b5 (n6 [(18,[17])] b5 b5 (fun e he=>hok e (vin (is:=[0,4,8,15]) rfl he)) b5 (AllVS.cons ?_ AllVS.nil))
 refine b4X ?_
 clear hok
 refine b3Z ?_
 refine m4 [2,3,24,25] [1,2,3,4,6,7] (fun (k:Nat)=>[(26,.v (.int .i64 (k:Int)))]) (fun (k:Nat)=>[(5,some (.nest 26 1 ((a.st.take k).map s1) []))]) (fun (k:Nat)=>k≤a.st.length) (fun (k:Nat)=>a.st.length - k) 0 rfl rfl ?_ ?_ ?_ ?_
 ·exact Nat.zero_le _
 ·exact ⟨⟨_,rfl,by (first | rfl | (simp;done) | (simp;omega))⟩,rfl,trivial⟩
 ·exact ⟨⟨_,rfl,by rfl⟩,rfl,rfl,trivial⟩
 intro k hinv
 simp only [List.cons_append,List.nil_append]
 refine zcd (fun h1=>?_) (fun h1=>?_)
 ·refine F6 ?_
  refine a8z ?_
  refine zgo ?_
  apply F4 [2,3,24,25,26] [1,2,3,4,6,7,10] 11 8 [1,2,3,4,7] m5 b5 rfl rfl (fun _ h=>znk h)
  ·intro r0
   refine zsa 0 ?_
   refine zsa 2 ?_
   refine a9 (rs:=[1,3]) b5 rfl (AllB.cons ?_ (AllB.cons ?_ AllB.nil))
   ·refine a9Z ?_
    refine a9 (rs:=[3]) b5 rfl (AllB.cons ?_ AllB.nil)
    refine m3 [1,2,3,4,7] rfl rfl (g8 9 rfl rfl rfl (ArgsOK.of rfl) (R5 _ (hs.all k (by omega))) rfl rfl (a4 ⟨rfl,?_⟩))
    refine a9 (rs:=[4]) b5 rfl (AllB.cons ?_ AllB.nil)
    refine m3 [1,2,3,4,7] rfl rfl (v3 G 10 rfl rfl rfl rfl rfl rfl rfl rfl (.own rfl .nil) rfl rfl rfl rfl (a4 ⟨rfl,?_⟩))
    refine a9 (rs:=[5]) b5 rfl (AllB.cons ?_ AllB.nil)
    refine c7 [1,2,3,4,7] rfl rfl (s4 (Gh.forget (id:=6) (k:=4) rfl rfl)<|y5 (tx:=31) 11 rfl rfl rfl rfl rfl<|s5 G E8 rfl rfl rfl rfl rfl rfl rfl rfl rfl rfl u5 rfl rfl (a4 ⟨rfl,?_⟩))
    refine zsa 6 ?_
    refine a9 (rs:=[7]) b5 rfl (AllB.cons ?_ AllB.nil)
    refine a9Z ?_
    exact l9 b5 (Meet.mk rfl rfl rfl rfl)
   refine m3 [1,2,3,4,7] rfl rfl (g8 9 rfl rfl rfl (ArgsOK.of rfl) (R5 _ (hs.all k (by omega))) rfl rfl (a4 ⟨rfl,?_⟩))
   refine a9 (rs:=[1,4]) b5 rfl (AllB.cons ?_ (AllB.cons ?_ AllB.nil))
   ·refine a9Z ?_
    refine a9 (rs:=[4]) b5 rfl (AllB.cons ?_ AllB.nil)
    refine m3 [1,2,3,4,7] rfl rfl (v3 G 10 rfl rfl rfl rfl rfl rfl rfl rfl (.own rfl .nil) rfl rfl rfl rfl (a4 ⟨rfl,?_⟩))
    refine a9 (rs:=[5]) b5 rfl (AllB.cons ?_ AllB.nil)
    refine c7 [1,2,3,4,7] rfl rfl (s4 (Gh.forget (id:=6) (k:=4) rfl rfl)<|y5 (tx:=31) 11 rfl rfl rfl rfl rfl<|s5 G E8 rfl rfl rfl rfl rfl rfl rfl rfl rfl rfl u5 rfl rfl (a4 ⟨rfl,?_⟩))
    refine zsa 6 ?_
    refine a9 (rs:=[7]) b5 rfl (AllB.cons ?_ AllB.nil)
    refine a9Z ?_
    exact l9 b5 (Meet.mk rfl rfl rfl rfl)
   refine m3 [1,2,3,4,7] rfl rfl (v3 G 10 rfl rfl rfl rfl rfl rfl rfl rfl (.own rfl .nil) rfl rfl rfl rfl (a4 ⟨rfl,?_⟩))
   refine a9 (rs:=[1]) b5 rfl (AllB.cons ?_ AllB.nil)
   refine a9Z ?_
   refine a9 (rs:=[5]) b5 rfl (AllB.cons ?_ AllB.nil)
   refine c7 [1,2,3,4,7] rfl rfl (s4 (Gh.forget (id:=6) (k:=4) rfl rfl)<|y5 (tx:=31) 11 rfl rfl rfl rfl rfl<|s5 G E8 rfl rfl rfl rfl rfl rfl rfl rfl rfl rfl u5 rfl rfl (a4 ⟨rfl,?_⟩))
   refine zsa 6 ?_
   refine a9 (rs:=[7]) b5 rfl (AllB.cons ?_ AllB.nil)
   refine a9Z ?_
   exact l9 b5 (Meet.mk rfl rfl rfl rfl)
  refine a6 ?_
  iterate 2 refine zst ?_
  refine m7 (Gh.sub 10 5 np rfl rfl rfl) (a4 ⟨(k+1),?_,?_,⟨⟨_,rfl,by rfl⟩,rfl,trivial⟩,⟨⟨_,rfl,by (rw [b2m (by omega)];done)⟩,rfl,rfl,trivial⟩,rfl,rfl,rfl⟩)
  ·omega
  omega
 refine zgo ?_
 refine c8 (l6 rfl rfl rfl rfl (a5 (b8 rfl ?_) (a5 (b8 rfl ?_) (a5 (b8 rfl ?_) (a5 (b8 rfl ?_) (a5 (u2 rfl ?_) d4))))))
 all_goals (first | rfl | (exact a53 (by omega)) | simp)
theorem Z5 (a:Abs) (hs:SmallA a):Ctr Tryz.prog 60 [.agg [.lst 1 (a.en.map l0),.lst 1 (a.ra.map l0),.lst 1 (a.po.map l0),.lst 1 (a.ma.map Rf.r5),.nst none 1 (a.st.map s1)]] (.shp true [some 5] [.fr 4 1 (a.en.map l0),.fr 4 1 (a.ra.map l0),.fr 4 1 (a.po.map l0),.fr 3 1 (a.ma.map Rf.r5),.ne 26 1 (a.st.map s1)]):=by
 have hz0:=hs.en
 have hz1:=hs.ra
 have hz2:=hs.po
 have hz3:=hs.ma
 have hz4:=hs.st
 refine Ctr.of (n:=41) G Tryz.func60 rfl b5 rfl rfl rfl (fun w0=>?_)
 refine r8 0 rfl (fun _=>rfl) (fun u0=>?_)
 refine a2p ?_
 refine zgn ?_
 refine G3 (j9 19 [0,1] m5 b5 rfl rfl (fun r0=>?_) (fun _ h=>h))
 refine zsa 1 ?_
 refine zsa 2 ?_
 refine zsa 5 ?_
 refine zsa 6 ?_
 refine zsa 9 ?_
 refine zsa 10 ?_
 refine zsa 12 ?_
 refine zsa 13 ?_
 refine z8 (N:=7) rfl (s2 (fuel:=6) [⟨0,5,2,false,.row 4 1 []⟩,⟨4,9,3,false,.row 4 1 []⟩,⟨8,13,4,false,.row 4 1 []⟩,⟨15,20,5,false,.row 26 1 []⟩,⟨17,3,6,true,.box (avR [.slice none 0 0,.slice none 0 0,.slice none 0 0,.slice none 0 0,.slice none 0 0] [])⟩] (AllVOK.cons (VOK.lit G rfl rfl rfl rfl rfl) (AllVOK.cons (VOK.lit G rfl rfl rfl rfl rfl) (AllVOK.cons (VOK.lit G rfl rfl rfl rfl rfl) (AllVOK.cons (VOK.lit G rfl rfl rfl rfl rfl) (AllVOK.cons (VOK.boxS G rfl rfl rfl rfl rfl) (AllVOK.nil)))))) (fun hok=>?_))
 refine n6 [(3,[0])] b5 b5 (fun e he=>hok e he) b5 (AllVS.cons ?_ AllVS.nil)
 refine VStep.mk1 [0,1] 5 (.own 2) 2 (.row 4 1 []) [⟨4,9,3,false,.row 4 1 []⟩,⟨8,13,4,false,.row 4 1 []⟩,⟨15,20,5,false,.row 26 1 []⟩,⟨17,3,6,true,.box (avR [.slice none 0 0,.slice none 0 0,.slice none 0 0,.slice none 0 0,.slice none 0 0] [])⟩] rfl rfl rfl rfl rfl (fun b1 _ hbn=>f7 G a0Q rfl rfl rfl rfl rfl rfl rfl rfl rfl u5 rfl rfl (a4 rfl)) b5 b5 b5 b5 (n6 [(7,[4])] b5 b5 (fun e he=>hok e (vin (is:=[0]) rfl he)) b5 (AllVS.cons ?_ AllVS.nil))
 refine VStep.mk1 [0,1] 9 (.own 3) 3 (.row 4 1 []) [⟨8,13,4,false,.row 4 1 []⟩,⟨15,20,5,false,.row 26 1 []⟩,⟨17,3,6,true,.box (avR [.slice none 0 0,.slice none 0 0,.slice none 0 0,.slice none 0 0,.slice none 0 0] [])⟩] rfl rfl rfl rfl rfl (fun b1 _ hbn=>f7 G a0Q rfl rfl rfl rfl rfl rfl rfl rfl rfl u5 rfl rfl (a4 rfl)) b5 b5 b5 b5 (n6 [(11,[8])] b5 b5 (fun e he=>hok e (vin (is:=[0,4]) rfl he)) b5 (AllVS.cons ?_ AllVS.nil))
 refine VStep.mk1 [0,1] 13 (.own 4) 4 (.row 4 1 []) [⟨15,20,5,false,.row 26 1 []⟩,⟨17,3,6,true,.box (avR [.slice none 0 0,.slice none 0 0,.slice none 0 0,.slice none 0 0,.slice none 0 0] [])⟩] rfl rfl rfl rfl rfl (fun b1 _ hbn=>f7 G a0Q rfl rfl rfl rfl rfl rfl rfl rfl rfl u5 rfl rfl (a4 rfl)) b5 b5 b5 b5 (n6 [(14,[])] b5 b5 (fun e he=>hok e (vin (is:=[0,4,8]) rfl he)) b5 (AllVS.cons ?_ AllVS.nil))
 refine VStep.mk0 [0,1] rfl rfl (fun b1 _ hbn=>g8 8 rfl rfl rfl (ArgsOK.of rfl) (y9 _ hs.ma) rfl rfl (a4 rfl)) b5 b5 b5 b5 (n6 [(16,[15])] b5 b5 (fun e he=>hok e (vin (is:=[0,4,8]) rfl he)) b5 (AllVS.cons ?_ AllVS.nil))
 refine VStep.mk1 [0,1] 20 (.own 5) 5 (.row 26 1 []) [⟨17,3,6,true,.box (avR [.slice none 0 0,.slice none 0 0,.slice none 0 0,.slice none 0 0,.slice none 0 0] [])⟩] rfl rfl rfl rfl rfl (fun b1 _ hbn=>a3 rfl rfl (g0 G rfl rfl rfl rfl) (a4 rfl)) b5 b5 b5 b5 (n6 [(18,[17])] b5 b5 (fun e he=>hok e (vin (is:=[0,4,8,15]) rfl he)) b5 (AllVS.cons ?_ AllVS.nil))
 refine b4X ?_
 clear hok
 refine b3Z ?_
 refine m4 [1,2,3] [0,1,2,3,4,6,7] (fun (k:Nat)=>[(4,.v (.int .i64 (k:Int)))]) (fun (k:Nat)=>[(5,some (.nest 26 1 ((a.st.take k).map s1) []))]) (fun (k:Nat)=>k≤a.st.length) (fun (k:Nat)=>a.st.length - k) 0 rfl rfl ?_ ?_ ?_ ?_
 ·exact Nat.zero_le _
 ·exact ⟨⟨_,rfl,by (first | rfl | (simp;done) | (simp;omega))⟩,rfl,trivial⟩
 ·exact ⟨⟨_,rfl,by rfl⟩,rfl,rfl,trivial⟩
 intro k hinv
 simp only [List.cons_append,List.nil_append]
 refine zcd (fun h1=>?_) (fun h1=>?_)
 ·refine zgo ?_
  apply F4 [1,2,3,4] [0,1,2,3,4,6,7,10] 11 12 [0,1,2,3,4,7] m5 b5 rfl rfl (fun _ h=>znk h)
  ·intro r0
   refine zsa 0 ?_
   refine zsa 2 ?_
   refine zsa 3 ?_
   refine zsa 4 ?_
   refine zsa 5 ?_
   refine b9 6 rfl b5 b5 rfl rfl rfl rfl (z6 G rfl rfl rfl rfl) (a9 (rs:=[1,7]) b5 rfl (AllB.cons ?_ (AllB.cons ?_ AllB.nil)))
   ·refine a9Y ?_
    refine a9 (rs:=[7]) b5 rfl (AllB.cons ?_ AllB.nil)
    refine m3 [0,1,2,3,4,7] rfl rfl (g8 9 rfl rfl rfl (ArgsOK.of rfl) (y9 _ (hs.all k (by omega))) rfl rfl (a4 ⟨rfl,?_⟩))
    refine a9 (rs:=[8]) b5 rfl (AllB.cons ?_ AllB.nil)
    refine m3 [0,1,2,3,4,7] rfl rfl (v3 G 10 rfl rfl rfl rfl rfl rfl rfl rfl (.own rfl .nil) rfl rfl rfl rfl (a4 ⟨rfl,?_⟩))
    refine a9 (rs:=[9]) b5 rfl (AllB.cons ?_ AllB.nil)
    refine c7 [0,1,2,3,4,7] rfl rfl (s4 (Gh.forget (id:=6) (k:=4) rfl rfl)<|y5 (tx:=30) 11 rfl rfl rfl rfl rfl<|s5 G E8 rfl rfl rfl rfl rfl rfl rfl rfl rfl rfl u5 rfl rfl (a4 ⟨rfl,?_⟩))
    refine zsa 10 ?_
    refine a9 (rs:=[11]) b5 rfl (AllB.cons ?_ AllB.nil)
    refine a9Y ?_
    exact l9 b5 (Meet.mk rfl rfl rfl rfl)
   refine m3 [0,1,2,3,4,7] rfl rfl (g8 9 rfl rfl rfl (ArgsOK.of rfl) (y9 _ (hs.all k (by omega))) rfl rfl (a4 ⟨rfl,?_⟩))
   refine a9 (rs:=[1,8]) b5 rfl (AllB.cons ?_ (AllB.cons ?_ AllB.nil))
   ·refine a9Y ?_
    refine a9 (rs:=[8]) b5 rfl (AllB.cons ?_ AllB.nil)
    refine m3 [0,1,2,3,4,7] rfl rfl (v3 G 10 rfl rfl rfl rfl rfl rfl rfl rfl (.own rfl .nil) rfl rfl rfl rfl (a4 ⟨rfl,?_⟩))
    refine a9 (rs:=[9]) b5 rfl (AllB.cons ?_ AllB.nil)
    refine c7 [0,1,2,3,4,7] rfl rfl (s4 (Gh.forget (id:=6) (k:=4) rfl rfl)<|y5 (tx:=30) 11 rfl rfl rfl rfl rfl<|s5 G E8 rfl rfl rfl rfl rfl rfl rfl rfl rfl rfl u5 rfl rfl (a4 ⟨rfl,?_⟩))
    refine zsa 10 ?_
    refine a9 (rs:=[11]) b5 rfl (AllB.cons ?_ AllB.nil)
    refine a9Y ?_
    exact l9 b5 (Meet.mk rfl rfl rfl rfl)
   refine m3 [0,1,2,3,4,7] rfl rfl (v3 G 10 rfl rfl rfl rfl rfl rfl rfl rfl (.own rfl .nil) rfl rfl rfl rfl (a4 ⟨rfl,?_⟩))
   refine a9 (rs:=[1]) b5 rfl (AllB.cons ?_ AllB.nil)
   refine a9Y ?_
   refine a9 (rs:=[9]) b5 rfl (AllB.cons ?_ AllB.nil)
   refine c7 [0,1,2,3,4,7] rfl rfl (s4 (Gh.forget (id:=6) (k:=4) rfl rfl)<|y5 (tx:=30) 11 rfl rfl rfl rfl rfl<|s5 G E8 rfl rfl rfl rfl rfl rfl rfl rfl rfl rfl u5 rfl rfl (a4 ⟨rfl,?_⟩))
   refine zsa 10 ?_
   refine a9 (rs:=[11]) b5 rfl (AllB.cons ?_ AllB.nil)
   refine a9Y ?_
   exact l9 b5 (Meet.mk rfl rfl rfl rfl)
  refine a6 ?_
  refine a5t ?_
  refine m7 (Gh.sub 10 5 np rfl rfl rfl) (a4 ⟨(k+1),?_,?_,⟨⟨_,rfl,by rfl⟩,rfl,trivial⟩,⟨⟨_,rfl,by (rw [b2m (by omega)];done)⟩,rfl,rfl,trivial⟩,rfl,rfl,rfl⟩)
  ·omega
  omega
 refine zgo ?_
 refine c8 (l6 rfl rfl rfl rfl (a5 (b8 rfl ?_) (a5 (b8 rfl ?_) (a5 (b8 rfl ?_) (a5 (b8 rfl ?_) (a5 (u2 rfl ?_) d4))))))
 all_goals (first | rfl | (exact a53 (by omega)) | simp)
end Go.Proofs.YtcnodpipinlpcaaGreat
set_option maxRecDepth 20000
namespace Go.Proofs.YtcnodpipinlpcaaGreat
open Go Go.Rf
theorem K0 (a b c d:Int):Ctr Tryz.prog 220 [.v (.int .i64 a),.v (.int .i64 b),.v (.int .i64 c),.v (.int .i64 d)] (.one (.v (.bool (lessW ⟨b,a⟩ ⟨d,c⟩)))):=by
 refine Ctr.of (n:=22) G Tryz.func220 rfl b5 rfl rfl rfl (fun w0=>?_)
 refine zcd (fun h1=>?_) (fun h1=>?_)
 ·refine zf1 ?_
  all_goals (first | rfl | (simp_all [lessW];done))
 refine zcd (fun h2=>?_) (fun h2=>?_)
 ·refine zf1 ?_
  all_goals (first | rfl | (simp_all [lessW];done))
 refine zf1 ?_
 all_goals (first | rfl | (simp_all [lessW];done))
theorem A9 (sl:List Slot) (irq:Int) (hl:sl.length≤1048576):Ctr Tryz.prog 183 [.lst 3 (sl.map p4),.v (.int .i64 irq)] (.one (.v (.int .i64 (o9 sl irq)))):=by
 refine Ctr.of (n:=28) G Tryz.func183 rfl b5 rfl rfl rfl (fun w0=>?_)
 refine zgo ?_
 refine m4 [0,1] [] (fun (i:Nat)=>[(5,.v (.int .i64 (i:Int)))]) (fun (i:Nat)=>[]) (fun (i:Nat)=>i≤sl.length∧∀ j,j < i→fdP irq (sl.getD j default)=false) (fun (i:Nat)=>sl.length - i) 0 rfl rfl ?_ ?_ ?_ ?_
 ·exact ⟨Nat.zero_le _,fun j hj=>by omega⟩
 ·exact ⟨⟨_,rfl,by (first | rfl | (simp;done) | (simp;omega))⟩,rfl,trivial⟩
 ·exact trivial
 intro i hinv
 simp only [List.cons_append,List.nil_append]
 refine zcd (fun h1=>?_) (fun h1=>?_)
 ·refine zcd (fun h2=>?_) (fun h2=>?_)
  ·refine zcd (fun h3=>?_) (fun h3=>?_)
   ·refine zf1 ?_
    all_goals exact b4K
   refine zgo ?_
   refine ⟨(i+1),?_,?_,⟨⟨_,rfl,by rfl⟩,rfl,trivial⟩,trivial,rfl,rfl,rfl⟩
   ·exact ⟨by omega,p7 hinv.2 (by simp_all [fdP,emP])⟩
   omega
  refine zwf ?_
  refine zgo ?_
  refine ⟨(i+1),?_,?_,⟨⟨_,rfl,by rfl⟩,rfl,trivial⟩,trivial,rfl,rfl,rfl⟩
  ·exact ⟨by omega,p7 hinv.2 (by simp_all [fdP,emP])⟩
  omega
 refine zf1 ?_
 all_goals exact b4K
theorem Z6 (sl:List Slot)  (hl:sl.length≤1048576):Ctr Tryz.prog 217 [.lst 3 (sl.map p4)] (.one (.v (.int .i64 (freS sl)))):=by
 refine Ctr.of (n:=17) G Tryz.func217 rfl b5 rfl rfl rfl (fun w0=>?_)
 refine zgo ?_
 refine m4 [0] [] (fun (i:Nat)=>[(3,.v (.int .i64 (i:Int)))]) (fun (i:Nat)=>[]) (fun (i:Nat)=>i≤sl.length∧∀ j,j < i→emP (sl.getD j default)=false) (fun (i:Nat)=>sl.length - i) 0 rfl rfl ?_ ?_ ?_ ?_
 ·exact ⟨Nat.zero_le _,fun j hj=>by omega⟩
 ·exact ⟨⟨_,rfl,by (first | rfl | (simp;done) | (simp;omega))⟩,rfl,trivial⟩
 ·exact trivial
 intro i hinv
 simp only [List.cons_append,List.nil_append]
 refine zcd (fun h1=>?_) (fun h1=>?_)
 ·refine zcd (fun h2=>?_) (fun h2=>?_)
  ·refine zf1 ?_
   all_goals exact b4L
  refine zgo ?_
  refine ⟨(i+1),?_,?_,⟨⟨_,rfl,by rfl⟩,rfl,trivial⟩,trivial,rfl,rfl,rfl⟩
  ·exact ⟨by omega,p7 hinv.2 (by simp_all [fdP,emP])⟩
  omega
 refine zf1 ?_
 all_goals exact b4L
theorem a12 (sl:List Slot)  (hl:sl.length≤1048576):Ctr Tryz.prog 261 [.lst 3 (sl.map p4)] (.one (.v (.bool (a2X sl)))):=by
 refine Ctr.of (n:=60) G Tryz.func261 rfl b5 rfl rfl rfl (fun w0=>?_)
 refine zgo ?_
 refine m4 [0] [] (fun (i:Nat)=>[(3,.v (.int .i64 (i:Int)))]) (fun (i:Nat)=>[]) (fun (i:Nat)=>i≤sl.length∧∀ j,j < i→H4 sl j=true) (fun (i:Nat)=>sl.length - i) 0 rfl rfl ?_ ?_ ?_ ?_
 ·exact ⟨Nat.zero_le _,fun j hj=>by omega⟩
 ·exact ⟨⟨_,rfl,by (first | rfl | (simp;done) | (simp;omega))⟩,rfl,trivial⟩
 ·exact trivial
 intro i hinv
 simp only [List.cons_append,List.nil_append]
 refine zcd (fun h1=>?_) (fun h1=>?_)
 ·refine a8y ?_
  refine a7O ?_
  refine zcd (fun h2=>?_) (fun h2=>?_)
  ·refine zwt ?_
   refine zf1 ?_
   all_goals exact a7I
  refine zcl (F9 _) ?_
  refine zcd (fun h3=>?_) (fun h3=>?_)
  ·refine zwt ?_
   refine zf1 ?_
   all_goals exact a7I
  refine zcl (Q4 _) ?_
  refine zcd (fun h4=>?_) (fun h4=>?_)
  ·refine zf1 ?_
   all_goals exact a7I
  refine zcd (fun h5=>?_) (fun h5=>?_)
  ·refine zcd (fun h6=>?_) (fun h6=>?_)
   ·refine zwt ?_
    refine zf1 ?_
    all_goals exact a7I
   refine zcd (fun h7=>?_) (fun h7=>?_)
   ·refine zwt ?_
    refine zf1 ?_
    all_goals exact a7I
   refine zcd (fun h8=>?_) (fun h8=>?_)
   ·refine zcl (A9 sl _ hl) ?_
    refine zcd (fun h9=>?_) (fun h9=>?_)
    ·refine zf1 ?_
     all_goals exact a7I
    refine zgo ?_
    refine ⟨(i+1),?_,?_,⟨⟨_,rfl,by rfl⟩,rfl,trivial⟩,trivial,rfl,rfl,rfl⟩
    ·exact ⟨by omega,p7 hinv.2 (a4A (by omega) ⟨p6.mp d8,p6.mp d8,p6.mp d8⟩ (by omega) (fun h=>by omega))⟩
    omega
   refine zwf ?_
   refine zgo ?_
   refine ⟨(i+1),?_,?_,⟨⟨_,rfl,by rfl⟩,rfl,trivial⟩,trivial,rfl,rfl,rfl⟩
   ·exact ⟨by omega,p7 hinv.2 (a4A (by omega) ⟨p6.mp d8,p6.mp d8,p6.mp d8⟩ (by omega) (fun h=>by omega))⟩
   omega
  refine zcd (fun h10=>?_) (fun h10=>?_)
  ·refine zcl (A9 sl _ hl) ?_
   refine zcd (fun h11=>?_) (fun h11=>?_)
   ·refine zf1 ?_
    all_goals exact a7I
   refine zgo ?_
   refine ⟨(i+1),?_,?_,⟨⟨_,rfl,by rfl⟩,rfl,trivial⟩,trivial,rfl,rfl,rfl⟩
   ·exact ⟨by omega,p7 hinv.2 (a4A (by omega) ⟨p6.mp d8,p6.mp d8,p6.mp d8⟩ (by omega) (fun h=>by omega))⟩
   omega
  refine zwf ?_
  refine zgo ?_
  refine ⟨(i+1),?_,?_,⟨⟨_,rfl,by rfl⟩,rfl,trivial⟩,trivial,rfl,rfl,rfl⟩
  ·exact ⟨by omega,p7 hinv.2 (a4A (by omega) ⟨p6.mp d8,p6.mp d8,p6.mp d8⟩ (by omega) (fun h=>by omega))⟩
  omega
 refine zf1 ?_
 all_goals exact a7I
end Go.Proofs.YtcnodpipinlpcaaGreat
set_option maxRecDepth 20000
namespace Go.Proofs.YtcnodpipinlpcaaGreat
open Go Go.Rf
theorem w5 (sl:List Slot) (i:Int) (x:Slot) (hl:sl.length≤1048576) (hi:0≤i∧i < sl.length):Ctr Tryz.prog 216 [.lst 3 (sl.map p4),.v (.int .i64 i),.v (b4h x)] (.one (.fr 154 3 ((sl.set i.toNat x).map p4))):=by
 refine Ctr.of (n:=16) G Tryz.func216 rfl b5 rfl rfl rfl (fun w0=>?_)
 refine zgo ?_
 refine vm6 ?_
 refine F6 ?_
 refine k6 G 2 rfl rfl rfl rfl rfl rfl rfl rfl ?_
 refine b30 ?_
 refine F6 ?_
 refine a3 rfl rfl (k8 G rfl rfl rfl rfl rfl (by omega) u5) ?_
 refine y6 ?_
 first | refine i6 G rfl rfl rfl rfl rfl (t8 (by omega) (by omega)) rfl rfl rfl rfl rfl (Nat.le_of_ble_eq_true rfl) rfl ?_ | refine i6 G rfl rfl rfl rfl rfl (by simp;exact ⟨by omega,rfl⟩) rfl rfl rfl rfl rfl (Nat.le_of_ble_eq_true rfl) rfl ?_
 refine zfo ?_
 all_goals (first | rfl | exact a5H | (simp only [List.nil_append];exact a5H))
theorem R6 (sl:List Slot) (hl:sl.length≤1048576):Ctr Tryz.prog 215 [.lst 3 (sl.map p4),.v (.bool true)] (.one (.v (.int .i64 (bstS sl true)))):=by
 refine Ctr.of (n:=66) G Tryz.func215 rfl b5 rfl rfl rfl (fun w0=>?_)
 refine zgo ?_
 refine m4 [0,1] [] (fun (i:Nat)=>[(5,.v (.int .i64 (G1 sl true i))),(6,.v (.int .i64 (i:Int)))]) (fun (i:Nat)=>[]) (fun (i:Nat)=>i≤sl.length) (fun (i:Nat)=>sl.length - i) 0 rfl rfl ?_ ?_ ?_ ?_
 ·exact Nat.zero_le _
 ·exact ⟨⟨_,rfl,by rfl⟩,rfl,⟨⟨_,rfl,by rfl⟩,rfl,trivial⟩⟩
 ·exact trivial
 intro i hinv
 have hb:=@a0I sl true i
 simp only [List.cons_append,List.nil_append]
 refine zcd (fun h1=>?_) (fun h1=>?_)
 ·refine a8y ?_
  refine zcd (fun h2=>?_) (fun h2=>?_)
  ·refine zgo ?_
   refine ⟨(i+1),?_,?_,⟨⟨_,rfl,by (first | rfl | (rw [v1 (C7 d8)];done) | (rw [u9 (C8 (by omega) d8)];done) | (rw [u9 ((u6 (by omega) (by omega)).trans J9)];done) | (rw [v1 ((u6 (by omega) (by omega)).trans J9)];done))⟩,rfl,⟨⟨_,rfl,by (first | rfl | (rw [v1 (C7 d8)];done) | (rw [u9 (C8 (by omega) d8)];done) | (rw [u9 ((u6 (by omega) (by omega)).trans J9)];done) | (rw [v1 ((u6 (by omega) (by omega)).trans J9)];done))⟩,rfl,trivial⟩⟩,trivial,rfl,rfl,rfl⟩
   ·omega
   omega
  refine zgd ?_
  refine zcd (fun h3=>?_) (fun h3=>?_)
  ·refine zwt ?_
   refine zgo ?_
   refine ⟨(i+1),?_,?_,⟨⟨_,rfl,by (first | rfl | (rw [v1 (C7 d8)];done) | (rw [u9 (C8 (by omega) d8)];done) | (rw [u9 ((u6 (by omega) (by omega)).trans J9)];done) | (rw [v1 ((u6 (by omega) (by omega)).trans J9)];done))⟩,rfl,⟨⟨_,rfl,by (first | rfl | (rw [v1 (C7 d8)];done) | (rw [u9 (C8 (by omega) d8)];done) | (rw [u9 ((u6 (by omega) (by omega)).trans J9)];done) | (rw [v1 ((u6 (by omega) (by omega)).trans J9)];done))⟩,rfl,trivial⟩⟩,trivial,rfl,rfl,rfl⟩
   ·omega
   omega
  refine zcl (K0 _ _ _ _) ?_
  refine zcd (fun h4=>?_) (fun h4=>?_)
  ·refine zwt ?_
   refine zgo ?_
   refine ⟨(i+1),?_,?_,⟨⟨_,rfl,by (first | rfl | (rw [v1 (C7 d8)];done) | (rw [u9 (C8 (by omega) d8)];done) | (rw [u9 ((u6 (by omega) (by omega)).trans J9)];done) | (rw [v1 ((u6 (by omega) (by omega)).trans J9)];done))⟩,rfl,⟨⟨_,rfl,by (first | rfl | (rw [v1 (C7 d8)];done) | (rw [u9 (C8 (by omega) d8)];done) | (rw [u9 ((u6 (by omega) (by omega)).trans J9)];done) | (rw [v1 ((u6 (by omega) (by omega)).trans J9)];done))⟩,rfl,trivial⟩⟩,trivial,rfl,rfl,rfl⟩
   ·omega
   omega
  refine zwf ?_
  refine zgo ?_
  refine ⟨(i+1),?_,?_,⟨⟨_,rfl,by (first | rfl | (rw [v1 (C7 d8)];done) | (rw [u9 (C8 (by omega) d8)];done) | (rw [u9 ((u6 (by omega) (by omega)).trans J9)];done) | (rw [v1 ((u6 (by omega) (by omega)).trans J9)];done))⟩,rfl,⟨⟨_,rfl,by (first | rfl | (rw [v1 (C7 d8)];done) | (rw [u9 (C8 (by omega) d8)];done) | (rw [u9 ((u6 (by omega) (by omega)).trans J9)];done) | (rw [v1 ((u6 (by omega) (by omega)).trans J9)];done))⟩,rfl,trivial⟩⟩,trivial,rfl,rfl,rfl⟩
  ·omega
  omega
 refine zf1 ?_
 all_goals ((rw [a8S (by omega)]))
theorem a0Y (sl:List Slot) (hl:sl.length≤1048576):Ctr Tryz.prog 215 [.lst 3 (sl.map p4),.v (.bool false)] (.one (.v (.int .i64 (bstS sl false)))):=by
 refine Ctr.of (n:=66) G Tryz.func215 rfl b5 rfl rfl rfl (fun w0=>?_)
 refine zgo ?_
 refine m4 [0,1] [] (fun (i:Nat)=>[(5,.v (.int .i64 (G1 sl false i))),(6,.v (.int .i64 (i:Int)))]) (fun (i:Nat)=>[]) (fun (i:Nat)=>i≤sl.length) (fun (i:Nat)=>sl.length - i) 0 rfl rfl ?_ ?_ ?_ ?_
 ·exact Nat.zero_le _
 ·exact ⟨⟨_,rfl,by rfl⟩,rfl,⟨⟨_,rfl,by rfl⟩,rfl,trivial⟩⟩
 ·exact trivial
 intro i hinv
 have hb:=@a0I sl false i
 simp only [List.cons_append,List.nil_append]
 refine zcd (fun h1=>?_) (fun h1=>?_)
 ·refine a8y ?_
  refine zcd (fun h2=>?_) (fun h2=>?_)
  ·refine zgo ?_
   refine ⟨(i+1),?_,?_,⟨⟨_,rfl,by (first | rfl | (rw [v1 (C7 d8)];done) | (rw [u9 (C8 (by omega) d8)];done) | (rw [u9 ((u6 (by omega) (by omega)).trans J9)];done) | (rw [v1 ((u6 (by omega) (by omega)).trans J9)];done))⟩,rfl,⟨⟨_,rfl,by (first | rfl | (rw [v1 (C7 d8)];done) | (rw [u9 (C8 (by omega) d8)];done) | (rw [u9 ((u6 (by omega) (by omega)).trans J9)];done) | (rw [v1 ((u6 (by omega) (by omega)).trans J9)];done))⟩,rfl,trivial⟩⟩,trivial,rfl,rfl,rfl⟩
   ·omega
   omega
  refine zgd ?_
  refine zcd (fun h3=>?_) (fun h3=>?_)
  ·refine zwt ?_
   refine zgo ?_
   refine ⟨(i+1),?_,?_,⟨⟨_,rfl,by (first | rfl | (rw [v1 (C7 d8)];done) | (rw [u9 (C8 (by omega) d8)];done) | (rw [u9 ((u6 (by omega) (by omega)).trans J9)];done) | (rw [v1 ((u6 (by omega) (by omega)).trans J9)];done))⟩,rfl,⟨⟨_,rfl,by (first | rfl | (rw [v1 (C7 d8)];done) | (rw [u9 (C8 (by omega) d8)];done) | (rw [u9 ((u6 (by omega) (by omega)).trans J9)];done) | (rw [v1 ((u6 (by omega) (by omega)).trans J9)];done))⟩,rfl,trivial⟩⟩,trivial,rfl,rfl,rfl⟩
   ·omega
   omega
  refine zcl (K0 _ _ _ _) ?_
  refine zcd (fun h4=>?_) (fun h4=>?_)
  ·refine zgo ?_
   refine ⟨(i+1),?_,?_,⟨⟨_,rfl,by (first | rfl | (rw [v1 (C7 d8)];done) | (rw [u9 (C8 (by omega) d8)];done) | (rw [u9 ((u6 (by omega) (by omega)).trans J9)];done) | (rw [v1 ((u6 (by omega) (by omega)).trans J9)];done))⟩,rfl,⟨⟨_,rfl,by (first | rfl | (rw [v1 (C7 d8)];done) | (rw [u9 (C8 (by omega) d8)];done) | (rw [u9 ((u6 (by omega) (by omega)).trans J9)];done) | (rw [v1 ((u6 (by omega) (by omega)).trans J9)];done))⟩,rfl,trivial⟩⟩,trivial,rfl,rfl,rfl⟩
   ·omega
   omega
  refine zgo ?_
  refine ⟨(i+1),?_,?_,⟨⟨_,rfl,by (first | rfl | (rw [v1 (C7 d8)];done) | (rw [u9 (C8 (by omega) d8)];done) | (rw [u9 ((u6 (by omega) (by omega)).trans J9)];done) | (rw [v1 ((u6 (by omega) (by omega)).trans J9)];done))⟩,rfl,⟨⟨_,rfl,by (first | rfl | (rw [v1 (C7 d8)];done) | (rw [u9 (C8 (by omega) d8)];done) | (rw [u9 ((u6 (by omega) (by omega)).trans J9)];done) | (rw [v1 ((u6 (by omega) (by omega)).trans J9)];done))⟩,rfl,trivial⟩⟩,trivial,rfl,rfl,rfl⟩
  ·omega
  omega
 refine zf1 ?_
 all_goals ((rw [a8S (by omega)]))
theorem a6T (wa:List Wtr) (irq:Int) (hw:wa.length≤1048576):Ctr Tryz.prog 186 [.lst 2 (wa.map s6),.v (.int .i64 irq)] (.one (.v (.int .i64 (inW wa irq)))):=by
 refine Ctr.of (n:=20) G Tryz.func186 rfl b5 rfl rfl rfl (fun w0=>?_)
 refine zgo ?_
 refine m4 [0,1] [] (fun (i:Nat)=>[(5,.v (.int .i64 (i:Int)))]) (fun (i:Nat)=>[]) (fun (i:Nat)=>i≤wa.length∧∀ j,j < i→decide ((wa.getD j default).q=irq)=false) (fun (i:Nat)=>wa.length - i) 0 rfl rfl ?_ ?_ ?_ ?_
 ·exact ⟨Nat.zero_le _,fun j hj=>by omega⟩
 ·exact ⟨⟨_,rfl,by (first | rfl | (simp;done) | (simp;omega))⟩,rfl,trivial⟩
 ·exact trivial
 intro i hinv
 simp only [List.cons_append,List.nil_append]
 refine zcd (fun h1=>?_) (fun h1=>?_)
 ·refine zcd (fun h2=>?_) (fun h2=>?_)
  ·refine zf1 ?_
   all_goals exact b4M
  refine zgo ?_
  refine ⟨(i+1),?_,?_,⟨⟨_,rfl,by rfl⟩,rfl,trivial⟩,trivial,rfl,rfl,rfl⟩
  ·exact ⟨by omega,p7 hinv.2 (decide_eq_false d8)⟩
  omega
 refine zf1 ?_
 all_goals exact b4M
end Go.Proofs.YtcnodpipinlpcaaGreat
