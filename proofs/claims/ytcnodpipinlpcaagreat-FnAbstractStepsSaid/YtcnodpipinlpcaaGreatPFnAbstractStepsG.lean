/- Texts merged into one: M15, M16, M17, M12, M13, M18. -/
import Derived.Test.YtcnodpipinlpcaaGreatPFnAbstractStepsF
set_option maxHeartbeats 4000000
set_option linter.unusedSimpArgs false
set_option linter.unusedVariables false
set_option maxRecDepth 20000
namespace Go.Proofs.YtcnodpipinlpcaaGreat
open Go Go.Rf
theorem a5A (x:Ifc) (hn:x.st.length≤1048576) (hl:x.qu.sl.length≤1048576) (hw:x.qu.wa.length≤1048576):Ctr Tryz.prog 149 [.agg [.v (.int .i64 x.ma),.lst 1 (x.st.map Rf.r5),.lst 3 (x.qu.sl.map p4),.lst 2 (x.qu.wa.map s6)]] (.one (.v (.bool (a04 x)))):=by
 refine Ctr.of (n:=74) G Tryz.func149 rfl b5 rfl rfl rfl (fun w0=>?_)
 refine r8 0 rfl (fun _=>rfl) (fun u0=>?_)
 refine a3i ?_
 refine vm6 ?_
 refine zgn ?_
 refine G3 ?_
 refine a3i ?_
 iterate 2 refine zst ?_
 refine y6 ?_
 refine a3 rfl rfl (k5 rfl (ArgsOK.of rfl) (E9 x.ma 0 16) rfl) ?_
 iterate 2 refine zst ?_
 refine o8 rfl rfl rfl (fun h1=>?_) (fun h1=>?_)
 ·try rw [h1]
  try simp only [rfb] at h1
  refine zgn ?_
  refine r7 rfl ?_
  refine a4j ?_
  all_goals exact a9R
 try rw [h1]
 try simp only [rfb] at h1
 iterate 2 refine zst ?_
 refine c6 rfl rfl rfl (a3 rfl rfl (k5 rfl (ArgsOK.of rfl) (a5K x.qu hl hw) rfl) ?_)
 refine zgn ?_
 refine d1 rfl (fun h2=>?_) (fun h2=>?_)
 ·try rw [h2]
  try simp only [rfb] at h2
  refine a4j ?_
  all_goals exact a9R
 try rw [h2]
 try simp only [rfb] at h2
 have hq:=a5h.mp h2
 have hSl:=hq.1.sl
 have hl4:=hSl.len
 refine zgn ?_
 refine a3i ?_
 refine a5t ?_
 refine y6 ?_
 refine g8 2 rfl rfl rfl (ArgsOK.of rfl) (a4l x.qu.sl hSl) rfl rfl ?_
 refine zgn ?_
 refine zgn ?_
 refine l8 (m4 [1,3] [0,1] (fun (i:Nat)=>[(4,.v (.int .i64 (i:Int)))]) (fun (i:Nat)=>[]) (fun (i:Nat)=>i≤x.st.length∧StP x.qu.sl x.st i) (fun (i:Nat)=>x.st.length - i) 0 rfl rfl ?_ ?_ ?_ ?_)
 ·exact ⟨Nat.zero_le _,b4p⟩
 ·exact ⟨⟨_,rfl,by (first | rfl | (simp;done) | (simp;omega))⟩,rfl,trivial⟩
 ·exact trivial
 intro i hinv
 have hti:0 < i→((i:Int) - 1).toNat=i - 1:=fun _=>(by omega)
 simp only [List.cons_append,List.nil_append]
 refine zgn ?_
 refine d1 rfl (fun h3=>?_) (fun h3=>?_)
 ·try rw [h3]
  try simp only [rfb] at h3
  refine zgn ?_
  refine G3 (l8 (G3 ?_))
  refine b1n ?_
  iterate 6 refine zst ?_
  refine d6 rfl (j5 rfl rfl (k5 rfl b2B (T6 (a3I x.qu.sl 4) _ (by have:=@a26 x.qu.sl 4;have:=@a1o x.qu.sl 4;omega)) rfl) ?_)
  iterate 2 refine zst ?_
  refine L0 rfl rfl rfl (fun h4=>?_) (fun h4=>?_)
  ·try rw [h4]
   try simp only [rfb] at h4
   refine zgn ?_
   refine r7 rfl ?_
   refine a4j ?_
   all_goals exact a9R
  try rw [h4]
  try simp only [rfb] at h4
  have hm:=(a25 4).mp (a5m.mp h4)
  refine a5t ?_
  refine a5u ?_
  first | refine j5 rfl rfl (N0 G rfl rfl rfl rfl rfl (by omega) (by omega) (by omega)) ?_ | refine j5 rfl rfl (N0 G rfl rfl rfl rfl rfl (by omega) a7L a7L) ?_
  iterate 5 refine zst ?_
  refine a5u ?_
  refine j5 rfl rfl (k5 rfl b2B (T6 (x.st.take i) _ (by rw [List.length_take];omega)) rfl) ?_
  refine zgn ?_
  refine d1 rfl (fun h5=>?_) (fun h5=>?_)
  ·try rw [h5]
   try simp only [rfb] at h5
   refine a4j ?_
   all_goals exact a9R
  try rw [h5]
  try simp only [rfb] at h5
  refine zgn ?_
  refine b1n ?_
  refine a5t ?_
  refine L0 rfl rfl rfl (fun h6=>?_) (fun h6=>?_)
  ·try rw [h6]
   try simp only [rfb] at h6
   have hl1:=b0W (hinv.2.inn (i - 1) (by omega)) hl4
   have hl2:=b0W hm hl4
   iterate 5 refine zst ?_
   refine a5u ?_
   refine b44 ?_
   refine a5u ?_
   refine j5 rfl rfl (k5 rfl (ArgsOK.of rfl) (R7 x.qu _ hl (by rw [hti (by omega)];exact hl1)) rfl) ?_
   iterate 7 refine zst ?_
   refine a5u ?_
   refine j5 rfl rfl (k5 rfl (ArgsOK.of rfl) (R7 x.qu _ hl hl2) rfl) ?_
   refine zgn ?_
   refine d1 rfl (fun h7=>?_) (fun h7=>?_)
   ·try rw [h7]
    try simp only [rfb] at h7
    refine a4j ?_
    all_goals exact a9R
   try rw [h7]
   try simp only [rfb] at h7
   refine a8A ?_
   refine ⟨(i+1),?_,?_,⟨⟨_,rfl,by rfl⟩,rfl,trivial⟩,trivial,rfl,rfl,rfl⟩
   ·exact ⟨by omega,hinv.2.succ hm (fun k hk e=>(a4H.mp h5) ((a1p (by omega)).mpr ⟨k,hk,e⟩)) b2D⟩
   omega
  try rw [h6]
  try simp only [rfb] at h6
  refine zgn ?_
  refine B1 rfl ?_
  refine a8A ?_
  refine ⟨(i+1),?_,?_,⟨⟨_,rfl,by rfl⟩,rfl,trivial⟩,trivial,rfl,rfl,rfl⟩
  ·exact ⟨by omega,hinv.2.succ hm (fun k hk e=>(a4H.mp h5) ((a1p (by omega)).mpr ⟨k,hk,e⟩)) b2D⟩
  omega
 try rw [h3]
 try simp only [rfb] at h3
 refine zgn ?_
 refine a4j ?_
 all_goals exact a9R
theorem a4q (rs:List Route) (q:Que) (k:Nat) (hr8:rs.length=8) (hF:QF q) (hk:k≤8):Ctr Tryz.prog 150 [.lst 2 (rs.map u7),.agg [.lst 3 (q.sl.map p4),.lst 2 (q.wa.map s6)],.v (.int .i64 (k:Int))] (.one (.v (.bool (okRq rs q k)))):=by
 have hl4:=hF.sl.len
 have hwn:=hF.wn8
 refine Ctr.of (n:=83) G Tryz.func150 rfl b5 rfl rfl rfl (fun w0=>?_)
 refine r8 1 rfl (fun _=>rfl) (fun u1=>?_)
 refine zgo ?_
 refine vm6 ?_
 refine zgo ?_
 refine m4 [0,2,4] [0] (fun (i:Nat)=>[(7,.v (.int .i64 (i:Int)))]) (fun (i:Nat)=>[]) (fun (i:Nat)=>i≤4∧∀ t,t < i→rtS rs k (q.sl.getD t default)=true) (fun (i:Nat)=>4 - i) 0 rfl rfl ?_ ?_ ?_ ?_
 ·exact ⟨Nat.zero_le _,fun j hj=>by omega⟩
 ·exact ⟨⟨_,rfl,by (first | rfl | (simp;done) | (simp;omega))⟩,rfl,trivial⟩
 ·exact trivial
 intro i hi
 simp only [List.cons_append,List.nil_append]
 refine zcd (fun h1=>?_) (fun h1=>?_)
 ·refine zgo ?_
  refine vm9 ?_
  refine zgd ?_
  refine zcd (fun h2=>?_) (fun h2=>?_)
  ·refine zwt ?_
   refine zf1 ?_
   all_goals exact a9S
  have hb0:=hF.sl.ok i (by omega)
  refine zcd (fun h3=>?_) (fun h3=>?_)
  ·have hb:=(hF.sl.ok i (by omega) h3).2.1
   refine zcd (fun h4=>?_) (fun h4=>?_)
   ·refine zwt ?_
    refine zf1 ?_
    all_goals exact a9S
   refine zcd (fun h5=>?_) (fun h5=>?_)
   ·refine zf1 ?_
    all_goals exact a9S
   refine zgo ?_
   refine ⟨(i+1),?_,?_,⟨⟨_,rfl,by rfl⟩,rfl,trivial⟩,trivial,rfl,rfl,rfl⟩
   ·exact ⟨by omega,p7 hi.2 (a29.mpr ⟨by omega,by first | exact .inl (by omega) | exact .inr ⟨by assumption,by assumption⟩⟩)⟩
   omega
  refine zwf ?_
  refine zgo ?_
  refine ⟨(i+1),?_,?_,⟨⟨_,rfl,by rfl⟩,rfl,trivial⟩,trivial,rfl,rfl,rfl⟩
  ·exact ⟨by omega,p7 hi.2 (a29.mpr ⟨by omega,by first | exact .inl (by omega) | exact .inr ⟨by assumption,by assumption⟩⟩)⟩
  omega
 refine zgo ?_
 refine m4 [0,2,4] [0] (fun (j:Nat)=>[(9,.v (.int .i64 (j:Int)))]) (fun (j:Nat)=>[]) (fun (j:Nat)=>j≤q.wa.length∧∀ t,t < j→rtW rs k (q.wa.getD t default)=true) (fun (j:Nat)=>q.wa.length - j) 0 rfl rfl ?_ ?_ ?_ ?_
 ·exact ⟨Nat.zero_le _,fun j hj=>by omega⟩
 ·exact ⟨⟨_,rfl,by (first | rfl | (simp;done) | (simp;omega))⟩,rfl,trivial⟩
 ·exact trivial
 intro j hj
 simp only [List.cons_append,List.nil_append]
 refine zcd (fun h6=>?_) (fun h6=>?_)
 ·have hbw:=(hF.wa _ (e7.mpr ⟨j,by omega,rfl⟩)).1
  refine zgo ?_
  refine vm9 ?_
  refine zgd ?_
  refine zcd (fun h7=>?_) (fun h7=>?_)
  ·refine zwt ?_
   refine zf1 ?_
   all_goals exact a9S
  refine zcd (fun h8=>?_) (fun h8=>?_)
  ·refine zf1 ?_
   all_goals exact a9S
  refine zgo ?_
  refine ⟨(j+1),?_,?_,⟨⟨_,rfl,by rfl⟩,rfl,trivial⟩,trivial,rfl,rfl,rfl⟩
  ·exact ⟨by omega,p7 hj.2 (a28.mpr ⟨by assumption,by assumption⟩)⟩
  omega
 refine zf1 ?_
 all_goals exact a9S
end Go.Proofs.YtcnodpipinlpcaaGreat
set_option maxRecDepth 20000
namespace Go.Proofs.YtcnodpipinlpcaaGreat
open Go Go.Rf
end Go.Proofs.YtcnodpipinlpcaaGreat
set_option maxRecDepth 20000
namespace Go.Proofs.YtcnodpipinlpcaaGreat
open Go Go.Rf
theorem a5B (m:Mach) (hs:SmallM m):Ctr Tryz.prog 96 [.agg [.lst 2 (m.rs.map u7),.lst 1 (m.en.map l0),.lst 1 (m.ra.map l0),.nst none 4 (m.cp.map (H7 154 183))]] (.one (.v (.bool (a27 m)))):=by
 have z0:=hs.rs
 have z1:=hs.en
 have z2:=hs.ra
 have z3:=hs.cp
 refine Ctr.of (n:=50) G Tryz.func96 rfl b5 rfl rfl rfl (fun w0=>?_)
 refine r8 0 rfl (fun _=>rfl) (fun u0=>?_)
 refine zgo ?_
 refine vm6 ?_
 refine zcl (R3 m.rs _ (by omega)) ?_
 refine zcd (fun h1=>?_) (fun h1=>?_)
 ·refine zwt ?_
  refine zf1 ?_
  all_goals exact a9T
 have hr8:=(z4.mp h1).2.1
 have hc2:=(z4.mp h1).1
 refine zcd (fun h2=>?_) (fun h2=>?_)
 ·refine zwt ?_
  refine zf1 ?_
  all_goals exact a9T
 refine zcd (fun h3=>?_) (fun h3=>?_)
 ·refine zf1 ?_
  all_goals exact a9T
 refine zgo ?_
 refine m4 [1] [0] (fun (k:Nat)=>[(3,.v (.int .i64 (k:Int)))]) (fun (k:Nat)=>[]) (fun (k:Nat)=>k≤m.cp.length∧∀ j,j < k→a3J m j=true) (fun (k:Nat)=>m.cp.length - k) 0 rfl rfl ?_ ?_ ?_ ?_
 ·exact ⟨Nat.zero_le _,fun j hj=>by omega⟩
 ·exact ⟨⟨_,rfl,by (first | rfl | (simp;done) | (simp;omega))⟩,rfl,trivial⟩
 ·exact trivial
 intro k hk
 simp only [List.cons_append,List.nil_append]
 refine zcd (fun h4=>?_) (fun h4=>?_)
 ·have hsz:=hs.allI (i:=k) (by omega)
  have hsz2:szI (m.cp.getD k default)=(m.cp.getD k default).st.length+(m.cp.getD k default).qu.sl.length+(m.cp.getD k default).qu.wa.length:=rfl
  refine zgd ?_
  refine zcl (a5A (m.cp.getD k default) (by omega) (by omega) (by omega)) ?_
  refine zcd (fun h5=>?_) (fun h5=>?_)
  ·refine zwt ?_
   refine zf1 ?_
   all_goals exact a9T
  have hIF:=(a8m h5).1
  refine zgo ?_
  refine a5u ?_
  refine j5 rfl rfl (N8 G rfl rfl rfl rfl) ?_
  refine zcl (a4q m.rs (m.cp.getD k default).qu k hr8 hIF.qu (by omega)) ?_
  refine zcd (fun h6=>?_) (fun h6=>?_)
  ·refine zf1 ?_
   all_goals exact a9T
  refine zgo ?_
  refine ⟨(k+1),?_,?_,⟨⟨_,rfl,by rfl⟩,rfl,trivial⟩,trivial,rfl,rfl,rfl⟩
  ·exact ⟨by omega,p7 hk.2 (b3l d8 d8)⟩
  omega
 refine zf1 ?_
 all_goals exact a9T
end Go.Proofs.YtcnodpipinlpcaaGreat
set_option maxRecDepth 20000
namespace Go.Proofs.YtcnodpipinlpcaaGreat
open Go Go.Rf
end Go.Proofs.YtcnodpipinlpcaaGreat
set_option maxRecDepth 20000
namespace Go.Proofs.YtcnodpipinlpcaaGreat
open Go Go.Rf
theorem a3W (q:Que) (hF:QF q):Ctr Tryz.prog 151 [.agg [.lst 3 (q.sl.map p4),.lst 2 (q.wa.map s6)]] (.one (.fr 3 1 ((J4 q).map Rf.r5))):=by
 have hl4:=hF.sl.len
 have hwn:=hF.wn8
 refine Ctr.of (n:=55) G Tryz.func151 rfl b5 rfl rfl rfl (fun w0=>?_)
 refine r8 0 rfl (fun _=>rfl) (fun u0=>?_)
 refine zgo ?_
 refine vm6 ?_
 refine F6 ?_
 refine k6 G 2 rfl rfl rfl rfl rfl rfl rfl rfl ?_
 refine F6 ?_
 refine b43 ?_
 refine m4 [1] [0] (fun (i:Nat)=>[(3,.own 1),(4,.v (.int .i64 (i:Int)))]) (fun (i:Nat)=>[(1,some (.row 183 2 ((pnS q i).map s6)))]) (fun (i:Nat)=>i≤4) (fun (i:Nat)=>4 - i) 0 rfl rfl ?_ ?_ ?_ ?_
 ·exact Nat.zero_le _
 ·exact ⟨⟨_,rfl,by rfl⟩,rfl,⟨⟨_,rfl,by rfl⟩,rfl,trivial⟩⟩
 ·exact ⟨⟨_,rfl,by rfl⟩,rfl,rfl,trivial⟩
 intro i hi
 have hpl:=@a4F q i
 simp only [List.cons_append,List.nil_append]
 refine zcd (fun h1=>?_) (fun h1=>?_)
 ·refine F6 ?_
  refine d7 G 3 rfl rfl rfl rfl rfl ?_
  refine zcd (fun h2=>?_) (fun h2=>?_)
  ·refine zwt ?_
   refine b47 ?_
   refine m7 (Gh.sub 3 1 np rfl rfl rfl) (a4 ⟨(i+1),?_,?_,⟨⟨_,rfl,by rfl⟩,rfl,⟨⟨_,rfl,by rfl⟩,rfl,trivial⟩⟩,⟨⟨_,rfl,by (first | (rw [a24 (by omega),List.map_append];rfl) | (rw [a24 (by omega)];done) | (rw [a24 (by omega)];rfl) | (rw [b0Q (by omega)];done))⟩,rfl,rfl,trivial⟩,rfl,rfl,rfl⟩)
   ·omega
   omega
  refine zcd (fun h3=>?_) (fun h3=>?_)
  ·refine b47 ?_
   refine m7 (Gh.sub 3 1 np rfl rfl rfl) (a4 ⟨(i+1),?_,?_,⟨⟨_,rfl,by rfl⟩,rfl,⟨⟨_,rfl,by rfl⟩,rfl,trivial⟩⟩,⟨⟨_,rfl,by (first | (rw [a24 (by omega),List.map_append];rfl) | (rw [a24 (by omega)];done) | (rw [a24 (by omega)];rfl) | (rw [b0Q (by omega)];done))⟩,rfl,rfl,trivial⟩,rfl,rfl,rfl⟩)
   ·omega
   omega
  refine zgo ?_
  refine ⟨(i+1),?_,?_,⟨⟨_,rfl,by rfl⟩,rfl,⟨⟨_,rfl,by rfl⟩,rfl,trivial⟩⟩,⟨⟨_,rfl,by (first | (rw [a24 (by omega),List.map_append];rfl) | (rw [a24 (by omega)];done) | (rw [a24 (by omega)];rfl) | (rw [b0Q (by omega)];done))⟩,rfl,rfl,trivial⟩,rfl,rfl,rfl⟩
  ·omega
  omega
 obtain rfl:i=4:=(by omega)
 refine F6 ?_
 refine k6 G 3 rfl rfl rfl rfl rfl rfl rfl rfl ?_
 refine zgo ?_
 refine m4 [3] [1] (fun (i:Nat)=>[(6,.own 2),(7,.v (.int .i64 (i:Int)))]) (fun (i:Nat)=>[(2,some (.row 3 1 (((J4 q).take i).map Rf.r5)))]) (fun (i:Nat)=>i≤(pnS q 4).length) (fun (i:Nat)=>(pnS q 4).length - i) 0 rfl rfl ?_ ?_ ?_ ?_
 ·exact Nat.zero_le _
 ·exact ⟨⟨_,rfl,by rfl⟩,rfl,⟨⟨_,rfl,by rfl⟩,rfl,trivial⟩⟩
 ·exact ⟨⟨_,rfl,by rfl⟩,rfl,rfl,trivial⟩
 intro i hi
 have hpl:=@a4F q 4
 simp only [List.cons_append,List.nil_append]
 refine zcd (fun h4=>?_) (fun h4=>?_)
 ·refine zgo ?_
  refine vm4 ?_
  refine a3 rfl rfl (Q7 G rfl rfl rfl rfl) ?_
  refine y6 ?_
  refine a3 rfl rfl (u3 G rfl rfl rfl rfl rfl (C3 (by omega) u5) rfl) ?_
  refine y6 ?_
  refine k6 G 4 rfl rfl rfl rfl rfl rfl rfl rfl ?_
  refine y6 ?_
  refine b43 ?_
  refine ⟨(i+1),?_,?_,⟨⟨_,rfl,by rfl⟩,rfl,⟨⟨_,rfl,by rfl⟩,rfl,trivial⟩⟩,⟨⟨_,rfl,by (exact congrArg (fun z=>Row.row _ _ z) (b0T (by omega)))⟩,rfl,rfl,trivial⟩,rfl,rfl,rfl⟩
  ·omega
  omega
 refine zfo ?_
 all_goals (first | rfl | (rw [b1S (by omega)]))
end Go.Proofs.YtcnodpipinlpcaaGreat
set_option maxRecDepth 20000
namespace Go.Proofs.YtcnodpipinlpcaaGreat
open Go Go.Rf
theorem a6W (m:Mach) (hM:MaF m) (hs:SmallM m):Ctr Tryz.prog 97 [.agg [.lst 2 (m.rs.map u7),.lst 1 (m.en.map l0),.lst 1 (m.ra.map l0),.nst none 4 (m.cp.map (H7 154 183))]] (.shp true [some 5] [.fr 4 1 ((r3 m).en.map l0),.fr 4 1 ((r3 m).ra.map l0),.fr 4 1 ((r3 m).po.map l0),.fr 3 1 ((r3 m).ma.map Rf.r5),.ne 26 1 ((r3 m).st.map s1)]):=by
 have f1:=hM.n
 have f2:=hM.en
 have f3:=hM.ra
 have f4:=hM.rn
 refine Ctr.of (n:=70) G Tryz.func97 rfl b5 rfl rfl rfl (fun w0=>?_)
 refine r8 0 rfl (fun _=>rfl) (fun u0=>?_)
 refine a2p ?_
 refine zgn ?_
 refine G3 (j9 14 [0,1] m5 b5 rfl rfl (fun r0=>?_) (fun _ h=>h))
 refine zsa 1 ?_
 refine zsa 2 ?_
 refine zsa 5 ?_
 refine zsa 6 ?_
 refine z8 (N:=8) rfl (s2 (fuel:=4) [⟨0,7,2,false,.row 4 1 []⟩,⟨4,11,3,false,.row 4 1 []⟩,⟨8,15,4,false,.row 4 1 (List.replicate 8 [.bool false])⟩,⟨9,16,5,false,.row 3 1 []⟩,⟨10,17,6,false,.row 26 1 []⟩,⟨12,3,7,true,.box (avR [.slice none 0 0,.slice none 0 0,.slice none 0 0,.slice none 0 0,.slice none 0 0] [])⟩] (AllVOK.cons (VOK.lit G rfl rfl rfl rfl rfl) (AllVOK.cons (VOK.lit G rfl rfl rfl rfl rfl) (AllVOK.cons (VOK.make (n:=8) G rfl rfl rfl rfl rfl (by decide) (by decide)) (AllVOK.cons (VOK.lit G rfl rfl rfl rfl rfl) (AllVOK.cons (VOK.lit G rfl rfl rfl rfl rfl) (AllVOK.cons (VOK.boxS G rfl rfl rfl rfl rfl) (AllVOK.nil))))))) (fun hok=>?_))
 refine n6 [(3,[0])] b5 b5 (fun e he=>hok e he) b5 (AllVS.cons ?_ AllVS.nil)
 refine VStep.mk1 [0,1] 7 (.own 2) 2 (.row 4 1 []) [⟨4,11,3,false,.row 4 1 []⟩,⟨8,15,4,false,.row 4 1 (List.replicate 8 [.bool false])⟩,⟨9,16,5,false,.row 3 1 []⟩,⟨10,17,6,false,.row 26 1 []⟩,⟨12,3,7,true,.box (avR [.slice none 0 0,.slice none 0 0,.slice none 0 0,.slice none 0 0,.slice none 0 0] [])⟩] rfl rfl rfl rfl rfl (fun b1 _ hbn=>f7 G a0Q rfl rfl rfl rfl rfl rfl rfl rfl rfl Z3 rfl rfl (a4 rfl)) b5 b5 b5 b5 (n6 [(7,[4])] b5 b5 (fun e he=>hok e (vin (is:=[0]) rfl he)) b5 (AllVS.cons ?_ AllVS.nil))
 refine VStep.mk1 [0,1] 11 (.own 3) 3 (.row 4 1 []) [⟨8,15,4,false,.row 4 1 (List.replicate 8 [.bool false])⟩,⟨9,16,5,false,.row 3 1 []⟩,⟨10,17,6,false,.row 26 1 []⟩,⟨12,3,7,true,.box (avR [.slice none 0 0,.slice none 0 0,.slice none 0 0,.slice none 0 0,.slice none 0 0] [])⟩] rfl rfl rfl rfl rfl (fun b1 _ hbn=>f7 G a0Q rfl rfl rfl rfl rfl rfl rfl rfl rfl Z3 rfl rfl (a4 rfl)) b5 b5 b5 b5 (n6 [(11,[8,9,10])] b5 b5 (fun e he=>hok e (vin (is:=[0,4]) rfl he)) b5 (AllVS.cons ?_ AllVS.nil))
 refine VStep.mk3 [0,1] 15 (.own 4) 4 (.row 4 1 (List.replicate 8 [.bool false])) 16 (.own 5) 5 (.row 3 1 []) 17 (.own 6) 6 (.row 26 1 []) [⟨12,3,7,true,.box (avR [.slice none 0 0,.slice none 0 0,.slice none 0 0,.slice none 0 0,.slice none 0 0] [])⟩] rfl rfl rfl rfl rfl (fun b1 _ hbn=>a3 rfl rfl (g0 G rfl rfl rfl rfl) (a4 rfl)) b5 b5 b5 b5 (n6 [(13,[12])] b5 b5 (fun e he=>hok e (vin (is:=[0,4,8,9,10]) rfl he)) b5 (AllVS.cons ?_ AllVS.nil))
 refine VStep.mk1 [0,1] 3 (.ptr 7 0) 7 (.box (avR [.slice none 0 0,.slice none 0 0,.slice none 0 0,.slice none 0 0,.slice none 0 0] [])) [] rfl rfl rfl rfl rfl (fun b1 _ hbn=>c5 G rfl rfl rfl rfl rfl rfl rfl rfl rfl rfl rfl (a4 rfl)) b5 b5 b5 b5 (F8 ?_)
 clear hok
 refine a5Z (Gh.nest (id:=6) (yss:=[]) rfl rfl (by intro _ _ _ h;simp at h)) ?_
 refine T5 ?_
 refine zgo ?_
 refine m4 [1,2,3] [0,1,2,3,7] (fun (k:Nat)=>[(4,.v (.int .i64 (k:Int)))]) (fun (k:Nat)=>[(4,some (.row 4 1 ((poN m k).map l0))),(5,some (.row 3 1 (((m.cp.map (fun x=>x.ma)).take k).map Rf.r5))),(6,some (.nest 26 1 (((m.cp.map (fun x=>x.st)).take k).map s1) []))]) (fun (k:Nat)=>k≤m.cp.length) (fun (k:Nat)=>m.cp.length - k) 0 rfl rfl ?_ ?_ ?_ ?_
 ·exact Nat.zero_le _
 ·exact ⟨⟨_,rfl,by rfl⟩,rfl,trivial⟩
 ·exact ⟨⟨_,rfl,by rfl⟩,rfl,rfl,⟨⟨_,rfl,by rfl⟩,rfl,rfl,⟨⟨_,rfl,by rfl⟩,rfl,rfl,trivial⟩⟩⟩
 intro k hk
 have hp8:=@C9 m k
 have hm1:(m.cp.map (fun x=>x.ma)).length=m.cp.length:=List.length_map _
 have hm2:(m.cp.map (fun x=>x.st)).length=m.cp.length:=List.length_map _
 simp only [List.cons_append,List.nil_append]
 refine zcd (fun h1=>?_) (fun h1=>?_)
 ·obtain ⟨hI,_,_,_⟩:=hM.ok k (by omega)
  have hsn:=hI.sn
  have hpl:=b0S hI.qu
  refine F6 ?_
  refine a3 rfl rfl (N8 G rfl rfl rfl rfl) ?_
  refine F6 ?_
  refine g8 9 rfl rfl rfl (ArgsOK.of rfl) (a3W (m.cp.getD k default).qu hI.qu) rfl rfl ?_
  refine zgo ?_
  refine m4 [1,2,3,4,5] [0,1,2,3,5,6,7,8] (fun (i:Nat)=>[(6,.v (.int .i64 (i:Int)))]) (fun (i:Nat)=>[(4,some (.row 4 1 ((a7y (poN m k) (J4 (m.cp.getD k default).qu) i).map l0)))]) (fun (i:Nat)=>i≤(J4 (m.cp.getD k default).qu).length) (fun (i:Nat)=>(J4 (m.cp.getD k default).qu).length - i) 0 rfl rfl ?_ ?_ ?_ ?_
  ·exact Nat.zero_le _
  ·exact ⟨⟨_,rfl,by rfl⟩,rfl,trivial⟩
  ·exact ⟨⟨_,rfl,by rfl⟩,rfl,rfl,trivial⟩
  intro i hi
  have hbp:=fun h=>a86 hI.qu (i:=i) h
  have hpo:=@R1 (poN m k) (J4 (m.cp.getD k default).qu) i
  have hp8:=@C9 m k
  simp only [List.cons_append,List.nil_append]
  refine zcd (fun h2=>?_) (fun h2=>?_)
  ·have hbq:=hbp (by omega)
   refine zgn ?_
   refine G3 (l8 (j9 8 [0,1,2,3,5,6,7,8] m5 b5 rfl rfl (fun r0=>?_) (fun _ h=>h)))
   refine a3O ?_
   first | refine b9 4 rfl b5 b5 rfl rfl rfl rfl (k8 G rfl rfl rfl rfl rfl (by omega) a6g) ?_ | refine b9 4 rfl b5 b5 rfl rfl rfl rfl (k8 G rfl rfl rfl rfl rfl (by omega) (by rw [List.length_map,R1,C9];omega)) ?_ | refine b9 4 rfl b5 b5 rfl rfl rfl rfl (k8 G rfl rfl rfl rfl rfl (by omega) u5) ?_ | refine b9 4 rfl b5 b5 rfl rfl rfl rfl (k8 G rfl rfl rfl rfl rfl (by omega) (by omega)) ?_
   first | refine b9 5 rfl b5 b5 rfl rfl rfl rfl (u3 G rfl rfl rfl rfl rfl (C4 (by omega)) rfl) ?_ | refine b9 5 rfl b5 b5 rfl rfl rfl rfl (u3 G rfl rfl rfl rfl rfl (C3 (by omega) (by rw [R1,C9];omega)) rfl) ?_ | refine b9 5 rfl b5 b5 rfl rfl rfl rfl (u3 G rfl rfl rfl rfl rfl (C3 (by omega) (by omega)) rfl) ?_
   refine a9 (rs:=[6]) b5 rfl (AllB.cons ?_ AllB.nil)
   first | refine c7 [0,1,2,3,5,6,7,8] rfl rfl (a3 rfl rfl (k8 G rfl rfl rfl rfl rfl (by omega) a6g) (a4 ⟨rfl,?_⟩)) | refine c7 [0,1,2,3,5,6,7,8] rfl rfl (a3 rfl rfl (k8 G rfl rfl rfl rfl rfl (by omega) (by rw [List.length_map,R1,C9];omega)) (a4 ⟨rfl,?_⟩)) | refine c7 [0,1,2,3,5,6,7,8] rfl rfl (a3 rfl rfl (k8 G rfl rfl rfl rfl rfl (by omega) u5) (a4 ⟨rfl,?_⟩)) | refine c7 [0,1,2,3,5,6,7,8] rfl rfl (a3 rfl rfl (k8 G rfl rfl rfl rfl rfl (by omega) (by omega)) (a4 ⟨rfl,?_⟩))
   refine a9 (rs:=[7]) b5 rfl (AllB.cons ?_ AllB.nil)
   first | refine c7 [0,1,2,3,5,6,7,8] rfl rfl (i6 G rfl rfl rfl rfl rfl (C4 (by omega)) rfl rfl rfl rfl rfl (Nat.le_of_ble_eq_true rfl) rfl (a4 ⟨rfl,?_⟩)) | refine c7 [0,1,2,3,5,6,7,8] rfl rfl (i6 G rfl rfl rfl rfl rfl (C3 (by omega) (by rw [R1,C9];omega)) rfl rfl rfl rfl rfl (Nat.le_of_ble_eq_true rfl) rfl (a4 ⟨rfl,?_⟩)) | refine c7 [0,1,2,3,5,6,7,8] rfl rfl (i6 G rfl rfl rfl rfl rfl (C3 (by omega) (by omega)) rfl rfl rfl rfl rfl (Nat.le_of_ble_eq_true rfl) rfl (a4 ⟨rfl,?_⟩))
   refine T5 ?_
   refine zgo ?_
   refine ⟨(i+1),?_,?_,⟨⟨_,rfl,by rfl⟩,rfl,trivial⟩,⟨⟨_,rfl,by (first | rfl | (exact congrArg (fun z=>Row.row _ _ z) (a4I (by omega))) | (exact congrArg (fun z=>Row.nest _ _ z []) (a4J (by omega) rfl)) | (exact congrArg (fun z=>Row.row _ _ z) a9l) | (obtain rfl:i=(J4 (m.cp.getD k default).qu).length:=(by omega);rfl))⟩,rfl,rfl,trivial⟩,rfl,rfl,rfl⟩
   ·omega
   omega
  refine zgo ?_
  apply F4 [1,2,3,4] [0,1,2,3,4,6,7,10] 11 12 [0,1,2,3,4,6,8] m5 b5 rfl rfl (fun _ h=>znk h)
  ·intro r0
   refine zsa 0 ?_
   refine zsa 2 ?_
   refine zsa 3 ?_
   refine zsa 4 ?_
   refine zsa 5 ?_
   refine b9 6 rfl b5 b5 rfl rfl rfl rfl (N8 G rfl rfl rfl rfl) (b9 7 rfl b5 b5 rfl rfl rfl rfl (z6 G rfl rfl rfl rfl) (a9 (rs:=[1,8]) b5 rfl (AllB.cons ?_ (AllB.cons ?_ AllB.nil))))
   ·refine m3 [0,1,2,3,4,6,8] rfl rfl ?_
    refine a1U ?_
    refine a9 (rs:=[8]) b5 rfl (AllB.cons ?_ AllB.nil)
    refine m3 [0,1,2,3,4,6,8] rfl rfl (k6 G 10 rfl rfl rfl rfl rfl rfl rfl rfl (a4 ⟨rfl,?_⟩))
    refine a9 (rs:=[9]) b5 rfl (AllB.cons ?_ AllB.nil)
    refine c7 [0,1,2,3,4,6,8] rfl rfl (s4 (Gh.forget (id:=7) (k:=3) rfl rfl)<|s4 (Gh.keep [0,1,2,3,4,5,6,7,8,9] rfl)<|y5 (tx:=47) 11 rfl rfl rfl rfl rfl<|f7 G E8 rfl rfl rfl rfl rfl rfl rfl rfl rfl Z3 rfl rfl (a4 ⟨rfl,?_⟩))
    refine zsa 10 ?_
    refine a9 (rs:=[11]) b5 rfl (AllB.cons ?_ AllB.nil)
    refine m3 [0,1,2,3,4,6,8] rfl rfl ?_
    refine a1U ?_
    exact l9 b5 (Meet.mk rfl rfl rfl rfl)
   refine m3 [0,1,2,3,4,6,8] rfl rfl (k6 G 10 rfl rfl rfl rfl rfl rfl rfl rfl (a4 ⟨rfl,?_⟩))
   refine a9 (rs:=[1]) b5 rfl (AllB.cons ?_ AllB.nil)
   refine m3 [0,1,2,3,4,6,8] rfl rfl ?_
   refine a1U ?_
   refine a9 (rs:=[9]) b5 rfl (AllB.cons ?_ AllB.nil)
   refine c7 [0,1,2,3,4,6,8] rfl rfl (s4 (Gh.forget (id:=7) (k:=3) rfl rfl)<|s4 (Gh.keep [0,1,2,3,4,5,6,7,8,9] rfl)<|y5 (tx:=47) 11 rfl rfl rfl rfl rfl<|f7 G E8 rfl rfl rfl rfl rfl rfl rfl rfl rfl Z3 rfl rfl (a4 ⟨rfl,?_⟩))
   refine zsa 10 ?_
   refine a9 (rs:=[11]) b5 rfl (AllB.cons ?_ AllB.nil)
   refine m3 [0,1,2,3,4,6,8] rfl rfl ?_
   refine a1U ?_
   exact l9 b5 (Meet.mk rfl rfl rfl rfl)
  apply F4 [1,2,3,4] [0,1,2,3,4,7,10,13] 14 13 [0,1,2,3,4,10] m5 b5 rfl rfl (fun _ h=>znk h)
  ·intro r0
   refine zsa 0 ?_
   refine zsa 2 ?_
   refine zsa 3 ?_
   refine zsa 4 ?_
   refine zsa 5 ?_
   refine b9 6 rfl b5 b5 rfl rfl rfl rfl (N8 G rfl rfl rfl rfl) (b9 7 rfl b5 b5 rfl rfl rfl rfl (z6 G rfl rfl rfl rfl) (a9 (rs:=[1,8]) b5 rfl (AllB.cons ?_ (AllB.cons ?_ AllB.nil))))
   ·refine a9X ?_
    refine a9 (rs:=[8]) b5 rfl (AllB.cons ?_ AllB.nil)
    refine m3 [0,1,2,3,4,10] rfl rfl (g8 12 rfl rfl rfl (ArgsOK.of rfl) (y9 _ (by omega)) rfl rfl (a4 ⟨rfl,?_⟩))
    refine a9 (rs:=[9]) b5 rfl (AllB.cons ?_ AllB.nil)
    refine m3 [0,1,2,3,4,10] rfl rfl (v3 G 13 rfl rfl rfl rfl rfl rfl rfl rfl (.own rfl .nil) rfl rfl rfl rfl (a4 ⟨rfl,?_⟩))
    refine a9 (rs:=[10]) b5 rfl (AllB.cons ?_ AllB.nil)
    refine c7 [0,1,2,3,4,10] rfl rfl (s4 (Gh.forget (id:=7) (k:=4) rfl rfl)<|s4 (Gh.keep [0,1,2,3,4,6,7,10,12] rfl)<|y5 (tx:=58) 14 rfl rfl rfl rfl rfl<|s5 G E8 rfl rfl rfl rfl rfl rfl rfl rfl rfl rfl Z3 rfl rfl (a4 ⟨rfl,?_⟩))
    refine zsa 11 ?_
    refine a9 (rs:=[12]) b5 rfl (AllB.cons ?_ AllB.nil)
    refine a9X ?_
    exact l9 b5 (Meet.mk rfl rfl rfl rfl)
   refine m3 [0,1,2,3,4,10] rfl rfl (g8 12 rfl rfl rfl (ArgsOK.of rfl) (y9 _ (by omega)) rfl rfl (a4 ⟨rfl,?_⟩))
   refine a9 (rs:=[1,9]) b5 rfl (AllB.cons ?_ (AllB.cons ?_ AllB.nil))
   ·refine a9X ?_
    refine a9 (rs:=[9]) b5 rfl (AllB.cons ?_ AllB.nil)
    refine m3 [0,1,2,3,4,10] rfl rfl (v3 G 13 rfl rfl rfl rfl rfl rfl rfl rfl (.own rfl .nil) rfl rfl rfl rfl (a4 ⟨rfl,?_⟩))
    refine a9 (rs:=[10]) b5 rfl (AllB.cons ?_ AllB.nil)
    refine c7 [0,1,2,3,4,10] rfl rfl (s4 (Gh.forget (id:=7) (k:=4) rfl rfl)<|s4 (Gh.keep [0,1,2,3,4,6,7,10,12] rfl)<|y5 (tx:=58) 14 rfl rfl rfl rfl rfl<|s5 G E8 rfl rfl rfl rfl rfl rfl rfl rfl rfl rfl Z3 rfl rfl (a4 ⟨rfl,?_⟩))
    refine zsa 11 ?_
    refine a9 (rs:=[12]) b5 rfl (AllB.cons ?_ AllB.nil)
    refine a9X ?_
    exact l9 b5 (Meet.mk rfl rfl rfl rfl)
   refine m3 [0,1,2,3,4,10] rfl rfl (v3 G 13 rfl rfl rfl rfl rfl rfl rfl rfl (.own rfl .nil) rfl rfl rfl rfl (a4 ⟨rfl,?_⟩))
   refine a9 (rs:=[1]) b5 rfl (AllB.cons ?_ AllB.nil)
   refine a9X ?_
   refine a9 (rs:=[10]) b5 rfl (AllB.cons ?_ AllB.nil)
   refine c7 [0,1,2,3,4,10] rfl rfl (s4 (Gh.forget (id:=7) (k:=4) rfl rfl)<|s4 (Gh.keep [0,1,2,3,4,6,7,10,12] rfl)<|y5 (tx:=58) 14 rfl rfl rfl rfl rfl<|s5 G E8 rfl rfl rfl rfl rfl rfl rfl rfl rfl rfl Z3 rfl rfl (a4 ⟨rfl,?_⟩))
   refine zsa 11 ?_
   refine a9 (rs:=[12]) b5 rfl (AllB.cons ?_ AllB.nil)
   refine a9X ?_
   exact l9 b5 (Meet.mk rfl rfl rfl rfl)
  refine a6 ?_
  refine a5t ?_
  refine m7 (Gh.sub 10 5 np rfl rfl rfl) (m7 (Gh.sub 13 6 np rfl rfl rfl) (a4 ⟨(k+1),?_,?_,⟨⟨_,rfl,by rfl⟩,rfl,trivial⟩,⟨⟨_,rfl,by (first | rfl | (exact congrArg (fun z=>Row.row _ _ z) (a4I (by omega))) | (exact congrArg (fun z=>Row.nest _ _ z []) (a4J (by omega) rfl)) | (exact congrArg (fun z=>Row.row _ _ z) a9l) | (obtain rfl:i=(J4 (m.cp.getD k default).qu).length:=(by omega);rfl))⟩,rfl,rfl,⟨⟨_,rfl,by (first | rfl | (exact congrArg (fun z=>Row.row _ _ z) (a4I (by omega))) | (exact congrArg (fun z=>Row.nest _ _ z []) (a4J (by omega) rfl)) | (exact congrArg (fun z=>Row.row _ _ z) a9l) | (obtain rfl:i=(J4 (m.cp.getD k default).qu).length:=(by omega);rfl))⟩,rfl,rfl,⟨⟨_,rfl,by (first | rfl | (exact congrArg (fun z=>Row.row _ _ z) (a4I (by omega))) | (exact congrArg (fun z=>Row.nest _ _ z []) (a4J (by omega) rfl)) | (exact congrArg (fun z=>Row.row _ _ z) a9l) | (obtain rfl:i=(J4 (m.cp.getD k default).qu).length:=(by omega);rfl))⟩,rfl,rfl,trivial⟩⟩⟩,rfl,rfl,rfl⟩))
  ·omega
  omega
 refine zgo ?_
 refine c8 (l6 rfl rfl rfl rfl (a5 (b8 rfl ?_) (a5 (b8 rfl ?_) (a5 (b8 rfl ?_) (a5 (b8 rfl ?_) (a5 (u2 rfl ?_) d4))))))
 all_goals (first | rfl | (obtain rfl:k=m.cp.length:=(by omega);first | rfl | (rw [b00 (Nat.le_refl _)];rfl)) | simp)
end Go.Proofs.YtcnodpipinlpcaaGreat
