/- Texts merged into one: M15, W2, M16, M17, Q4, P1. -/
import Derived.Test.YtpfhomblkgmkkaaGreatDoorPFnExactReplayLogC
set_option maxHeartbeats 4000000
set_option linter.unusedSimpArgs false
set_option linter.unusedVariables false
set_option maxRecDepth 20000
namespace Go.Proofs.YtpfhomblkgmkkaaGreatDoor
open Go Go.Rf
theorem a9K (x:Ifc) (hn:x.st.length≤1048576) (hl:x.qu.sl.length≤1048576) (hw:x.qu.wa.length≤1048576):Ctr Tryz.prog 93 [.agg [.v (.int .i64 x.ma),.lst 1 (x.st.map Rf.r9),.lst 3 (x.qu.sl.map j8),.lst 2 (x.qu.wa.map l1)]] (.one (.v (.bool (a3r x)))):=by
 refine Ctr.of (n:=74) G Tryz.func93 rfl b3 rfl rfl rfl (fun w0=>?_)
 refine o7 0 rfl (fun _=>rfl) (fun u0=>?_)
 refine u4 ?_
 refine b3r ?_
 refine zgn ?_
 refine u4 ?_
 refine a33 ?_
 refine a18 ?_
 refine o9 ?_
 refine b6 rfl rfl (f6 rfl (ArgsOK.of rfl) (a0s x.ma 0 16) rfl) ?_
 refine a18 ?_
 refine D4 rfl rfl rfl (fun h1=>?_) (fun h1=>?_)
 ·try rw [h1]
  try simp only [rfb] at h1
  refine zgn ?_
  refine J6 rfl ?_
  refine a0x ?_
  all_goals exact b02
 try rw [h1]
 try simp only [rfb] at h1
 refine a18 ?_
 refine a0P ?_
 refine b6 rfl rfl (f6 rfl (ArgsOK.of rfl) (a98 x.qu hl hw) rfl) ?_
 refine zgn ?_
 refine r7 rfl (fun h2=>?_) (fun h2=>?_)
 ·try rw [h2]
  try simp only [rfb] at h2
  refine a0x ?_
  all_goals exact b02
 try rw [h2]
 try simp only [rfb] at h2
 have hq:=a9k.mp h2
 have hSl:=hq.1.sl
 have hl4:=hSl.len
 refine zgn ?_
 refine u4 ?_
 refine a94 ?_
 refine o9 ?_
 refine d7 2 rfl rfl rfl (ArgsOK.of rfl) (a7Y x.qu.sl hSl) rfl rfl ?_
 refine zgn ?_
 refine zgn ?_
 refine w7 (i7 [1,3] [0,1] (fun (i:Nat)=>[(4,.v (.int .i64 (i:Int)))]) (fun (i:Nat)=>[]) (fun (i:Nat)=>i≤x.st.length∧StP x.qu.sl x.st i) (fun (i:Nat)=>x.st.length - i) 0 rfl rfl ?_ ?_ ?_ ?_)
 ·exact ⟨Nat.zero_le _,c3s⟩
 ·exact ⟨⟨_,rfl,by (first | rfl | (simp;done) | (simp;omega))⟩,rfl,trivial⟩
 ·exact trivial
 intro i hinv
 have hti:0 < i→((i:Int) - 1).toNat=i - 1:=fun _=>(by omega)
 simp only [List.cons_append,List.nil_append]
 refine zgn ?_
 refine r7 rfl (fun h3=>?_) (fun h3=>?_)
 ·try rw [h3]
  try simp only [rfb] at h3
  refine zgn ?_
  refine u4 (w7 (u4 ?_))
  refine b8T ?_
  iterate 6 refine zst ?_
  refine m4 rfl (u9 rfl rfl (f6 rfl c08 (a2I (a6X x.qu.sl 4) _ (by have:=@a5V x.qu.sl 4;have:=@a0m x.qu.sl 4;omega)) rfl) ?_)
  refine a18 ?_
  refine b1a rfl rfl rfl (fun h4=>?_) (fun h4=>?_)
  ·try rw [h4]
   try simp only [rfb] at h4
   refine zgn ?_
   refine J6 rfl ?_
   refine a0x ?_
   all_goals exact b02
  try rw [h4]
  try simp only [rfb] at h4
  have hm:=(a5U 4).mp (a9o.mp h4)
  iterate 3 refine zst ?_
  refine c2I ?_
  iterate 5 refine zst ?_
  refine a97 ?_
  refine u9 rfl rfl (f6 rfl c08 (a2I (x.st.take i) _ (by rw [List.length_take];omega)) rfl) ?_
  refine zgn ?_
  refine r7 rfl (fun h5=>?_) (fun h5=>?_)
  ·try rw [h5]
   try simp only [rfb] at h5
   refine a0x ?_
   all_goals exact b02
  try rw [h5]
  try simp only [rfb] at h5
  refine zgn ?_
  refine b8T ?_
  iterate 3 refine zst ?_
  refine b1a rfl rfl rfl (fun h6=>?_) (fun h6=>?_)
  ·try rw [h6]
   try simp only [rfb] at h6
   have hl1:=b33 (hinv.2.inn (i - 1) (by omega)) hl4
   have hl2:=b33 hm hl4
   iterate 5 refine zst ?_
   refine a97 ?_
   refine b97 ?_
   refine a97 ?_
   refine u9 rfl rfl (f6 rfl (ArgsOK.of rfl) (a0z x.qu _ hl (by rw [hti (by omega)];exact hl1)) rfl) ?_
   iterate 7 refine zst ?_
   refine a97 ?_
   refine u9 rfl rfl (f6 rfl (ArgsOK.of rfl) (a0z x.qu _ hl hl2) rfl) ?_
   refine zgn ?_
   refine r7 rfl (fun h7=>?_) (fun h7=>?_)
   ·try rw [h7]
    try simp only [rfb] at h7
    refine a0x ?_
    all_goals exact b02
   try rw [h7]
   try simp only [rfb] at h7
   refine zgn ?_
   refine d4 ?_
   refine zst ?_
   refine a9D ?_
   refine zgn ?_
   refine ⟨(i+1),?_,?_,⟨⟨_,rfl,by rfl⟩,rfl,trivial⟩,trivial,rfl,rfl,rfl⟩
   ·exact ⟨by omega,hinv.2.succ hm (fun k hk e=>(b1P.mp h5) ((a5Z (by omega)).mpr ⟨k,hk,e⟩)) c1b⟩
   omega
  try rw [h6]
  try simp only [rfb] at h6
  refine zgn ?_
  refine a8f rfl ?_
  refine zgn ?_
  refine d4 ?_
  refine zst ?_
  refine a9D ?_
  refine zgn ?_
  refine ⟨(i+1),?_,?_,⟨⟨_,rfl,by rfl⟩,rfl,trivial⟩,trivial,rfl,rfl,rfl⟩
  ·exact ⟨by omega,hinv.2.succ hm (fun k hk e=>(b1P.mp h5) ((a5Z (by omega)).mpr ⟨k,hk,e⟩)) c1b⟩
  omega
 try rw [h3]
 try simp only [rfb] at h3
 refine zgn ?_
 refine a0x ?_
 all_goals exact b02
theorem a7Z (rs:List Route) (q:Que) (k:Nat) (hr8:rs.length=8) (hF:QF q) (hk:k≤8):Ctr Tryz.prog 94 [.lst 2 (rs.map p8),.agg [.lst 3 (q.sl.map j8),.lst 2 (q.wa.map l1)],.v (.int .i64 (k:Int))] (.one (.v (.bool (okRq rs q k)))):=by
 have hl4:=hF.sl.len
 have hwn:=hF.wn8
 refine Ctr.of (n:=83) G Tryz.func94 rfl b3 rfl rfl rfl (fun w0=>?_)
 refine o7 1 rfl (fun _=>rfl) (fun u1=>?_)
 refine vm1 ?_
 refine zgo ?_
 refine i7 [0,2,4] [0] (fun (i:Nat)=>[(7,.v (.int .i64 (i:Int)))]) (fun (i:Nat)=>[]) (fun (i:Nat)=>i≤4∧∀ t,t < i→rtS rs k (q.sl.getD t default)=true) (fun (i:Nat)=>4 - i) 0 rfl rfl ?_ ?_ ?_ ?_
 ·exact ⟨Nat.zero_le _,fun j hj=>by omega⟩
 ·exact ⟨⟨_,rfl,by (first | rfl | (simp;done) | (simp;omega))⟩,rfl,trivial⟩
 ·exact trivial
 intro i hi
 simp only [List.cons_append,List.nil_append]
 refine zcd (fun h1=>?_) (fun h1=>?_)
 ·refine vm5 ?_
  refine a95 ?_
  refine zgd ?_
  refine zcd (fun h2=>?_) (fun h2=>?_)
  ·refine H3 ?_
   all_goals exact b03
  have hb0:=hF.sl.ok i (by omega)
  refine zcd (fun h3=>?_) (fun h3=>?_)
  ·have hb:=(hF.sl.ok i (by omega) h3).2.1
   refine zcd (fun h4=>?_) (fun h4=>?_)
   ·refine H3 ?_
    all_goals exact b03
   refine zcd (fun h5=>?_) (fun h5=>?_)
   ·refine zf1 ?_
    all_goals exact b03
   refine zgo ?_
   refine ⟨(i+1),?_,?_,⟨⟨_,rfl,by rfl⟩,rfl,trivial⟩,trivial,rfl,rfl,rfl⟩
   ·exact ⟨by omega,i8 hi.2 (a5X.mpr ⟨by omega,by first | exact .inl (by omega) | exact .inr ⟨by assumption,by assumption⟩⟩)⟩
   omega
  refine zwf ?_
  refine zgo ?_
  refine ⟨(i+1),?_,?_,⟨⟨_,rfl,by rfl⟩,rfl,trivial⟩,trivial,rfl,rfl,rfl⟩
  ·exact ⟨by omega,i8 hi.2 (a5X.mpr ⟨by omega,by first | exact .inl (by omega) | exact .inr ⟨by assumption,by assumption⟩⟩)⟩
  omega
 refine zgo ?_
 refine i7 [0,2,4] [0] (fun (j:Nat)=>[(9,.v (.int .i64 (j:Int)))]) (fun (j:Nat)=>[]) (fun (j:Nat)=>j≤q.wa.length∧∀ t,t < j→rtW rs k (q.wa.getD t default)=true) (fun (j:Nat)=>q.wa.length - j) 0 rfl rfl ?_ ?_ ?_ ?_
 ·exact ⟨Nat.zero_le _,fun j hj=>by omega⟩
 ·exact ⟨⟨_,rfl,by (first | rfl | (simp;done) | (simp;omega))⟩,rfl,trivial⟩
 ·exact trivial
 intro j hj
 simp only [List.cons_append,List.nil_append]
 refine zcd (fun h6=>?_) (fun h6=>?_)
 ·have hbw:=(hF.wa _ (n6.mpr ⟨j,by omega,rfl⟩)).1
  refine vm5 ?_
  refine a95 ?_
  refine zgd ?_
  refine zcd (fun h7=>?_) (fun h7=>?_)
  ·refine H3 ?_
   all_goals exact b03
  refine zcd (fun h8=>?_) (fun h8=>?_)
  ·refine zf1 ?_
   all_goals exact b03
  refine zgo ?_
  refine ⟨(j+1),?_,?_,⟨⟨_,rfl,by rfl⟩,rfl,trivial⟩,trivial,rfl,rfl,rfl⟩
  ·exact ⟨by omega,i8 hj.2 (a3X.mpr ⟨by assumption,by assumption⟩)⟩
  omega
 refine zf1 ?_
 all_goals exact b03
end Go.Proofs.YtpfhomblkgmkkaaGreatDoor
set_option maxRecDepth 20000
namespace Go.Proofs.YtpfhomblkgmkkaaGreatDoor
open Go Go.Rf
theorem a9L (x y:Route):Ctr Tryz.prog 50 [.v (a9a x),.v (a9a y)] (.one (.v (.bool (b3N x y)))):=by
 refine Ctr.of (n:=15) G Tryz.func50 rfl b3 rfl rfl rfl (fun w0=>?_)
 refine b8R ?_
 refine zcd (fun h1=>?_) (fun h1=>?_)
 ·refine zf1 ?_
  all_goals exact b8F
 refine zcd (fun h2=>?_) (fun h2=>?_)
 ·refine zf1 ?_
  all_goals exact b8F
 refine zf1 ?_
 all_goals exact b8F
theorem a71 (xs ys:List Route) (hn:xs.length≤9223372036854775807):Ctr Tryz.prog 24 [.lst 2 (xs.map p8),.lst 2 (ys.map p8)] (.one (.v (.bool (decide (xs=ys))))):=by
 refine Ctr.of (n:=27) G Tryz.func24 rfl b3 rfl rfl rfl (fun w0=>?_)
 refine zcd (fun h1=>?_) (fun h1=>?_)
 ·refine zf1 ?_
  all_goals exact b8G
 refine zgo ?_
 refine i7 [0,1] [] (fun (i:Nat)=>[(5,.v (.int .i64 (i:Int)))]) (fun (i:Nat)=>[]) (fun (i:Nat)=>i≤xs.length∧∀ j,j < i→xs.getD j default=ys.getD j default) (fun (i:Nat)=>xs.length - i) 0 rfl rfl ?_ ?_ ?_ ?_
 ·exact ⟨Nat.zero_le _,fun j hj=>by omega⟩
 ·exact ⟨⟨_,rfl,by (first | rfl | (simp;done) | (simp;omega))⟩,rfl,trivial⟩
 ·exact trivial
 intro i hinv
 simp only [List.cons_append,List.nil_append]
 refine zcd (fun h2=>?_) (fun h2=>?_)
 ·refine zgd ?_
  refine zcl (a9L _ _) ?_
  refine zcd (fun h3=>?_) (fun h3=>?_)
  ·refine zf1 ?_
   all_goals exact b8G
  refine zgo ?_
  refine ⟨(i+1),?_,?_,⟨⟨_,rfl,by rfl⟩,rfl,trivial⟩,trivial,rfl,rfl,rfl⟩
  ·exact ⟨by omega,i8 hinv.2 (by first | exact b2M.mp c8 | exact b2M.mp X7)⟩
  omega
 refine zf1 ?_
 all_goals exact b8G
theorem a4S (x:Route) (c:Int) (hc:1≤c∧c≤2):Ctr Tryz.prog 153 [.v (a9a x),.ept [.int .i64 c]] (.one (.v (.bool (!a9b c x)))):=by
 refine Ctr.of (n:=16) G Tryz.func153 rfl b3 rfl rfl rfl (fun w0=>?_)
 refine vm1 ?_
 refine zcl (V4 _) ?_
 refine zcd (fun h1=>?_) (fun h1=>?_)
 ·refine zf1 ?_
  all_goals (first | rfl | (simp_all [a9b];done))
 refine b17 ?_
 refine zf1 ?_
 all_goals (first | rfl | (simp_all [a9b];done))
theorem I8 (xs:List Route) (f:Nat) (c:List Value) (p:Route→Bool) (hl:xs.length≤1048576) (hf:∀ i,i < xs.length→Ctr Tryz.prog f [.v (a9a (xs.getD i default)),.ept c] (.one (.v (.bool (p (xs.getD i default)))))):Ctr Tryz.prog 200 [.lst 2 (xs.map p8),.fnc f [.ept c]] (.one (.v (.int .i64 (G5 (fun i=>p (xs.getD i default)) xs.length)))):=by
 refine Ctr.of (n:=19) G Tryz.func200 rfl b3 rfl rfl rfl (fun w0=>?_)
 refine zgo ?_
 refine i7 [0,1,7] [] (fun (i:Nat)=>[(8,.v (.int .i64 (i:Int)))]) (fun (i:Nat)=>[]) (fun (i:Nat)=>i≤xs.length∧∀ j,j < i→p (xs.getD j default)=false) (fun (i:Nat)=>xs.length - i) 0 rfl rfl ?_ ?_ ?_ ?_
 ·exact ⟨Nat.zero_le _,fun j hj=>by omega⟩
 ·exact ⟨⟨_,rfl,by (first | rfl | (simp;done) | (simp;omega))⟩,rfl,trivial⟩
 ·exact trivial
 intro i hinv
 simp only [List.cons_append,List.nil_append]
 refine zcd (fun h1=>?_) (fun h1=>?_)
 ·refine b6n ?_
  refine zcd (fun h2=>?_) (fun h2=>?_)
  ·refine zf1 ?_
   all_goals exact a7M
  refine zgo ?_
  refine ⟨(i+1),?_,?_,⟨⟨_,rfl,by rfl⟩,rfl,trivial⟩,trivial,rfl,rfl,rfl⟩
  ·exact ⟨by omega,i8 hinv.2 c8⟩
  omega
 refine zf1 ?_
 all_goals exact a7M
theorem G6 (xs:List Route) (f:Nat) (c:List Value) (p:Route→Bool) (hl:xs.length≤1048576) (hf:∀ i,i < xs.length→Ctr Tryz.prog f [.v (a9a (xs.getD i default)),.ept c] (.one (.v (.bool (p (xs.getD i default)))))):Ctr Tryz.prog 152 [.lst 2 (xs.map p8),.fnc f [.ept c]] (.one (.v (.bool (a0g xs.length (fun i=>p (xs.getD i default)))))):=by
 refine Ctr.of (n:=9) G Tryz.func152 rfl b3 rfl rfl rfl (fun w0=>?_)
 refine zcl (I8 xs f c p hl hf) ?_
 refine zf1 ?_
 all_goals (rw [a3K])
theorem a2b (rs:List Route) (c:Int) (hn:rs.length≤9223372036854775807):Ctr Tryz.prog 104 [.lst 2 (rs.map p8),.v (.int .i64 c)] (.one (.v (.bool (okRts rs c)))):=by
 refine Ctr.of (n:=18) G Tryz.func104 rfl b3 rfl rfl rfl (fun w0=>?_)
 refine vm1 ?_
 refine b17 ?_
 refine zcd (fun h1=>?_) (fun h1=>?_)
 ·refine zcd (fun h2=>?_) (fun h2=>?_)
  ·refine zgo ?_
   refine a0P ?_
   refine b6 rfl rfl (a8I rfl rfl) ?_
   refine zcl (G6 rs 153 [.int .i64 c] (fun x=>!a9b c x) (by omega) (fun k hk=>a4S _ _ (p7.mp c8))) ?_
   refine zf1 ?_
   all_goals exact b8H
  refine zf1 ?_
  all_goals exact b8H
 refine zf1 ?_
 all_goals exact b8H
theorem a68 (rs:List Route) (c:Int) (hn:rs.length≤1048576) (hc:0≤c∧c≤1048576):Ctr Tryz.prog 92 [.lst 2 (rs.map p8),.v (.int .i64 c)] (.one (.v (.bool (okRts rs c)))):=by
 refine Ctr.of (n:=37) G Tryz.func92 rfl b3 rfl rfl rfl (fun w0=>?_)
 refine zgo ?_
 refine i7 [0,1] [] (fun (i:Nat)=>[(5,.v (.int .i64 (i:Int)))]) (fun (i:Nat)=>[]) (fun (i:Nat)=>i≤rs.length∧∀ j,j < i→a9b c (rs.getD j default)=true) (fun (i:Nat)=>rs.length - i) 0 rfl rfl ?_ ?_ ?_ ?_
 ·exact ⟨Nat.zero_le _,fun j hj=>by omega⟩
 ·exact ⟨⟨_,rfl,by (first | rfl | (simp;done) | (simp;omega))⟩,rfl,trivial⟩
 ·exact trivial
 intro i hinv
 simp only [List.cons_append,List.nil_append]
 refine zcd (fun h1=>?_) (fun h1=>?_)
 ·refine zcl (Z9 _) ?_
  refine zcd (fun h2=>?_) (fun h2=>?_)
  ·refine H3 ?_
   all_goals exact b5i
  refine a96 ?_
  refine zcd (fun h3=>?_) (fun h3=>?_)
  ·refine zf1 ?_
   all_goals exact b5i
  refine zgo ?_
  refine ⟨(i+1),?_,?_,⟨⟨_,rfl,by rfl⟩,rfl,trivial⟩,trivial,rfl,rfl,rfl⟩
  ·exact ⟨by omega,i8 hinv.2 (by simp_all [a9b])⟩
  omega
 refine a96 ?_
 refine zcd (fun h4=>?_) (fun h4=>?_)
 ·refine zf1 ?_
  all_goals exact b5i
 refine zf1 ?_
 all_goals exact b5i
theorem a3B (rs:List Route) (c:Int) (hn:rs.length≤1048576) (hc:m8 c 1 2=false):Ctr Tryz.prog 92 [.lst 2 (rs.map p8),.v (.int .i64 c)] (.one (.v (.bool (false)))):=by
 refine Ctr.of (n:=37) G Tryz.func92 rfl b3 rfl rfl rfl (fun w0=>?_)
 refine zgn ?_
 refine zgn ?_
 refine w7 (i7 [0,1] [] (fun (i:Nat)=>[(5,.v (.int .i64 (i:Int)))]) (fun (i:Nat)=>[]) (fun (i:Nat)=>i≤rs.length) (fun (i:Nat)=>rs.length - i) 0 rfl rfl ?_ ?_ ?_ ?_)
 ·exact Nat.zero_le _
 ·exact ⟨⟨_,rfl,by (first | rfl | (simp;done) | (simp;omega))⟩,rfl,trivial⟩
 ·exact trivial
 intro i hinv
 simp only [List.cons_append,List.nil_append]
 refine zgn ?_
 refine r7 rfl (fun h1=>?_) (fun h1=>?_)
 ·try rw [h1]
  try simp only [rfb] at h1
  refine zgn ?_
  refine u4 (w7 ?_)
  refine a33 ?_
  iterate 5 refine zst ?_
  refine o9 ?_
  refine b6 rfl rfl (f6 rfl (ArgsOK.of rfl) (Z9 _) rfl) ?_
  refine a18 ?_
  refine D4 rfl rfl rfl (fun h2=>?_) (fun h2=>?_)
  ·try rw [h2]
   try simp only [rfb] at h2
   refine zgn ?_
   refine J6 rfl ?_
   refine a0x ?_
   all_goals (first | rfl | (simp_all;done))
  try rw [h2]
  try simp only [rfb] at h2
  iterate 6 refine zst ?_
  refine a0P ?_
  first | refine b6 rfl rfl (x8 rfl rfl rfl rfl (by omega) (by omega)) ?_ | refine b6 rfl rfl (C5 rfl rfl rfl rfl) ?_
  refine a0P ?_
  refine b6 rfl rfl (f6 rfl (ArgsOK.of rfl) (a0s _ _ _) rfl) ?_
  refine zgn ?_
  refine r7 rfl (fun h3=>?_) (fun h3=>?_)
  ·try rw [h3]
   try simp only [rfb] at h3
   refine a0x ?_
   all_goals (first | rfl | (simp_all;done))
  try rw [h3]
  try simp only [rfb] at h3
  refine zgn ?_
  refine d4 ?_
  refine zst ?_
  refine a9D ?_
  refine zgn ?_
  refine ⟨(i+1),?_,?_,⟨⟨_,rfl,by rfl⟩,rfl,trivial⟩,trivial,rfl,rfl,rfl⟩
  ·omega
  omega
 try rw [h1]
 try simp only [rfb] at h1
 refine zgn ?_
 refine a33 ?_
 refine zst ?_
 refine o9 ?_
 refine b6 rfl rfl (f6 rfl (ArgsOK.of rfl) (a0s _ _ _) rfl) ?_
 refine zst ?_
 refine D4 rfl rfl rfl (fun h4=>?_) (fun h4=>?_)
 ·try rw [h4]
  try simp only [rfb] at h4
  refine a0x ?_
  all_goals (first | rfl | (simp_all;done))
 try rw [h4]
 try simp only [rfb] at h4
 refine a0x ?_
 all_goals (first | rfl | (simp_all;done))
theorem a0t (rs:List Route) (c:Int) (hn:rs.length≤1048576):Ctr Tryz.prog 92 [.lst 2 (rs.map p8),.v (.int .i64 c)] (.one (.v (.bool (okRts rs c)))):=by
 cases h:m8 c 1 2
 ·have e:okRts rs c=false:=by simp only [okRts,h,Bool.false_and]
  rw [e];exact a3B rs c hn h
 exact a68 rs c hn (by have:=p7.mp h;omega)
theorem a6j (rs:List Route) (c:Int) (hn:rs.length≤1048576):Ctr Tryz.prog 86 [.lst 2 (rs.map p8),.v (.int .i64 c)] (.shp false [some 4,none] [.fr 83 2 ((u3 rs c).1.rs.map p8),.fr 4 1 ((u3 rs c).1.en.map r3),.fr 4 1 ((u3 rs c).1.ra.map r3),.ne 135 4 ((u3 rs c).1.cp.map (s6 169 182)),.v (.bool (u3 rs c).2)]):=by
 refine Ctr.of (n:=40) G Tryz.func86 rfl b3 rfl rfl rfl (fun w0=>?_)
 refine a3x ?_
 refine zcl (a0t rs c hn) ?_
 refine zcd (fun h1=>?_) (fun h1=>?_)
 ·have hM:=b1F (rs:=rs) h1
  refine zgo ?_
  refine c6 (d9 rfl rfl rfl rfl (a7 (r8 ?_) (a7 (r8 ?_) (a7 (r8 ?_) (a7 (U4 ?_) (a7 (c1 ?_) b9))))))
  all_goals exact c02
 have hM:=b1E (rs:=rs) h1
 have hr:=I3.mp h1
 obtain ⟨n,rfl⟩:∃ n:Nat,c=n:=⟨c.toNat,by omega⟩
 refine zgn ?_
 refine u4 (l4 9 [0] mixed b3 rfl rfl (fun r0=>?_) (fun _ h=>h))
 refine zsa 1 ?_
 refine w3 (N:=6) rfl (p4 (fuel:=3) [⟨0,13,1,false,.row 83 2 []⟩,⟨3,16,2,false,.row 4 1 (List.replicate 8 [.bool false])⟩,⟨4,17,3,false,.row 4 1 (List.replicate 8 [.bool false])⟩,⟨5,18,4,false,.row 135 4 []⟩,⟨7,6,5,true,.box (avR [.slice none 0 0,.slice none 0 0,.slice none 0 0,.slice none 0 0] [])⟩] (AllVOK.cons (VOK.lit G rfl rfl rfl rfl rfl) (AllVOK.cons (VOK.make (n:=8) G rfl rfl rfl rfl rfl (by decide) (by decide)) (AllVOK.cons (VOK.make (n:=8) G rfl rfl rfl rfl rfl (by decide) (by decide)) (AllVOK.cons (VOK.lit G rfl rfl rfl rfl rfl) (AllVOK.cons (VOK.boxS G rfl rfl rfl rfl rfl) (AllVOK.nil)))))) (fun hok=>?_))
 refine j3 [(2,[0])] b3 b3 (fun e he=>hok e he) b3 (AllVS.cons ?_ AllVS.nil)
 refine VStep.mk1 [0] 13 (.own 1) 1 (.row 83 2 []) [⟨3,16,2,false,.row 4 1 (List.replicate 8 [.bool false])⟩,⟨4,17,3,false,.row 4 1 (List.replicate 8 [.bool false])⟩,⟨5,18,4,false,.row 135 4 []⟩,⟨7,6,5,true,.box (avR [.slice none 0 0,.slice none 0 0,.slice none 0 0,.slice none 0 0] [])⟩] rfl rfl rfl rfl rfl (fun b1 _ hbn=>g9 G N3 rfl rfl rfl rfl rfl rfl rfl rfl rfl c09 rfl rfl (b4 rfl)) b3 b3 b3 b3 (j3 [(6,[3,4,5])] b3 b3 (fun e he=>hok e (vin (is:=[0]) rfl he)) b3 (AllVS.cons ?_ AllVS.nil))
 refine VStep.mk3 [0] 16 (.own 2) 2 (.row 4 1 (List.replicate 8 [.bool false])) 17 (.own 3) 3 (.row 4 1 (List.replicate 8 [.bool false])) 18 (.own 4) 4 (.row 135 4 []) [⟨7,6,5,true,.box (avR [.slice none 0 0,.slice none 0 0,.slice none 0 0,.slice none 0 0] [])⟩] rfl rfl rfl rfl rfl (fun b1 _ hbn=>b6 rfl rfl (v8 G rfl rfl rfl rfl) (b4 rfl)) b3 b3 b3 b3 (j3 [(8,[7])] b3 b3 (fun e he=>hok e (vin (is:=[0,3,4,5]) rfl he)) b3 (AllVS.cons ?_ AllVS.nil))
 refine VStep.mk1 [0] 6 (.ptr 5 0) 5 (.box (avR [.slice none 0 0,.slice none 0 0,.slice none 0 0,.slice none 0 0] [])) [] rfl rfl rfl rfl rfl (fun b1 _ hbn=>j7 G rfl rfl rfl rfl rfl rfl rfl rfl rfl rfl rfl (b4 rfl)) b3 b3 b3 b3 (B3 ?_)
 clear hok
 refine a1Y (Gh.nest (id:=4) (yss:=[]) rfl rfl (by intro _ _ _ h;simp at h)) ?_
 refine G3 ?_
 refine zgo ?_
 refine i7 [1,4,6] [0,1,2,3,5] (fun (k:Nat)=>[(7,.v (.int .i64 (k:Int)))]) (fun (k:Nat)=>[(4,some (.nest 135 4 ((List.replicate k b58).map (s6 169 182)) []))]) (fun (k:Nat)=>k≤n) (fun (k:Nat)=>n - k) 0 rfl rfl ?_ ?_ ?_ ?_
 ·exact Nat.zero_le _
 ·exact ⟨⟨_,rfl,by (first | rfl | (simp;done) | (simp;omega))⟩,rfl,trivial⟩
 ·exact ⟨⟨_,rfl,by rfl⟩,rfl,rfl,trivial⟩
 intro k hinv
 simp only [List.cons_append,List.nil_append]
 refine zcd (fun h2=>?_) (fun h2=>?_)
 ·refine vm5 ?_
  refine s2 G 7 rfl rfl rfl rfl rfl rfl rfl rfl ?_
  refine vm5 ?_
  refine s2 G 8 rfl rfl rfl rfl rfl rfl rfl rfl ?_
  refine o9 ?_
  refine s2 G 9 rfl rfl rfl rfl rfl rfl rfl rfl ?_
  refine vm5 ?_
  refine r5 G 10 rfl rfl rfl rfl rfl rfl rfl rfl (.v rfl (.own rfl (.own rfl (.own rfl .nil)))) rfl rfl rfl rfl ?_
  refine o9 ?_
  refine v6 (Gh.forget (id:=5) (k:=3) rfl rfl)<|v6 (Gh.keep [0,1,2,3,4,5,9] rfl)<|m9 G np rfl rfl rfl rfl rfl rfl rfl rfl rfl rfl c09 rfl rfl ?_
  refine zgo ?_
  refine ⟨(k+1),?_,?_,⟨⟨_,rfl,by rfl⟩,rfl,trivial⟩,⟨⟨_,rfl,by exact congrArg (fun z=>Row.nest _ _ z []) (b2Y rfl)⟩,rfl,rfl,trivial⟩,rfl,rfl,rfl⟩
  ·omega
  omega
 refine zgo ?_
 refine c6 (d9 rfl rfl rfl rfl (a7 (b7 rfl ?_) (a7 (b7 rfl ?_) (a7 (b7 rfl ?_) (a7 (n7 rfl ?_) (a7 (c1 ?_) b9))))))
 all_goals exact c02
theorem a6k (rs:List Route) (c:Int) (hn:rs.length≤1048576):Ctr Tryz.prog 88 [.lst 2 (rs.map p8),.v (.int .i64 c)] (.shp false [some 4,none] [.fr 83 2 ((u3 rs c).1.rs.map p8),.fr 4 1 ((u3 rs c).1.en.map r3),.fr 4 1 ((u3 rs c).1.ra.map r3),.ne 135 4 ((u3 rs c).1.cp.map (s6 169 182)),.v (.bool (u3 rs c).2)]):=by
 refine Ctr.of (n:=34) G Tryz.func88 rfl (by kernel_rfl) rfl rfl rfl (fun w0=>?_)
 refine f9 (fun K1 hK1=>?_)
 refine d4 ?_
 refine a8 rfl ?_
 refine d8 G 1 rfl rfl rfl rfl rfl ?_
 refine a8 rfl ?_
 refine b6 rfl rfl (d6 rfl rfl) ?_
 refine b4 ?_
 refine hK1 _ ?_
 clear hK1 K1
 refine f9 (fun K2 hK2=>?_)
 refine f9 (fun K3 hK3=>?_)
 refine d4 ?_
 refine a8 rfl ?_
 refine b6 rfl rfl (e6 rfl rfl) ?_
 refine a8 rfl ?_
 refine b6 rfl rfl (e6 rfl rfl) ?_
 refine a8 rfl ?_
 refine b6 rfl rfl (f6 rfl (ArgsOK.of rfl) (a2b _ _ (by first | assumption | omega)) rfl) ?_
 refine a8 rfl ?_
 refine b6 rfl rfl (a2K rfl rfl) ?_
 refine b4 ?_
 refine hK3 _ ?_
 clear hK3 K3
 refine r7 rfl (fun h1=>?_) (fun h1=>?_)
 ·try rw [h1]
  try simp only [rfb] at h1
  have hM:=b1F (rs:=rs) h1
  refine f9 (fun K4 hK4=>?_)
  refine d4 ?_
  refine a8 rfl ?_
  refine b6 rfl rfl (v8 G rfl rfl rfl rfl) ?_
  refine a8 rfl ?_
  refine j7 G rfl rfl rfl rfl rfl rfl rfl rfl rfl rfl rfl ?_
  refine a8 rfl ?_
  refine b6 rfl rfl (d6 rfl rfl) ?_
  refine b4 ?_
  refine hK4 _ ?_
  clear hK4 K4
  refine c6 (d9 rfl rfl rfl rfl (a7 (r8 ?_) (a7 (r8 ?_) (a7 (r8 ?_) (a7 (U4 ?_) (a7 (c1 ?_) b9))))))
  all_goals clear hK2 K2
  all_goals (first | (rw [hM];done) | (rw [hM];rfl) | (rw [hM];simp [b1D];done) | (rw [hM];simp [noM];done) | (rw [hM];have e:k=n:=(by omega);subst e;first | done | rfl | (simp [b1D];done)))
 ·try rw [h1]
  try simp only [rfb] at h1
  have hM:=b1E (rs:=rs) h1
  have hr:=I3.mp h1
  obtain ⟨n,rfl⟩:∃ n:Nat,c=n:=⟨c.toNat,by omega⟩
  refine y9 ?_
  refine hK2 _ ?_
  clear hK2 K2
  refine f9 (fun K5 hK5=>?_)
  refine l4 9 [0] mixed (by kernel_rfl) rfl rfl (fun r0=>?_) (fun _ h=>h)
  refine e9 1 rfl (by kernel_rfl) (by kernel_rfl) rfl rfl rfl rfl (e6 rfl rfl) ?_
  refine w3 (N:=6) rfl (p4 (fuel:=3) [⟨0,12,1,false,.row 83 2 []⟩,⟨3,15,2,false,.row 4 1 (List.replicate 8 [.bool false])⟩,⟨4,16,3,false,.row 4 1 (List.replicate 8 [.bool false])⟩,⟨5,17,4,false,.row 135 4 []⟩,⟨7,6,5,true,.box (avR [.slice none 0 0,.slice none 0 0,.slice none 0 0,.slice none 0 0] [])⟩] (AllVOK.cons (VOK.lit G rfl rfl rfl rfl rfl) (AllVOK.cons (VOK.make (n:=8) G rfl rfl rfl rfl rfl (by decide) (by decide)) (AllVOK.cons (VOK.make (n:=8) G rfl rfl rfl rfl rfl (by decide) (by decide)) (AllVOK.cons (VOK.lit G rfl rfl rfl rfl rfl) (AllVOK.cons (VOK.boxS G rfl rfl rfl rfl rfl) (AllVOK.nil)))))) (fun hok=>?_))
  refine j3 [(2,[0])] (by kernel_rfl) (by kernel_rfl) (fun e he=>hok e he) (by kernel_rfl) (AllVS.cons ?_ AllVS.nil)
  refine VStep.mk1 [0] 12 (.own 1) 1 (.row 83 2 []) [⟨3,15,2,false,.row 4 1 (List.replicate 8 [.bool false])⟩,⟨4,16,3,false,.row 4 1 (List.replicate 8 [.bool false])⟩,⟨5,17,4,false,.row 135 4 []⟩,⟨7,6,5,true,.box (avR [.slice none 0 0,.slice none 0 0,.slice none 0 0,.slice none 0 0] [])⟩] rfl rfl rfl rfl rfl (fun b1 _ hbn=>g9 G (by rw [hbn];exact Nat.le_of_ble_eq_true rfl) rfl rfl rfl rfl rfl rfl rfl rfl rfl (by first | (simp;omega) | (simp only [List.length_map,List.length_cons,List.length_nil,List.length_replicate];omega)) rfl rfl (b4 rfl)) (by kernel_rfl) (by kernel_rfl) (by kernel_rfl) (by kernel_rfl) ?_
  refine j3 [(6,[3,4,5])] (by kernel_rfl) (by kernel_rfl) (fun e he=>hok e (vin (is:=[0]) rfl he)) (by kernel_rfl) (AllVS.cons ?_ AllVS.nil)
  refine VStep.mk3 [0] 15 (.own 2) 2 (.row 4 1 (List.replicate 8 [.bool false])) 16 (.own 3) 3 (.row 4 1 (List.replicate 8 [.bool false])) 17 (.own 4) 4 (.row 135 4 []) [⟨7,6,5,true,.box (avR [.slice none 0 0,.slice none 0 0,.slice none 0 0,.slice none 0 0] [])⟩] rfl rfl rfl rfl rfl (fun b1 _ hbn=>b6 rfl rfl (v8 G rfl rfl rfl rfl) (b4 rfl)) (by kernel_rfl) (by kernel_rfl) (by kernel_rfl) (by kernel_rfl) ?_
  refine j3 [(8,[7])] (by kernel_rfl) (by kernel_rfl) (fun e he=>hok e (vin (is:=[0,3,4,5]) rfl he)) (by kernel_rfl) (AllVS.cons ?_ AllVS.nil)
  refine VStep.mk1 [0] 6 (.ptr 5 0) 5 (.box (avR [.slice none 0 0,.slice none 0 0,.slice none 0 0,.slice none 0 0] [])) [] rfl rfl rfl rfl rfl (fun b1 _ hbn=>j7 G rfl rfl rfl rfl rfl rfl rfl rfl rfl rfl rfl (b4 rfl)) (by kernel_rfl) (by kernel_rfl) (by kernel_rfl) (by kernel_rfl) ?_
  refine B3 ?_
  clear hok
  refine a1Y (Gh.nest (id:=4) (yss:=[]) rfl rfl (by intro _ _ _ h;simp at h)) ?_
  refine l6 (by kernel_rfl) ?_
  refine hK5 _ ?_
  clear hK5 K5
  refine f9 (fun K6 hK6=>?_)
  refine f9 (fun K7 hK7=>?_)
  refine d4 ?_
  refine a8 rfl ?_
  refine b6 rfl rfl (e6 rfl rfl) ?_
  refine a8 rfl ?_
  refine b6 rfl rfl (e6 rfl rfl) ?_
  refine b4 ?_
  refine hK7 _ ?_
  clear hK7 K7
  refine w7 ?_
  refine i7 [4,6,19] [0,1,2,3,5] (fun (k:Nat)=>[(20,.v (.int .i64 (k:Int)))]) (fun (k:Nat)=>[(4,some (.nest 135 4 ((List.replicate k b58).map (s6 169 182)) []))]) (fun (k:Nat)=>k≤n) (fun (k:Nat)=>n - k) 0 rfl rfl ?_ ?_ ?_ ?_
  ·exact Nat.zero_le _
  ·exact ⟨⟨_,rfl,by (first | rfl | (simp;done) | (simp;omega))⟩,rfl,trivial⟩
  ·exact ⟨⟨_,rfl,by rfl⟩,rfl,rfl,trivial⟩
  ·intro k hinv
   simp only [List.cons_append,List.nil_append]
   refine f9 (fun K8 hK8=>?_)
   refine d4 ?_
   refine a8 rfl ?_
   refine b6 rfl rfl (I9 rfl rfl rfl rfl) ?_
   refine b4 ?_
   refine hK8 _ ?_
   clear hK8 K8
   refine f9 (fun K9 hK9=>?_)
   refine r7 rfl (fun h2=>?_) (fun h2=>?_)
   ·try rw [h2]
    try simp only [rfb] at h2
    refine y9 ?_
    refine hK9 _ ?_
    clear hK9 K9
    refine f9 (fun K10 hK10=>?_)
    refine w7 ?_
    apply x5 [4,6,19,20] [0,1,2,3,5,10] 11 11 [0,1,2,3] mixed (by kernel_rfl) rfl rfl hK10
    ·intro r0
     refine e9 0 rfl (by kernel_rfl) (by kernel_rfl) rfl rfl rfl rfl (l5 G rfl rfl rfl rfl) ?_
     refine w3 (N:=9) rfl (p4 (fuel:=7) [⟨2,24,6,false,.row 3 1 []⟩,⟨3,25,7,false,.row 169 3 (List.replicate 4 [.int .i64 0,.int .i64 0,.int .i64 0])⟩,⟨4,26,8,false,.row 182 2 []⟩] (AllVOK.cons (VOK.lit G rfl rfl rfl rfl rfl) (AllVOK.cons (VOK.make (n:=4) G rfl rfl rfl rfl rfl (by decide) (by decide)) (AllVOK.cons (VOK.lit G rfl rfl rfl rfl rfl) (AllVOK.nil)))) (fun hok=>?_))
     refine j3 [(1,[]),(5,[3,4])] (by kernel_rfl) (by kernel_rfl) (fun e he=>hok e he) (by kernel_rfl) (AllVS.cons ?_ (AllVS.cons ?_ AllVS.nil))
     ·refine VStep.mk0 [0,1,2,3] rfl rfl (fun b1 _ hbn=>b6 rfl rfl (n9 G rfl rfl rfl rfl rfl rfl rfl) (b4 rfl)) (by kernel_rfl) (by kernel_rfl) (by kernel_rfl) (by kernel_rfl) ?_
      refine j3 [(5,[3,4])] (by kernel_rfl) (by kernel_rfl) (fun e he=>hok e he) (by kernel_rfl) (AllVS.cons ?_ AllVS.nil)
      refine VStep.mk2 [0,1,2,3] 25 (.own 7) 7 (.row 169 3 (List.replicate 4 [.int .i64 0,.int .i64 0,.int .i64 0])) 26 (.own 8) 8 (.row 182 2 []) [⟨2,24,6,false,.row 3 1 []⟩] rfl rfl rfl rfl rfl (fun b1 _ hbn=>b6 rfl rfl (v8 G rfl rfl rfl rfl) (b4 rfl)) (by kernel_rfl) (by kernel_rfl) (by kernel_rfl) (by kernel_rfl) ?_
      refine j3 [(6,[2])] (by kernel_rfl) (by kernel_rfl) (fun e he=>hok e (vin (is:=[3,4]) rfl he)) (by kernel_rfl) (AllVS.cons ?_ AllVS.nil)
      refine VStep.mk1 [0,1,2,3] 24 (.own 6) 6 (.row 3 1 []) [] rfl rfl rfl rfl rfl (fun b1 _ hbn=>b6 rfl rfl (v8 G rfl rfl rfl rfl) (b4 rfl)) (by kernel_rfl) (by kernel_rfl) (by kernel_rfl) (by kernel_rfl) ?_
      refine B3 ?_
      clear hok
      refine b5 (rs:=[7]) (by kernel_rfl) rfl (AllB.cons ?_ AllB.nil)
      refine c7 [0,1,2,3] rfl rfl (r5 G 10 rfl rfl rfl rfl rfl rfl rfl rfl (.v rfl (.own rfl (.own rfl (.own rfl .nil)))) rfl rfl rfl rfl (b4 ⟨rfl,?_⟩))
      refine b5 (rs:=[8]) (by kernel_rfl) rfl (AllB.cons ?_ AllB.nil)
      refine c7 [0,1,2,3] rfl rfl (v6 (Gh.forget (id:=5) (k:=3) rfl rfl)<|v6 (Gh.keep [0,1,2,3,4,5,9] rfl)<|C6 (tx:=23) 11 rfl rfl rfl rfl rfl<|m9 G (by exact Nat.le_of_ble_eq_true rfl) rfl rfl rfl rfl rfl rfl rfl rfl rfl rfl (by first | (simp;omega) | (simp only [List.length_map,List.length_cons,List.length_nil,List.length_replicate];omega)) rfl rfl (b4 ⟨rfl,?_⟩))
      refine e9 9 rfl (by kernel_rfl) (by kernel_rfl) rfl rfl rfl rfl (l5 G rfl rfl rfl rfl) ?_
      refine b5 (rs:=[10]) (by kernel_rfl) rfl (AllB.cons ?_ AllB.nil)
      refine c7 [0,1,2,3] rfl rfl (j7 G rfl rfl rfl rfl rfl rfl rfl rfl rfl rfl rfl (b4 ⟨rfl,?_⟩))
      exact l6 (by kernel_rfl) (Meet.mk rfl rfl rfl rfl)
     ·refine VStep.mk2 [0,1,2,3] 25 (.own 7) 7 (.row 169 3 (List.replicate 4 [.int .i64 0,.int .i64 0,.int .i64 0])) 26 (.own 8) 8 (.row 182 2 []) [⟨2,24,6,false,.row 3 1 []⟩] rfl rfl rfl rfl rfl (fun b1 _ hbn=>b6 rfl rfl (v8 G rfl rfl rfl rfl) (b4 rfl)) (by kernel_rfl) (by kernel_rfl) (by kernel_rfl) (by kernel_rfl) ?_
      refine j3 [(1,[]),(6,[2])] (by kernel_rfl) (by kernel_rfl) (fun e he=>hok e (vin (is:=[3,4]) rfl he)) (by kernel_rfl) (AllVS.cons ?_ (AllVS.cons ?_ AllVS.nil))
      ·refine VStep.mk0 [0,1,2,3] rfl rfl (fun b1 _ hbn=>b6 rfl rfl (n9 G rfl rfl rfl rfl rfl rfl rfl) (b4 rfl)) (by kernel_rfl) (by kernel_rfl) (by kernel_rfl) (by kernel_rfl) ?_
       refine j3 [(6,[2])] (by kernel_rfl) (by kernel_rfl) (fun e he=>hok e (vin (is:=[3,4]) rfl he)) (by kernel_rfl) (AllVS.cons ?_ AllVS.nil)
       refine VStep.mk1 [0,1,2,3] 24 (.own 6) 6 (.row 3 1 []) [] rfl rfl rfl rfl rfl (fun b1 _ hbn=>b6 rfl rfl (v8 G rfl rfl rfl rfl) (b4 rfl)) (by kernel_rfl) (by kernel_rfl) (by kernel_rfl) (by kernel_rfl) ?_
       refine B3 ?_
       clear hok
       refine b5 (rs:=[7]) (by kernel_rfl) rfl (AllB.cons ?_ AllB.nil)
       refine c7 [0,1,2,3] rfl rfl (r5 G 10 rfl rfl rfl rfl rfl rfl rfl rfl (.v rfl (.own rfl (.own rfl (.own rfl .nil)))) rfl rfl rfl rfl (b4 ⟨rfl,?_⟩))
       refine b5 (rs:=[8]) (by kernel_rfl) rfl (AllB.cons ?_ AllB.nil)
       refine c7 [0,1,2,3] rfl rfl (v6 (Gh.forget (id:=5) (k:=3) rfl rfl)<|v6 (Gh.keep [0,1,2,3,4,5,9] rfl)<|C6 (tx:=23) 11 rfl rfl rfl rfl rfl<|m9 G (by exact Nat.le_of_ble_eq_true rfl) rfl rfl rfl rfl rfl rfl rfl rfl rfl rfl (by first | (simp;omega) | (simp only [List.length_map,List.length_cons,List.length_nil,List.length_replicate];omega)) rfl rfl (b4 ⟨rfl,?_⟩))
       refine e9 9 rfl (by kernel_rfl) (by kernel_rfl) rfl rfl rfl rfl (l5 G rfl rfl rfl rfl) ?_
       refine b5 (rs:=[10]) (by kernel_rfl) rfl (AllB.cons ?_ AllB.nil)
       refine c7 [0,1,2,3] rfl rfl (j7 G rfl rfl rfl rfl rfl rfl rfl rfl rfl rfl rfl (b4 ⟨rfl,?_⟩))
       exact l6 (by kernel_rfl) (Meet.mk rfl rfl rfl rfl)
      ·refine VStep.mk1 [0,1,2,3] 24 (.own 6) 6 (.row 3 1 []) [] rfl rfl rfl rfl rfl (fun b1 _ hbn=>b6 rfl rfl (v8 G rfl rfl rfl rfl) (b4 rfl)) (by kernel_rfl) (by kernel_rfl) (by kernel_rfl) (by kernel_rfl) ?_
       refine B3 ?_
       clear hok
       refine b5 (rs:=[1,7]) (by kernel_rfl) rfl (AllB.cons ?_ (AllB.cons ?_ AllB.nil))
       ·refine c7 [0,1,2,3] rfl rfl (b6 rfl rfl (n9 G rfl rfl rfl rfl rfl rfl rfl) (b4 ⟨rfl,?_⟩))
        refine b5 (rs:=[7]) (by kernel_rfl) rfl (AllB.cons ?_ AllB.nil)
        refine c7 [0,1,2,3] rfl rfl (r5 G 10 rfl rfl rfl rfl rfl rfl rfl rfl (.v rfl (.own rfl (.own rfl (.own rfl .nil)))) rfl rfl rfl rfl (b4 ⟨rfl,?_⟩))
        refine b5 (rs:=[8]) (by kernel_rfl) rfl (AllB.cons ?_ AllB.nil)
        refine c7 [0,1,2,3] rfl rfl (v6 (Gh.forget (id:=5) (k:=3) rfl rfl)<|v6 (Gh.keep [0,1,2,3,4,5,9] rfl)<|C6 (tx:=23) 11 rfl rfl rfl rfl rfl<|m9 G (by exact Nat.le_of_ble_eq_true rfl) rfl rfl rfl rfl rfl rfl rfl rfl rfl rfl (by first | (simp;omega) | (simp only [List.length_map,List.length_cons,List.length_nil,List.length_replicate];omega)) rfl rfl (b4 ⟨rfl,?_⟩))
        refine e9 9 rfl (by kernel_rfl) (by kernel_rfl) rfl rfl rfl rfl (l5 G rfl rfl rfl rfl) ?_
        refine b5 (rs:=[10]) (by kernel_rfl) rfl (AllB.cons ?_ AllB.nil)
        refine c7 [0,1,2,3] rfl rfl (j7 G rfl rfl rfl rfl rfl rfl rfl rfl rfl rfl rfl (b4 ⟨rfl,?_⟩))
        exact l6 (by kernel_rfl) (Meet.mk rfl rfl rfl rfl)
       ·refine c7 [0,1,2,3] rfl rfl (r5 G 10 rfl rfl rfl rfl rfl rfl rfl rfl (.v rfl (.own rfl (.own rfl (.own rfl .nil)))) rfl rfl rfl rfl (b4 ⟨rfl,?_⟩))
        refine b5 (rs:=[1]) (by kernel_rfl) rfl (AllB.cons ?_ AllB.nil)
        refine c7 [0,1,2,3] rfl rfl (b6 rfl rfl (n9 G rfl rfl rfl rfl rfl rfl rfl) (b4 ⟨rfl,?_⟩))
        refine b5 (rs:=[8]) (by kernel_rfl) rfl (AllB.cons ?_ AllB.nil)
        refine c7 [0,1,2,3] rfl rfl (v6 (Gh.forget (id:=5) (k:=3) rfl rfl)<|v6 (Gh.keep [0,1,2,3,4,5,9] rfl)<|C6 (tx:=23) 11 rfl rfl rfl rfl rfl<|m9 G (by exact Nat.le_of_ble_eq_true rfl) rfl rfl rfl rfl rfl rfl rfl rfl rfl rfl (by first | (simp;omega) | (simp only [List.length_map,List.length_cons,List.length_nil,List.length_replicate];omega)) rfl rfl (b4 ⟨rfl,?_⟩))
        refine e9 9 rfl (by kernel_rfl) (by kernel_rfl) rfl rfl rfl rfl (l5 G rfl rfl rfl rfl) ?_
        refine b5 (rs:=[10]) (by kernel_rfl) rfl (AllB.cons ?_ AllB.nil)
        refine c7 [0,1,2,3] rfl rfl (j7 G rfl rfl rfl rfl rfl rfl rfl rfl rfl rfl rfl (b4 ⟨rfl,?_⟩))
        exact l6 (by kernel_rfl) (Meet.mk rfl rfl rfl rfl)
    ·clear hK10 K10
     refine d4 ?_
     refine a8 rfl ?_
     first | refine b6 rfl rfl (x8 rfl rfl rfl rfl (by omega) (by omega)) ?_ | refine b6 rfl rfl (C5 rfl rfl rfl rfl) ?_
     refine a8 rfl ?_
     refine b6 rfl rfl (e6 rfl rfl) ?_
     refine G8 (Gh.sub 10 4 np rfl rfl rfl) ?_
     refine b4 ⟨(k+1),?_,?_,⟨⟨_,rfl,by rfl⟩,rfl,trivial⟩,⟨⟨_,rfl,by exact congrArg (fun z=>Row.nest _ _ z []) (b2Y rfl)⟩,rfl,rfl,trivial⟩,rfl,rfl,rfl⟩
     ·omega
     ·omega
   ·try rw [h2]
    try simp only [rfb] at h2
    refine Y0 ?_
    refine hK6 _ ?_
    clear hK9 K9 hK6 K6
    refine f9 (fun K11 hK11=>?_)
    refine d4 ?_
    refine a8 rfl ?_
    refine b6 rfl rfl (p5 G rfl rfl rfl rfl rfl rfl) ?_
    refine a8 rfl ?_
    refine j7 G rfl rfl rfl rfl rfl rfl rfl rfl rfl rfl rfl ?_
    refine a8 rfl ?_
    refine b6 rfl rfl (d6 rfl rfl) ?_
    refine b4 ?_
    refine hK11 _ ?_
    clear hK11 K11
    refine c6 (d9 rfl rfl rfl rfl (a7 (b7 rfl ?_) (a7 (b7 rfl ?_) (a7 (b7 rfl ?_) (a7 (n7 rfl ?_) (a7 (c1 ?_) b9))))))
    all_goals (first | (rw [hM];done) | (rw [hM];rfl) | (rw [hM];simp [b1D];done) | (rw [hM];simp [noM];done) | (rw [hM];have e:k=n:=(by omega);subst e;first | done | rfl | (simp [b1D];done)))
end Go.Proofs.YtpfhomblkgmkkaaGreatDoor
set_option maxRecDepth 20000
namespace Go.Proofs.YtpfhomblkgmkkaaGreatDoor
open Go Go.Rf
theorem w8:a0K Tryz.prog 83 [.int .i64,.int .i64]=true:=by kernel_rfl
theorem N5 (wa:List Wtr) (hw:wa.length≤1048576):Ctr Tryz.prog 162 [.lst 2 (wa.map l1)] (.one (.fr 182 2 (wa.map l1))):=by
 refine Ctr.of (n:=8) G Tryz.func162 rfl b3 rfl rfl rfl (fun w0=>?_)
 refine zgo ?_
 refine a8 rfl (b9j G rfl rfl rfl rfl rfl (fun bn hbn=>?_))
 refine zcd (fun h1=>?_) (fun h1=>?_)
 ·refine zgo ?_
  refine c6 (H1 rfl (r8 ?_))
  all_goals (first | rfl | (exact (hbn h1).symm) | (rw [hbn h1];done) | (simp_all;done) | simp)
 refine b14 ?_
 refine vm5 ?_
 refine vm7 ?_
 refine zfo ?_
 all_goals (first | rfl | (exact (hbn h1).symm) | (rw [hbn h1];done) | (simp_all;done) | simp)
theorem a36 (w:Wtr) (rs:List Route) (k:Nat) (hr8:rs.length=8) (hw:0≤w.q∧w.q≤7):Ctr Tryz.prog 165 [.v (a4j w),.eptN [.lst 2 (rs.map p8)],.ept [.int .i64 (k:Int)]] (.one (.v (.bool (!rtW rs k w)))):=by
 refine Ctr.of (n:=15) G Tryz.func165 rfl b3 rfl rfl rfl (fun w0=>?_)
 refine vm1 ?_
 refine zgd ?_
 refine m4 rfl (u9 rfl rfl (S2 G rfl rfl rfl rfl) ?_)
 refine zgo ?_
 refine m4 rfl (u9 rfl rfl (c0n [.int .i64,.int .i64] rfl rfl rfl rfl rfl rfl rfl (.inl rfl) (.inl rfl) w8 ⟨_,_,rfl,⟨_,rfl⟩,_,_,rfl,⟨_,rfl⟩,rfl⟩ ⟨_,_,rfl,⟨_,rfl⟩,_,_,rfl,⟨_,rfl⟩,rfl⟩) ?_)
 refine zf1 ?_
 all_goals ((refine congrArg Value.bool ?_;rw [Bool.eq_iff_iff,Bool.not_eq_true',Bool.not_eq_true',← Bool.not_eq_true,← Bool.not_eq_true (b:=rtW rs k w),ec2,a3X];exact not_congr And.comm))
theorem G4 (xs:List Wtr) (f:Nat) (rs:List Route) (c:List Value) (p:Wtr→Bool) (hl:xs.length≤1048576) (hf:∀ i,i < xs.length→Ctr Tryz.prog f [.v (a4j (xs.getD i default)),.eptN [.lst 2 (rs.map p8)],.ept c] (.one (.v (.bool (p (xs.getD i default)))))):Ctr Tryz.prog 207 [.lst 2 (xs.map l1),.fnc f [.eptN [.lst 2 (rs.map p8)],.ept c]] (.one (.v (.int .i64 (G5 (fun i=>p (xs.getD i default)) xs.length)))):=by
 refine Ctr.of (n:=19) G Tryz.func207 rfl b3 rfl rfl rfl (fun w0=>?_)
 refine zgo ?_
 refine i7 [0,1,7] [] (fun (i:Nat)=>[(8,.v (.int .i64 (i:Int)))]) (fun (i:Nat)=>[]) (fun (i:Nat)=>i≤xs.length∧∀ j,j < i→p (xs.getD j default)=false) (fun (i:Nat)=>xs.length - i) 0 rfl rfl ?_ ?_ ?_ ?_
 ·exact ⟨Nat.zero_le _,fun j hj=>by omega⟩
 ·exact ⟨⟨_,rfl,by (first | rfl | (simp;done) | (simp;omega))⟩,rfl,trivial⟩
 ·exact trivial
 intro i hinv
 simp only [List.cons_append,List.nil_append]
 refine zcd (fun h1=>?_) (fun h1=>?_)
 ·refine b6n ?_
  refine zcd (fun h2=>?_) (fun h2=>?_)
  ·refine zf1 ?_
   all_goals exact a7M
  refine zgo ?_
  refine ⟨(i+1),?_,?_,⟨⟨_,rfl,by rfl⟩,rfl,trivial⟩,trivial,rfl,rfl,rfl⟩
  ·exact ⟨by omega,i8 hinv.2 c8⟩
  omega
 refine zf1 ?_
 all_goals exact a7M
theorem F7 (xs:List Wtr) (f:Nat) (rs:List Route) (c:List Value) (p:Wtr→Bool) (hl:xs.length≤1048576) (hf:∀ i,i < xs.length→Ctr Tryz.prog f [.v (a4j (xs.getD i default)),.eptN [.lst 2 (rs.map p8)],.ept c] (.one (.v (.bool (p (xs.getD i default)))))):Ctr Tryz.prog 164 [.lst 2 (xs.map l1),.fnc f [.eptN [.lst 2 (rs.map p8)],.ept c]] (.one (.v (.bool (a0g xs.length (fun i=>p (xs.getD i default)))))):=by
 refine Ctr.of (n:=9) G Tryz.func164 rfl b3 rfl rfl rfl (fun w0=>?_)
 refine zcl (G4 xs f rs c p hl hf) ?_
 refine zf1 ?_
 all_goals (rw [a3K])
theorem a6l (rs:List Route) (k:Nat) (x:Ifc) (hr8:rs.length=8) (hF:IfF x) (hk:k≤8):Ctr Tryz.prog 106 [.lst 2 (rs.map p8),.v (.int .i64 (k:Int)),.agg [.v (.int .i64 x.ma),.lst 1 (x.st.map Rf.r9),.lst 3 (x.qu.sl.map j8),.lst 2 (x.qu.wa.map l1)]] (.one (.v (.bool (okRq rs x.qu k)))):=by
 have hl4:=hF.qu.sl.len
 have hwn:=hF.qu.wn8
 refine Ctr.of (n:=38) G Tryz.func106 rfl b3 rfl rfl rfl (fun w0=>?_)
 refine c1e (t:=0) rfl (fun z0=>?_)
 refine o7 2 rfl (fun _=>rfl) (fun u2=>?_)
 refine b8R ?_
 refine o9 ?_
 refine B0 3 rfl rfl rfl rfl rfl rfl rfl ?_
 refine vm5 ?_
 refine d7 4 rfl rfl rfl (ArgsOK.of rfl) (N5 x.qu.wa (by omega)) rfl rfl ?_
 refine zgo ?_
 refine i7 [3,4,16,17] [0,1] (fun (i:Nat)=>[(7,.own 3),(18,.v (.int .i64 (i:Int)))]) (fun (i:Nat)=>[(3,some (.row 182 2 ((ftL x.qu i).map l1)))]) (fun (i:Nat)=>i≤4∧∀ t,t < i→(x.qu.sl.getD t default).s≠3) (fun (i:Nat)=>4 - i) 0 rfl rfl ?_ ?_ ?_ ?_
 ·exact ⟨Nat.zero_le _,fun j hj=>by omega⟩
 ·exact ⟨⟨_,rfl,by (first | rfl | (simp;done) | (simp;omega))⟩,rfl,⟨⟨_,rfl,by (first | rfl | (simp;done) | (simp;omega))⟩,rfl,trivial⟩⟩
 ·exact ⟨⟨_,rfl,by (first | rfl | (simp;done) | (simp;omega))⟩,rfl,rfl,trivial⟩
 intro i hinv
 have hpl:=@b1O x.qu i
 simp only [List.cons_append,List.nil_append]
 refine zcd (fun h1=>?_) (fun h1=>?_)
 ·refine vm5 ?_
  refine d8 G 5 rfl rfl rfl rfl rfl ?_
  refine zcd (fun h2=>?_) (fun h2=>?_)
  ·refine zf1 ?_
   all_goals exact c03
  refine zcd (fun h3=>?_) (fun h3=>?_)
  ·refine zcl (y8 _) ?_
   refine o9 ?_
   refine s2 G 6 rfl rfl rfl rfl rfl rfl rfl rfl ?_
   refine o9 ?_
   refine vm7 ?_
   refine zgo ?_
   refine ⟨(i+1),?_,?_,⟨⟨_,rfl,by rfl⟩,rfl,⟨⟨_,rfl,by rfl⟩,rfl,trivial⟩⟩,⟨⟨_,rfl,by (first | (rw [c0y (by omega)];done) | (rw [c0z (by omega),List.map_append];rfl))⟩,rfl,rfl,trivial⟩,rfl,rfl,rfl⟩
   ·exact ⟨by omega,i8 hinv.2 (by omega)⟩
   omega
  refine zgo ?_
  refine ⟨(i+1),?_,?_,⟨⟨_,rfl,by rfl⟩,rfl,⟨⟨_,rfl,by rfl⟩,rfl,trivial⟩⟩,⟨⟨_,rfl,by (first | (rw [c0y (by omega)];done) | (rw [c0z (by omega),List.map_append];rfl))⟩,rfl,rfl,trivial⟩,rfl,rfl,rfl⟩
  ·exact ⟨by omega,i8 hinv.2 (by omega)⟩
  omega
 obtain rfl:i=4:=(by omega)
 have hfl:=@b1O x.qu 4
 refine vm5 ?_
 refine b6 rfl rfl (a8I rfl rfl) ?_
 refine zcl (F7 (ftL x.qu 4) 165 rs [.int .i64 (k:Int)] (fun w=>!rtW rs k w) (by omega) (fun j hj=>a36 _ rs k hr8 (c1V hF.qu (Nat.le_refl _) (n6.mpr ⟨j,hj,rfl⟩)))) ?_
 refine zf1 ?_
 all_goals exact c03
end Go.Proofs.YtpfhomblkgmkkaaGreatDoor
set_option maxRecDepth 20000
namespace Go.Proofs.YtpfhomblkgmkkaaGreatDoor
open Go Go.Rf
theorem Z4 (m:Mach) (hs:SmallM m):Ctr Tryz.prog 64 [.agg [.lst 2 (m.rs.map p8),.lst 1 (m.en.map r3),.lst 1 (m.ra.map r3),.nst none 4 (m.cp.map (s6 169 182))]] (.one (.v (.bool (a1b m)))):=by
 have z0:=hs.rs
 have z1:=hs.en
 have z2:=hs.ra
 have z3:=hs.cp
 refine Ctr.of (n:=44) G Tryz.func64 rfl b3 rfl rfl rfl (fun w0=>?_)
 refine o7 0 rfl (fun _=>rfl) (fun u0=>?_)
 refine u4 ?_
 refine b3r ?_
 refine zgn ?_
 refine u4 ?_
 refine a33 ?_
 iterate 5 refine zst ?_
 refine o9 ?_
 refine b6 rfl rfl (f6 rfl (ArgsOK.of rfl) (a2b m.rs _ (by omega)) rfl) ?_
 refine a18 ?_
 refine D4 rfl rfl rfl (fun h1=>?_) (fun h1=>?_)
 ·try rw [h1]
  try simp only [rfb] at h1
  refine zgn ?_
  refine J6 rfl ?_
  refine a0x ?_
  all_goals exact a7N
 try rw [h1]
 try simp only [rfb] at h1
 have hr8:=(I3.mp h1).2.1
 have hc2:=(I3.mp h1).1
 iterate 6 refine zst ?_
 refine D4 rfl rfl rfl (fun h2=>?_) (fun h2=>?_)
 ·try rw [h2]
  try simp only [rfb] at h2
  refine zgn ?_
  refine J6 rfl ?_
  refine a0x ?_
  all_goals exact a7N
 try rw [h2]
 try simp only [rfb] at h2
 refine zgn ?_
 refine r7 rfl (fun h3=>?_) (fun h3=>?_)
 ·try rw [h3]
  try simp only [rfb] at h3
  refine a0x ?_
  all_goals exact a7N
 try rw [h3]
 try simp only [rfb] at h3
 refine zgn ?_
 refine zgn ?_
 refine w7 (i7 [1,25,26] [0] (fun (k:Nat)=>[(27,.v (.int .i64 (k:Int)))]) (fun (k:Nat)=>[]) (fun (k:Nat)=>k≤m.cp.length∧∀ j,j < k→a7I m j=true) (fun (k:Nat)=>m.cp.length - k) 0 rfl rfl ?_ ?_ ?_ ?_)
 ·exact ⟨Nat.zero_le _,fun j hj=>by omega⟩
 ·exact ⟨⟨_,rfl,by (first | rfl | (simp;done) | (simp;omega))⟩,rfl,trivial⟩
 ·exact trivial
 intro k hk
 simp only [List.cons_append,List.nil_append]
 refine zgn ?_
 refine u4 (r7 rfl (fun h4=>?_) (fun h4=>?_))
 ·try rw [h4]
  try simp only [rfb] at h4
  have hsz:=hs.allI (i:=k) (by omega)
  have hsz2:szI (m.cp.getD k default)=(m.cp.getD k default).st.length+(m.cp.getD k default).qu.sl.length+(m.cp.getD k default).qu.wa.length:=rfl
  refine zgn ?_
  refine u4 (w7 (u4 ?_))
  refine a94 ?_
  refine o9 ?_
  refine a95 ?_
  refine zst ?_
  refine o9 ?_
  refine a55 31 rfl (fun _=>rfl) fun v31=>j7 G rfl rfl rfl rfl rfl rfl rfl rfl rfl rfl rfl ?_
  refine zgn ?_
  refine a33 ?_
  refine zst ?_
  refine o9 ?_
  refine b6 rfl rfl (f6 rfl (ArgsOK.of rfl) (a4R (m.cp.getD k default) (by omega) (by omega) (by omega)) rfl) ?_
  refine a18 ?_
  refine D4 rfl rfl rfl (fun h5=>?_) (fun h5=>?_)
  ·try rw [h5]
   try simp only [rfb] at h5
   refine zgn ?_
   refine J6 rfl ?_
   refine a0x ?_
   all_goals exact a7N
  try rw [h5]
  try simp only [rfb] at h5
  have hIF:=(b35 h5).1
  iterate 4 refine zst ?_
  refine a0P ?_
  refine b6 rfl rfl (f6 rfl (ArgsOK.of rfl) (a6l m.rs k (m.cp.getD k default) hr8 hIF (by omega)) rfl) ?_
  refine zgn ?_
  refine r7 rfl (fun h6=>?_) (fun h6=>?_)
  ·try rw [h6]
   try simp only [rfb] at h6
   refine a0x ?_
   all_goals exact a7N
  try rw [h6]
  try simp only [rfb] at h6
  refine zgn ?_
  refine d4 ?_
  refine a9D ?_
  refine zgn ?_
  refine ⟨(k+1),?_,?_,⟨⟨_,rfl,by rfl⟩,rfl,trivial⟩,trivial,rfl,rfl,rfl⟩
  ·exact ⟨by omega,i8 hk.2 (b7X c8 c8)⟩
  omega
 try rw [h4]
 try simp only [rfb] at h4
 refine zgn ?_
 refine a0x ?_
 all_goals exact a7N
theorem a3C (m:Mach) (hs:SmallM m):Ctr Tryz.prog 54 [.agg [.lst 2 (m.rs.map p8),.lst 1 (m.en.map r3),.lst 1 (m.ra.map r3),.nst none 4 (m.cp.map (s6 169 182))]] (.one (.v (.bool (a1b m)))):=by
 have z0:=hs.rs
 have z1:=hs.en
 have z2:=hs.ra
 have z3:=hs.cp
 refine Ctr.of (n:=50) G Tryz.func54 rfl b3 rfl rfl rfl (fun w0=>?_)
 refine o7 0 rfl (fun _=>rfl) (fun u0=>?_)
 refine vm1 ?_
 refine zcl (a0t m.rs _ (by omega)) ?_
 refine zcd (fun h1=>?_) (fun h1=>?_)
 ·refine H3 ?_
  all_goals exact a7N
 have hr8:=(I3.mp h1).2.1
 have hc2:=(I3.mp h1).1
 refine zcd (fun h2=>?_) (fun h2=>?_)
 ·refine H3 ?_
  all_goals exact a7N
 refine zcd (fun h3=>?_) (fun h3=>?_)
 ·refine zf1 ?_
  all_goals exact a7N
 refine zgo ?_
 refine i7 [1] [0] (fun (k:Nat)=>[(3,.v (.int .i64 (k:Int)))]) (fun (k:Nat)=>[]) (fun (k:Nat)=>k≤m.cp.length∧∀ j,j < k→a7I m j=true) (fun (k:Nat)=>m.cp.length - k) 0 rfl rfl ?_ ?_ ?_ ?_
 ·exact ⟨Nat.zero_le _,fun j hj=>by omega⟩
 ·exact ⟨⟨_,rfl,by (first | rfl | (simp;done) | (simp;omega))⟩,rfl,trivial⟩
 ·exact trivial
 intro k hk
 simp only [List.cons_append,List.nil_append]
 refine zcd (fun h4=>?_) (fun h4=>?_)
 ·have hsz:=hs.allI (i:=k) (by omega)
  have hsz2:szI (m.cp.getD k default)=(m.cp.getD k default).st.length+(m.cp.getD k default).qu.sl.length+(m.cp.getD k default).qu.wa.length:=rfl
  refine zgd ?_
  refine zcl (a9K (m.cp.getD k default) (by omega) (by omega) (by omega)) ?_
  refine zcd (fun h5=>?_) (fun h5=>?_)
  ·refine H3 ?_
   all_goals exact a7N
  have hIF:=(b35 h5).1
  refine zgo ?_
  refine a97 ?_
  refine u9 rfl rfl (a0G G rfl rfl rfl rfl) ?_
  refine zcl (a7Z m.rs (m.cp.getD k default).qu k hr8 hIF.qu (by omega)) ?_
  refine zcd (fun h6=>?_) (fun h6=>?_)
  ·refine zf1 ?_
   all_goals exact a7N
  refine zgo ?_
  refine ⟨(k+1),?_,?_,⟨⟨_,rfl,by rfl⟩,rfl,trivial⟩,trivial,rfl,rfl,rfl⟩
  ·exact ⟨by omega,i8 hk.2 (b7X c8 c8)⟩
  omega
 refine zf1 ?_
 all_goals exact a7N
end Go.Proofs.YtpfhomblkgmkkaaGreatDoor
set_option maxRecDepth 20000
namespace Go.Proofs.YtpfhomblkgmkkaaGreatDoor
open Go Go.Rf
theorem a9M (q:Int) (m:Mach) (hq:0≤q∧q.toNat < m.ra.length):Ctr Tryz.prog 112 [.v (.int .i64 q),.eptN [.lst 2 (m.rs.map p8),.lst 1 (m.en.map r3),.lst 1 (m.ra.map r3),.nst none 4 (m.cp.map (s6 169 182))]] (.one (.v (.bool (m.ra.getD q.toNat default)))):=by
 refine Ctr.of (n:=9) G Tryz.func112 rfl b3 rfl rfl rfl (fun w0=>?_)
 refine vm5 ?_
 refine b15 ?_
 refine o9 ?_
 refine b6o ?_
 refine zf1 ?_
 all_goals (rfl)
theorem a69 (f:Nat) (m:Mach) (p:Nat→Bool) (hf:∀ i:Nat,i < 8→Ctr Tryz.prog f [.v (.int .i64 (i:Int)),.eptN [.lst 2 (m.rs.map p8),.lst 1 (m.en.map r3),.lst 1 (m.ra.map r3),.nst none 4 (m.cp.map (s6 169 182))]] (.one (.v (.bool (p i))))):Ctr Tryz.prog 111 [.fnc f [.eptN [.lst 2 (m.rs.map p8),.lst 1 (m.en.map r3),.lst 1 (m.ra.map r3),.nst none 4 (m.cp.map (s6 169 182))]]] (.one (.fr 3 1 ((whN p 8).map Rf.r9))):=by
 refine Ctr.of (n:=18) G Tryz.func111 rfl b3 rfl rfl rfl (fun w0=>?_)
 refine b14 ?_
 refine zgo ?_
 refine i7 [0] [] (fun (i:Nat)=>[(3,.own 0),(6,.v (.int .i64 (i:Int)))]) (fun (i:Nat)=>[(0,some (.row 3 1 ((whN p i).map Rf.r9)))]) (fun (i:Nat)=>i≤8) (fun (i:Nat)=>8 - i) 0 rfl rfl ?_ ?_ ?_ ?_
 ·exact Nat.zero_le _
 ·exact ⟨⟨_,rfl,by rfl⟩,rfl,⟨⟨_,rfl,by rfl⟩,rfl,trivial⟩⟩
 ·exact ⟨⟨_,rfl,by rfl⟩,rfl,rfl,trivial⟩
 intro i hinv
 have hwl:=@a6a p i
 simp only [List.cons_append,List.nil_append]
 refine zcd (fun h1=>?_) (fun h1=>?_)
 ·refine vm5 ?_
  refine b6 rfl rfl (b1g rfl rfl (ArgsOK.of rfl) rfl (hf i (by omega)) rfl) ?_
  refine zcd (fun h2=>?_) (fun h2=>?_)
  ·refine vm5 ?_
   refine b4f ?_
   refine o9 ?_
   refine vm7 ?_
   refine zgo ?_
   refine ⟨(i+1),?_,?_,⟨⟨_,rfl,by rfl⟩,rfl,⟨⟨_,rfl,by rfl⟩,rfl,trivial⟩⟩,⟨⟨_,rfl,by (first | (rw [b40 c8,List.map_append];rfl) | (rw [b41 c8];done))⟩,rfl,rfl,trivial⟩,rfl,rfl,rfl⟩
   ·omega
   omega
  refine zgo ?_
  refine ⟨(i+1),?_,?_,⟨⟨_,rfl,by rfl⟩,rfl,⟨⟨_,rfl,by rfl⟩,rfl,trivial⟩⟩,⟨⟨_,rfl,by (first | (rw [b40 c8,List.map_append];rfl) | (rw [b41 c8];done))⟩,rfl,rfl,trivial⟩,rfl,rfl,rfl⟩
  ·omega
  omega
 obtain rfl:i=8:=(by omega)
 refine zfo ?_
 all_goals (rfl)
theorem a73 (x:Ifc) (hF:IfF x):Ctr Tryz.prog 172 [.agg [.v (.int .i64 x.ma),.lst 1 (x.st.map Rf.r9),.lst 3 (x.qu.sl.map j8),.lst 2 (x.qu.wa.map l1)]] (.one (.v (.bool (a17 x)))):=by
 have hsn:=hF.sn
 have hpl:=a15 hF.qu
 refine Ctr.of (n:=14) G Tryz.func172 rfl b3 rfl rfl rfl (fun w0=>?_)
 refine o7 0 rfl (fun _=>rfl) (fun u0=>?_)
 refine vm1 ?_
 refine zcd (fun h1=>?_) (fun h1=>?_)
 ·refine zf1 ?_
  all_goals exact c04
 refine zgo ?_
 refine a0P ?_
 refine d7 2 rfl rfl rfl (ArgsOK.of rfl) (R8 x.qu hF.qu) rfl rfl ?_
 refine zf1 ?_
 all_goals exact c04
theorem E4 (xs:List Ifc) (f:Nat) (p:Ifc→Bool) (hl:xs.length≤1048576) (hf:∀ i,i < xs.length→Ctr Tryz.prog f [.agg [.v (.int .i64 (xs.getD i default).ma),.lst 1 ((xs.getD i default).st.map Rf.r9),.lst 3 ((xs.getD i default).qu.sl.map j8),.lst 2 ((xs.getD i default).qu.wa.map l1)]] (.one (.v (.bool (p (xs.getD i default)))))):Ctr Tryz.prog 220 [.nst none 4 (xs.map (s6 169 182)),.fnc f []] (.one (.v (.int .i64 (G5 (fun i=>p (xs.getD i default)) xs.length)))):=by
 refine Ctr.of (n:=19) G Tryz.func220 rfl b3 rfl rfl rfl (fun w0=>?_)
 refine zgo ?_
 refine i7 [0,1,7] [] (fun (i:Nat)=>[(8,.v (.int .i64 (i:Int)))]) (fun (i:Nat)=>[]) (fun (i:Nat)=>i≤xs.length∧∀ j,j < i→p (xs.getD j default)=false) (fun (i:Nat)=>xs.length - i) 0 rfl rfl ?_ ?_ ?_ ?_
 ·exact ⟨Nat.zero_le _,fun j hj=>by omega⟩
 ·exact ⟨⟨_,rfl,by (first | rfl | (simp;done) | (simp;omega))⟩,rfl,trivial⟩
 ·exact trivial
 intro i hinv
 simp only [List.cons_append,List.nil_append]
 refine zcd (fun h1=>?_) (fun h1=>?_)
 ·refine b6n ?_
  refine zcd (fun h2=>?_) (fun h2=>?_)
  ·refine zf1 ?_
   all_goals exact a7M
  refine zgo ?_
  refine ⟨(i+1),?_,?_,⟨⟨_,rfl,by rfl⟩,rfl,trivial⟩,trivial,rfl,rfl,rfl⟩
  ·exact ⟨by omega,i8 hinv.2 c8⟩
  omega
 refine zf1 ?_
 all_goals exact a7M
theorem E1 (xs:List Ifc) (f:Nat) (p:Ifc→Bool) (hl:xs.length≤1048576) (hf:∀ i,i < xs.length→Ctr Tryz.prog f [.agg [.v (.int .i64 (xs.getD i default).ma),.lst 1 ((xs.getD i default).st.map Rf.r9),.lst 3 ((xs.getD i default).qu.sl.map j8),.lst 2 ((xs.getD i default).qu.wa.map l1)]] (.one (.v (.bool (p (xs.getD i default)))))):Ctr Tryz.prog 171 [.nst none 4 (xs.map (s6 169 182)),.fnc f []] (.one (.v (.bool (a0g xs.length (fun i=>p (xs.getD i default)))))):=by
 refine Ctr.of (n:=9) G Tryz.func171 rfl b3 rfl rfl rfl (fun w0=>?_)
 refine zcl (E4 xs f p hl hf) ?_
 refine zf1 ?_
 all_goals (rw [a3K])
theorem b0c (m:Mach) (hs:SmallM m) (hM:a1b m=true):Ctr Tryz.prog 113 [.agg [.lst 2 (m.rs.map p8),.lst 1 (m.en.map r3),.lst 1 (m.ra.map r3),.nst none 4 (m.cp.map (s6 169 182))]] (.many [.v (.bool (a63 m)),.v (.bool true)]):=by
 have hG:=(maF hM).g
 have hra:=hG.ra
 have hen:=hG.en
 have hcp:=hs.cp
 refine Ctr.of (n:=30) G Tryz.func113 rfl b3 rfl rfl rfl (fun w0=>?_)
 refine o7 0 rfl (fun _=>rfl) (fun u0=>?_)
 refine vm1 ?_
 refine zcl (Ctr.bool (Z4 m hs) (hM)) ?_
 refine zwf ?_
 refine zgo ?_
 refine i7 [1,10,11] [0] (fun (i:Nat)=>[(12,.v (.int .i64 (i:Int)))]) (fun (i:Nat)=>[]) (fun (i:Nat)=>i≤8∧∀ j,j < i→a7K m j=false) (fun (i:Nat)=>8 - i) 0 rfl rfl ?_ ?_ ?_ ?_
 ·exact ⟨Nat.zero_le _,fun j hj=>by omega⟩
 ·exact ⟨⟨_,rfl,by (first | rfl | (simp;done) | (simp;omega))⟩,rfl,trivial⟩
 ·exact trivial
 intro i hinv
 simp only [List.cons_append,List.nil_append]
 refine zcd (fun h1=>?_) (fun h1=>?_)
 ·refine zcd (fun h2=>?_) (fun h2=>?_)
  ·refine zcd (fun h3=>?_) (fun h3=>?_)
   ·refine zgo ?_
    refine c6 (g8 rfl rfl rfl rfl (a7 (c1 ?_) (a7 (c1 ?_) b9)))
    all_goals exact c05
   refine zgo ?_
   refine ⟨(i+1),?_,?_,⟨⟨_,rfl,by rfl⟩,rfl,trivial⟩,trivial,rfl,rfl,rfl⟩
   ·exact ⟨by omega,i8 hinv.2 b5v⟩
   omega
  refine zwf ?_
  refine zgo ?_
  refine ⟨(i+1),?_,?_,⟨⟨_,rfl,by rfl⟩,rfl,trivial⟩,trivial,rfl,rfl,rfl⟩
  ·exact ⟨by omega,i8 hinv.2 b5v⟩
  omega
 refine zcl (Ctr.argsTo (E1 m.cp 172 a17 (by omega) (fun i hi=>a73 _ (hG.ok i hi).f)) (fun w vs h=>c2b vs h)) ?_
 refine zgo ?_
 refine c6 (g8 rfl rfl rfl rfl (a7 (c1 ?_) (a7 (c1 ?_) b9)))
 all_goals exact c05
theorem a9N (m:Mach) (hs:SmallM m) (hM:a1b m=true):Ctr Tryz.prog 98 [.agg [.lst 2 (m.rs.map p8),.lst 1 (m.en.map r3),.lst 1 (m.ra.map r3),.nst none 4 (m.cp.map (s6 169 182))]] (.one (.v (.bool (a63 m)))):=by
 have hG:=(maF hM).g
 have hra:=hG.ra
 have hen:=hG.en
 have hcp:=hs.cp
 refine Ctr.of (n:=47) G Tryz.func98 rfl b3 rfl rfl rfl (fun w0=>?_)
 refine o7 0 rfl (fun _=>rfl) (fun u0=>?_)
 refine vm1 ?_
 refine zgo ?_
 refine i7 [1] [0] (fun (i:Nat)=>[(3,.v (.int .i64 (i:Int)))]) (fun (i:Nat)=>[]) (fun (i:Nat)=>i≤8∧∀ j,j < i→a7K m j=false) (fun (i:Nat)=>8 - i) 0 rfl rfl ?_ ?_ ?_ ?_
 ·exact ⟨Nat.zero_le _,fun j hj=>by omega⟩
 ·exact ⟨⟨_,rfl,by (first | rfl | (simp;done) | (simp;omega))⟩,rfl,trivial⟩
 ·exact trivial
 intro i hinv
 simp only [List.cons_append,List.nil_append]
 refine zcd (fun h1=>?_) (fun h1=>?_)
 ·refine zcd (fun h2=>?_) (fun h2=>?_)
  ·refine zcd (fun h3=>?_) (fun h3=>?_)
   ·refine zf1 ?_
    all_goals exact b5j
   refine zgo ?_
   refine ⟨(i+1),?_,?_,⟨⟨_,rfl,by rfl⟩,rfl,trivial⟩,trivial,rfl,rfl,rfl⟩
   ·exact ⟨by omega,i8 hinv.2 b5v⟩
   omega
  refine zwf ?_
  refine zgo ?_
  refine ⟨(i+1),?_,?_,⟨⟨_,rfl,by rfl⟩,rfl,trivial⟩,trivial,rfl,rfl,rfl⟩
  ·exact ⟨by omega,i8 hinv.2 b5v⟩
  omega
 refine zgo ?_
 refine i7 [1] [0] (fun (k:Nat)=>[(4,.v (.int .i64 (k:Int)))]) (fun (k:Nat)=>[]) (fun (k:Nat)=>k≤m.cp.length∧∀ j,j < k→a17 (m.cp.getD j default)=false) (fun (k:Nat)=>m.cp.length - k) 0 rfl rfl ?_ ?_ ?_ ?_
 ·exact ⟨Nat.zero_le _,fun j hj=>by omega⟩
 ·exact ⟨⟨_,rfl,by (first | rfl | (simp;done) | (simp;omega))⟩,rfl,trivial⟩
 ·exact trivial
 intro k hk
 simp only [List.cons_append,List.nil_append]
 refine zcd (fun h4=>?_) (fun h4=>?_)
 ·have hI:=(hG.ok k (by omega)).f
  have hsn:=hI.sn
  have hpl:=a15 hI.qu
  refine vm5 ?_
  refine b15 ?_
  refine o9 ?_
  refine b6o ?_
  refine zcd (fun h5=>?_) (fun h5=>?_)
  ·refine H3 ?_
   all_goals exact b5j
  refine zgo ?_
  refine a0P ?_
  refine b15 ?_
  refine zgo ?_
  refine a0P ?_
  refine d7 2 rfl rfl rfl (ArgsOK.of rfl) (Z3 (m.cp.getD k default).qu hI.qu) rfl rfl ?_
  refine zcd (fun h6=>?_) (fun h6=>?_)
  ·refine zf1 ?_
   all_goals exact b5j
  refine zgo ?_
  refine ⟨(k+1),?_,?_,⟨⟨_,rfl,by rfl⟩,rfl,trivial⟩,trivial,rfl,rfl,rfl⟩
  ·exact ⟨by omega,i8 hk.2 (b9T (by omega) (by omega))⟩
  omega
 refine zf1 ?_
 all_goals exact b5j
end Go.Proofs.YtpfhomblkgmkkaaGreatDoor
set_option maxRecDepth 20000
namespace Go.Proofs.YtpfhomblkgmkkaaGreatDoor
open Go Go.Rf
theorem a74 (s:ByteArray) (hs:s.size≤9223372036854775807):Ctr Tryz.prog 71 [.v (.string s)] (.many [.v (.int .i64 (nmN s)),.v (.bool (nmK s))]):=by
 refine Ctr.of (n:=28) G Tryz.func71 rfl (by kernel_rfl) rfl rfl rfl (fun w0=>?_)
 refine f9 (fun K1 hK1=>?_)
 refine d4 ?_
 refine a8 rfl ?_
 refine b6 rfl rfl (d6 rfl rfl) ?_
 refine a8 rfl ?_
 refine b6 rfl rfl (d6 rfl rfl) ?_
 refine b4 ?_
 refine hK1 _ ?_
 clear hK1 K1
 refine f9 (fun K2 hK2=>?_)
 refine f9 (fun K3 hK3=>?_)
 refine d4 ?_
 refine a8 rfl ?_
 refine b6 rfl rfl (e6 rfl rfl) ?_
 refine a8 rfl ?_
 refine b6 rfl rfl (j9 G rfl rfl rfl) ?_
 refine a8 rfl ?_
 refine b6 rfl rfl (I9 rfl rfl rfl rfl) ?_
 refine b4 ?_
 refine hK3 _ ?_
 clear hK3 K3
 refine r7 rfl (fun h1=>?_) (fun h1=>?_)
 ·try rw [h1]
  try simp only [rfb] at h1
  refine f9 (fun K4 hK4=>?_)
  refine d4 ?_
  refine a8 rfl ?_
  refine b6 rfl rfl (d6 rfl rfl) ?_
  refine a8 rfl ?_
  refine b6 rfl rfl (d6 rfl rfl) ?_
  refine b4 ?_
  refine hK4 _ ?_
  clear hK4 K4
  refine c6 (g8 rfl rfl rfl rfl (a7 (c1 ?_) (a7 (c1 ?_) b9)))
  all_goals clear hK2 K2
  all_goals (first | (rw [(P5 (s:=s) (by omega)).1];done) | (rw [(P5 (s:=s) (by omega)).2];done) | (rw [(Z5 (s:=s) (by omega) (hc1.symm.trans h2)).1];done) | (rw [(Z5 (s:=s) (by omega) (hc1.symm.trans h2)).2];done) | (rw [(a1E (s:=s) (by omega) h3).1];done) | (rw [(a1E (s:=s) (by omega) h3).2];done) | (rw [(a4i (s:=s) (by omega) (hc1.symm.trans h2) h4).1];done) | (rw [(a4i (s:=s) (by omega) (hc1.symm.trans h2) h4).2];done) | (rw [(a1F (s:=s) (by omega) (hc1.symm.trans h2) h3 h4).1];done) | (rw [(a1F (s:=s) (by omega) (hc1.symm.trans h2) h3 h4).2];done))
 ·try rw [h1]
  try simp only [rfb] at h1
  have hbd:=b9b (s:=s) (by omega)
  refine y9 ?_
  refine hK2 _ ?_
  clear hK2 K2
  refine f9 (fun K5 hK5=>?_)
  refine d4 ?_
  refine a8 rfl ?_
  refine b6 rfl rfl (e6 rfl rfl) ?_
  refine a8 rfl ?_
  refine b6I 0 [] rfl rfl rfl (a9E s (by omega)) rfl RowsIn.nil rfl (fun _=>rfl) rfl (fun x1 ⟨hv1,hc1⟩=>?_)
  refine a8 rfl ?_
  refine b6 rfl rfl (e6 rfl rfl) ?_
  refine a8 rfl ?_
  refine b6 rfl rfl (n8 rfl rfl rfl) ?_
  refine a8 rfl ?_
  refine b6 rfl rfl (n8 rfl rfl rfl) ?_
  refine a8 rfl ?_
  refine b6 rfl rfl (d6 rfl rfl) ?_
  refine a8 rfl ?_
  refine b6 rfl rfl (d6 rfl rfl) ?_
  refine b4 ?_
  refine hK5 _ ?_
  clear hK5 K5
  refine f9 (fun K6 hK6=>?_)
  refine f9 (fun K7 hK7=>?_)
  refine d4 ?_
  refine a8 rfl ?_
  refine b6 rfl rfl (e6 rfl rfl) ?_
  refine a8 rfl ?_
  refine b6 rfl rfl (c4c (by kernel_rfl) rfl rfl hv1) ?_
  refine a8 rfl (b6 rfl rfl (e6 rfl rfl) (D4 rfl rfl rfl (fun h2=>?_) (fun h2=>?_)))
  ·try rw [h2]
   try simp only [rfb] at h2
   refine m7 rfl rfl rfl rfl rfl rfl ?_
   refine m7 rfl rfl rfl rfl rfl rfl ?_
   refine m7 rfl rfl rfl rfl rfl rfl ?_
   refine a8 rfl ?_
   refine b6 rfl rfl (C9 rfl rfl rfl) ?_
   refine a8 rfl ?_
   refine b6 rfl rfl (e6 rfl rfl) ?_
   refine m7 rfl rfl rfl rfl rfl rfl ?_
   refine m7 rfl rfl rfl rfl rfl rfl ?_
   refine m7 rfl rfl rfl rfl rfl rfl ?_
   refine m7 rfl rfl rfl rfl rfl rfl ?_
   refine a8 rfl ?_
   refine b6 rfl rfl (C9 rfl rfl rfl) ?_
   refine b4 ?_
   refine hK7 _ ?_
   clear hK7 K7
   refine J6 rfl ?_
   refine f9 (fun K8 hK8=>?_)
   refine d4 ?_
   refine a8 rfl ?_
   refine b6 rfl rfl (d6 rfl rfl) ?_
   refine a8 rfl ?_
   refine b6 rfl rfl (d6 rfl rfl) ?_
   refine b4 ?_
   refine hK8 _ ?_
   clear hK8 K8
   refine c6 (g8 rfl rfl rfl rfl (a7 (c1 ?_) (a7 (c1 ?_) b9)))
   all_goals clear hK6 K6
   all_goals (first | (rw [(P5 (s:=s) (by omega)).1];done) | (rw [(P5 (s:=s) (by omega)).2];done) | (rw [(Z5 (s:=s) (by omega) (hc1.symm.trans h2)).1];done) | (rw [(Z5 (s:=s) (by omega) (hc1.symm.trans h2)).2];done) | (rw [(a1E (s:=s) (by omega) h3).1];done) | (rw [(a1E (s:=s) (by omega) h3).2];done) | (rw [(a4i (s:=s) (by omega) (hc1.symm.trans h2) h4).1];done) | (rw [(a4i (s:=s) (by omega) (hc1.symm.trans h2) h4).2];done) | (rw [(a1F (s:=s) (by omega) (hc1.symm.trans h2) h3 h4).1];done) | (rw [(a1F (s:=s) (by omega) (hc1.symm.trans h2) h3 h4).2];done))
  ·try rw [h2]
   try simp only [rfb] at h2
   refine u6 rfl rfl rfl ?_
   refine b6 rfl rfl (e6 rfl rfl) ?_
   refine u6 rfl rfl rfl ?_
   refine b6 rfl rfl (f6 rfl (ArgsOK.of rfl) (a4m _ _ _) rfl) ?_
   refine u6 rfl rfl rfl (b6 rfl rfl (a2K rfl rfl) (a8 rfl (b6 rfl rfl (F8 rfl rfl rfl) (a8 rfl (b6 rfl rfl (e6 rfl rfl) (D4 rfl rfl rfl (fun h3=>?_) (fun h3=>?_)))))))
   ·try rw [h3]
    try simp only [rfb] at h3
    refine m7 rfl rfl rfl rfl rfl rfl ?_
    refine m7 rfl rfl rfl rfl rfl rfl ?_
    refine m7 rfl rfl rfl rfl rfl rfl ?_
    refine m7 rfl rfl rfl rfl rfl rfl ?_
    refine a8 rfl ?_
    refine b6 rfl rfl (C9 rfl rfl rfl) ?_
    refine b4 ?_
    refine hK7 _ ?_
    clear hK7 K7
    refine J6 rfl ?_
    refine f9 (fun K9 hK9=>?_)
    refine d4 ?_
    refine a8 rfl ?_
    refine b6 rfl rfl (d6 rfl rfl) ?_
    refine a8 rfl ?_
    refine b6 rfl rfl (d6 rfl rfl) ?_
    refine b4 ?_
    refine hK9 _ ?_
    clear hK9 K9
    refine c6 (g8 rfl rfl rfl rfl (a7 (c1 ?_) (a7 (c1 ?_) b9)))
    all_goals clear hK6 K6
    all_goals (first | (rw [(P5 (s:=s) (by omega)).1];done) | (rw [(P5 (s:=s) (by omega)).2];done) | (rw [(Z5 (s:=s) (by omega) (hc1.symm.trans h2)).1];done) | (rw [(Z5 (s:=s) (by omega) (hc1.symm.trans h2)).2];done) | (rw [(a1E (s:=s) (by omega) h3).1];done) | (rw [(a1E (s:=s) (by omega) h3).2];done) | (rw [(a4i (s:=s) (by omega) (hc1.symm.trans h2) h4).1];done) | (rw [(a4i (s:=s) (by omega) (hc1.symm.trans h2) h4).2];done) | (rw [(a1F (s:=s) (by omega) (hc1.symm.trans h2) h3 h4).1];done) | (rw [(a1F (s:=s) (by omega) (hc1.symm.trans h2) h3 h4).2];done))
   ·try rw [h3]
    try simp only [rfb] at h3
    refine u6 rfl rfl rfl ?_
    refine b6 rfl rfl (e6 rfl rfl) ?_
    refine u6 rfl rfl rfl ?_
    refine b6 rfl rfl (f6 rfl (ArgsOK.of rfl) (B5 _ (by omega) (by omega)) rfl) ?_
    refine u6 rfl rfl rfl ?_
    refine b6 rfl rfl (e6 rfl rfl) ?_
    refine u6 rfl rfl rfl ?_
    refine b6 rfl rfl (z7 rfl rfl rfl rfl) ?_
    refine a8 rfl ?_
    refine b6 rfl rfl (F8 rfl rfl rfl) ?_
    refine b4 ?_
    refine hK7 _ ?_
    clear hK7 K7
    refine r7 rfl (fun h4=>?_) (fun h4=>?_)
    ·try rw [h4]
     try simp only [rfb] at h4
     refine f9 (fun K10 hK10=>?_)
     refine d4 ?_
     refine a8 rfl ?_
     refine b6 rfl rfl (d6 rfl rfl) ?_
     refine a8 rfl ?_
     refine b6 rfl rfl (d6 rfl rfl) ?_
     refine b4 ?_
     refine hK10 _ ?_
     clear hK10 K10
     refine c6 (g8 rfl rfl rfl rfl (a7 (c1 ?_) (a7 (c1 ?_) b9)))
     all_goals clear hK6 K6
     all_goals (first | (rw [(P5 (s:=s) (by omega)).1];done) | (rw [(P5 (s:=s) (by omega)).2];done) | (rw [(Z5 (s:=s) (by omega) (hc1.symm.trans h2)).1];done) | (rw [(Z5 (s:=s) (by omega) (hc1.symm.trans h2)).2];done) | (rw [(a1E (s:=s) (by omega) h3).1];done) | (rw [(a1E (s:=s) (by omega) h3).2];done) | (rw [(a4i (s:=s) (by omega) (hc1.symm.trans h2) h4).1];done) | (rw [(a4i (s:=s) (by omega) (hc1.symm.trans h2) h4).2];done) | (rw [(a1F (s:=s) (by omega) (hc1.symm.trans h2) h3 h4).1];done) | (rw [(a1F (s:=s) (by omega) (hc1.symm.trans h2) h3 h4).2];done))
    ·try rw [h4]
     try simp only [rfb] at h4
     refine y9 ?_
     refine hK6 _ ?_
     clear hK6 K6
     refine f9 (fun K11 hK11=>?_)
     refine d4 ?_
     refine a8 rfl ?_
     refine b6 rfl rfl (e6 rfl rfl) ?_
     refine a8 rfl ?_
     refine b6 rfl rfl (d6 rfl rfl) ?_
     refine a8 rfl ?_
     refine b6 rfl rfl (d6 rfl rfl) ?_
     refine b4 ?_
     refine hK11 _ ?_
     clear hK11 K11
     refine c6 (g8 rfl rfl rfl rfl (a7 (c1 ?_) (a7 (c1 ?_) b9)))
     all_goals (first | (rw [(P5 (s:=s) (by omega)).1];done) | (rw [(P5 (s:=s) (by omega)).2];done) | (rw [(Z5 (s:=s) (by omega) (hc1.symm.trans h2)).1];done) | (rw [(Z5 (s:=s) (by omega) (hc1.symm.trans h2)).2];done) | (rw [(a1E (s:=s) (by omega) h3).1];done) | (rw [(a1E (s:=s) (by omega) h3).2];done) | (rw [(a4i (s:=s) (by omega) (hc1.symm.trans h2) h4).1];done) | (rw [(a4i (s:=s) (by omega) (hc1.symm.trans h2) h4).2];done) | (rw [(a1F (s:=s) (by omega) (hc1.symm.trans h2) h3 h4).1];done) | (rw [(a1F (s:=s) (by omega) (hc1.symm.trans h2) h3 h4).2];done))
end Go.Proofs.YtpfhomblkgmkkaaGreatDoor
