/- Texts merged into one: M15, M16, M17, M12, M13, M18. -/
import Derived.Test.YtcnodpipinlpcaaGreatPFnRefinementF
set_option maxHeartbeats 4000000
set_option linter.unusedSimpArgs false
set_option linter.unusedVariables false
set_option maxRecDepth 20000
namespace Go.Proofs.YtcnodpipinlpcaaGreat
open Go Go.Rf
theorem a8d (x:Ifc) (hn:x.st.length<=1048576) (hl:x.qu.sl.length<=1048576) (hw:x.qu.wa.length<=1048576):Ctr Tryz.prog 149 [.agg [.v (.int .i64 x.ma),.lst 1 (x.st.map Rf.l8),.lst 3 (x.qu.sl.map f9),.lst 2 (x.qu.wa.map i5)]] (.one (.v (.bool (a1g x)))):=by
 refine Ctr.of (n:=74) G Tryz.func149 Z a6 Z Z Z (λw0=>?_)
 refine j8 0 Z (λ_=>Z) (λu0=>?_)
 refine I2 ?_
 refine vm1 ?_
 refine E9 ?_
 refine I2 ?_
 refine G9 ?_
 refine vm4 ?_
 refine b7 Z Z (l9 Z (ArgsOK.of Z) (a3d x.ma 0 16) Z) ?_
 refine G9 ?_
 refine B3 Z Z Z (λh1=>?_) (λh1=>?_)
 ·try rw [h1]
  try simp only [rfb] at h1
  refine zgn ?_
  refine a09 Z ?_
  exact b6x
 try rw [h1]
 try simp only [rfb] at h1
 refine G9 ?_
 refine S9 ?_
 refine b7 Z Z (l9 Z (ArgsOK.of Z) (a8o x.qu hl hw) Z) ?_
 refine zgn ?_
 refine o7 Z (λh2=>?_) (λh2=>?_)
 ·try rw [h2]
  try simp only [rfb] at h2
  exact b6x
 try rw [h2]
 try simp only [rfb] at h2
 have hq:=a5d.mp h2
 have hSl:=hq.1.sl
 have hl4:=hSl.len
 refine E9 ?_
 refine X3 ?_
 refine vm4 ?_
 refine c4 2 Z Z Z (ArgsOK.of Z) (a6V x.qu.sl hSl) Z Z ?_
 refine zgn ?_
 refine zgn ?_
 refine r7 (f6 [1,3] [0,1] (λ(i:Nat)=>[(4,.v (.int .i64 (i:Int)))]) (λ(i:Nat)=>[]) (λ(i:Nat)=>i<=x.st.length/\StP x.qu.sl x.st i) (λ(i:Nat)=>x.st.length - i) 0 Z Z ?_ ?_ ?_ ?_)
 ·exact ⟨Nat.zero_le _,c2O⟩
 ·exact u3
 ·exact trivial
 intro i hinv
 have hti:0 < i→((i:Int) - 1).toNat=i - 1:=λ_=>J
 refine vm2 ?_
 refine zgn ?_
 refine o7 Z (λh3=>?_) (λh3=>?_)
 ·try rw [h3]
  try simp only [rfb] at h3
  refine E9 ?_
  refine r7 (p7 (p7 ?_))
  refine a9d ?_
  refine a57 ?_
  refine j7 Z (r9 Z Z (l9 Z b9c (Z6 (a5Z x.qu.sl 4) _ (by have:=@a5k x.qu.sl 4;have:=@W0 x.qu.sl 4;omega)) Z) ?_)
  refine G9 ?_
  refine Q6 Z Z Z (λh4=>?_) (λh4=>?_)
  ·try rw [h4]
   try simp only [rfb] at h4
   refine zgn ?_
   refine a09 Z ?_
   exact b6x
  try rw [h4]
  try simp only [rfb] at h4
  have hm:=(a5j 4).mp (a7S.mp h4)
  refine a6E ?_
  refine c12 ?_
  refine a6O ?_
  refine a2j ?_
  refine r9 Z Z (l9 Z b9c (Z6 (x.st.take i) _ b3n) Z) ?_
  refine zgn ?_
  refine o7 Z (λh5=>?_) (λh5=>?_)
  ·try rw [h5]
   try simp only [rfb] at h5
   exact b6x
  try rw [h5]
  try simp only [rfb] at h5
  refine E9 ?_
  refine a9d ?_
  refine a6E ?_
  refine Q6 Z Z Z (λh6=>?_) (λh6=>?_)
  ·try rw [h6]
   try simp only [rfb] at h6
   have hl1:=b15 (hinv.2.inn (i - 1) J) hl4
   have hl2:=b15 hm hl4
   refine a6O ?_
   refine a2j ?_
   refine b6p ?_
   refine G9 ?_
   refine a2j ?_
   refine r9 Z Z (l9 Z (ArgsOK.of Z) (Y1 x.qu _ hl (by rw [hti J];exact hl1)) Z) ?_
   iterate 7 refine zst ?_
   refine a2j ?_
   refine r9 Z Z (l9 Z (ArgsOK.of Z) (Y1 x.qu _ hl hl2) Z) ?_
   refine zgn ?_
   refine o7 Z (λh7=>?_) (λh7=>?_)
   ·try rw [h7]
    try simp only [rfb] at h7
    exact b6x
   try rw [h7]
   try simp only [rfb] at h7
   refine b4d ?_
   refine ⟨(i+1),?_,?_,⟨⟨_,Z,by rfl⟩,Z,trivial⟩,trivial,Z,Z,Z⟩
   ·exact b9M
   omega
  try rw [h6]
  try simp only [rfb] at h6
  refine zgn ?_
  refine C2 Z ?_
  refine b4d ?_
  refine ⟨(i+1),?_,?_,⟨⟨_,Z,by rfl⟩,Z,trivial⟩,trivial,Z,Z,Z⟩
  ·exact b9M
  omega
 try rw [h3]
 try simp only [rfb] at h3
 refine zgn ?_
 refine a1M ?_
 all_goals exact b8J
theorem a62 (rs:List Route) (q:Que) (k:Nat) (hr8:rs.length=8) (hF:QF q) (hk:k<=8):Ctr Tryz.prog 150 [.lst 2 (rs.map n6),.agg [.lst 3 (q.sl.map f9),.lst 2 (q.wa.map i5)],.v (.int .i64 (k:Int))] (.one (.v (.bool (okRq rs q k)))):=by
 have hl4:=hF.sl.len
 have hwn:=hF.wn8
 refine Ctr.of (n:=83) G Tryz.func150 Z a6 Z Z Z (λw0=>?_)
 refine j8 1 Z (λ_=>Z) (λu1=>?_)
 refine w8 ?_
 refine zgo ?_
 refine f6 [0,2,4] [0] (λ(i:Nat)=>[(7,.v (.int .i64 (i:Int)))]) (λ(i:Nat)=>[]) (λ(i:Nat)=>i<=4/\∀t,t < i→rtS rs k (q.sl.getD t default)=true) (λ(i:Nat)=>4 - i) 0 Z Z ?_ ?_ ?_ ?_
 ·exact P3
 ·exact u3
 ·exact trivial
 intro i hi
 refine vm2 ?_
 refine zcd (λh1=>?_) (λh1=>?_)
 ·refine zgo ?_
  refine vm7 ?_
  refine zgd ?_
  refine zcd (λh2=>?_) (λh2=>?_)
  ·refine zwt ?_
   exact b6z
  have hb0:=hF.sl.ok i J
  refine zcd (λh3=>?_) (λh3=>?_)
  ·have hb:=(hF.sl.ok i J h3).2.1
   refine zcd (λh4=>?_) (λh4=>?_)
   ·refine zwt ?_
    exact b6z
   refine zcd (λh5=>?_) (λh5=>?_)
   ·exact b6z
   exact b9D
  refine zwf ?_
  exact b9D
 refine zgo ?_
 refine f6 [0,2,4] [0] (λ(j:Nat)=>[(9,.v (.int .i64 (j:Int)))]) (λ(j:Nat)=>[]) (λ(j:Nat)=>j<=q.wa.length/\∀t,t < j→rtW rs k (q.wa.getD t default)=true) (λ(j:Nat)=>q.wa.length - j) 0 Z Z ?_ ?_ ?_ ?_
 ·exact P3
 ·exact u3
 ·exact trivial
 intro j hj
 refine vm2 ?_
 refine zcd (λh6=>?_) (λh6=>?_)
 ·have hbw:=(hF.wa _ (f8.mpr ⟨j,by omega,Z⟩)).1
  refine zgo ?_
  refine vm7 ?_
  refine zgd ?_
  refine zcd (λh7=>?_) (λh7=>?_)
  ·refine zwt ?_
   exact b6z
  refine zcd (λh8=>?_) (λh8=>?_)
  ·exact b6z
  refine zgo ?_
  refine ⟨(j+1),?_,?_,⟨⟨_,Z,by rfl⟩,Z,trivial⟩,trivial,Z,Z,Z⟩
  ·exact ⟨by omega,r5 hj.2 (a0Y.mpr ⟨by assumption,by assumption⟩)⟩
  omega
 refine zf1 ?_
 all_goals exact b8K
theorem v1:M7 Tryz.prog 118 [.int .i64,.int .i64]=true:=by kernel_rfl
theorem L9 (wa:List Wtr) (hw:wa.length<=1048576):Ctr Tryz.prog 172 [.lst 2 (wa.map i5)] (.one (.fr 183 2 (wa.map i5))):=by
 refine Ctr.of (n:=8) G Tryz.func172 Z a6 Z Z Z (λw0=>?_)
 refine zgo ?_
 refine b5 Z (b67 G Z Z Z Z Z (λbn hbn=>?_))
 refine zcd (λh1=>?_) (λh1=>?_)
 ·refine zgo ?_
  refine g8 (R0 Z (t7 ?_))
  exact b9V
 refine b4a ?_
 refine zgo ?_
 refine vm9 ?_
 refine zfo ?_
 exact b9V
theorem a3M (w:Wtr) (rs:List Route) (k:Nat) (hr8:rs.length=8) (hw:0<=w.q/\w.q<=7):Ctr Tryz.prog 175 [.v (a3W w),.eptN [.lst 2 (rs.map n6)],.ept [.int .i64 (k:Int)]] (.one (.v (.bool (!rtW rs k w)))):=by
 refine Ctr.of (n:=15) G Tryz.func175 Z a6 Z Z Z (λw0=>?_)
 refine w8 ?_
 refine zgd ?_
 refine j7 Z ?_
 refine a8n ?_
 refine zgo ?_
 refine j7 Z (r9 Z Z (b0z [.int .i64,.int .i64] Z Z Z Z Z Z Z (.inl Z) (.inl Z) v1 ⟨_,_,Z,⟨_,Z⟩,_,_,Z,⟨_,Z⟩,Z⟩ ⟨_,_,Z,⟨_,Z⟩,_,_,Z,⟨_,Z⟩,Z⟩) ?_)
 refine zf1 ?_
 all_goals ((refine congrArg Value.bool ?_;rw [Bool.eq_iff_iff,Bool.not_eq_true',Bool.not_eq_true',← Bool.not_eq_true,← Bool.not_eq_true (b:=rtW rs k w),ec2,a0Y];exact not_congr And.comm))
theorem G6 (xs:List Wtr) (f:Nat) (rs:List Route) (c:List Value) (p:Wtr→Bool) (hl:xs.length<=1048576) (hf:∀i,i < xs.length→Ctr Tryz.prog f [.v (a3W (xs.getD i default)),.eptN [.lst 2 (rs.map n6)],.ept c] (.one (.v (.bool (p (xs.getD i default)))))):Ctr Tryz.prog 213 [.lst 2 (xs.map i5),.fnc f [.eptN [.lst 2 (rs.map n6)],.ept c]] (.one (.v (.int .i64 (I0 (λi=>p (xs.getD i default)) xs.length)))):=by
 exact c0w
theorem F7 (xs:List Wtr) (f:Nat) (rs:List Route) (c:List Value) (p:Wtr→Bool) (hl:xs.length<=1048576) (hf:∀i,i < xs.length→Ctr Tryz.prog f [.v (a3W (xs.getD i default)),.eptN [.lst 2 (rs.map n6)],.ept c] (.one (.v (.bool (p (xs.getD i default)))))):Ctr Tryz.prog 174 [.lst 2 (xs.map i5),.fnc f [.eptN [.lst 2 (rs.map n6)],.ept c]] (.one (.v (.bool (a0D xs.length (λi=>p (xs.getD i default)))))):=by
 refine Ctr.of (n:=9) G Tryz.func174 Z a6 Z Z Z (λw0=>?_)
 refine zcl (G6 xs f rs c p hl hf) ?_
 exact b3y
theorem a5I (rs:List Route) (k:Nat) (x:Ifc) (hr8:rs.length=8) (hF:IfF x) (hk:k<=8):Ctr Tryz.prog 121 [.lst 2 (rs.map n6),.v (.int .i64 (k:Int)),.agg [.v (.int .i64 x.ma),.lst 1 (x.st.map Rf.l8),.lst 3 (x.qu.sl.map f9),.lst 2 (x.qu.wa.map i5)]] (.one (.v (.bool (okRq rs x.qu k)))):=by
 have hl4:=hF.qu.sl.len
 have hwn:=hF.qu.wn8
 refine Ctr.of (n:=38) G Tryz.func121 Z a6 Z Z Z (λw0=>?_)
 refine a9m (t:=0) Z (λz0=>?_)
 refine j8 2 Z (λ_=>Z) (λu2=>?_)
 refine w8 ?_
 refine a3c ?_
 refine vm4 ?_
 refine a5R 3 Z Z Z Z Z Z Z ?_
 refine m3 ?_
 refine c4 4 Z Z Z (ArgsOK.of Z) (L9 x.qu.wa J) Z Z ?_
 refine zgo ?_
 refine f6 [3,4,16,17] [0,1] (λ(i:Nat)=>[(7,.own 3),(18,.v (.int .i64 (i:Int)))]) (λ(i:Nat)=>[(3,some (.row 183 2 ((ftL x.qu i).map i5)))]) (λ(i:Nat)=>i<=4/\∀t,t < i→(x.qu.sl.getD t default).s≠3) (λ(i:Nat)=>4 - i) 0 Z Z ?_ ?_ ?_ ?_
 ·exact P3
 ·exact b9R
 ·exact ⟨⟨_,Z,by (first | rfl | (simp;done) | (simp;omega))⟩,Z,Z,trivial⟩
 intro i hinv
 have hpl:=@a90 x.qu i
 refine vm2 ?_
 refine zcd (λh1=>?_) (λh1=>?_)
 ·refine m3 ?_
  refine a9c ?_
  refine zcd (λh2=>?_) (λh2=>?_)
  ·refine zf1 ?_
   all_goals exact b88
  refine zcd (λh3=>?_) (λh3=>?_)
  ·refine zcl (B0 _) ?_
   refine vm4 ?_
   refine p4 G 6 Z Z Z Z Z Z Z Z ?_
   refine vm9 ?_
   exact b9u
  exact b9u
 obtain rfl:i=4:=J
 have hfl:=@a90 x.qu 4
 refine m3 ?_
 refine a7Z ?_
 refine zcl (F7 (ftL x.qu 4) 175 rs [.int .i64 (k:Int)] (λw=>!rtW rs k w) J (λj hj=>a3M _ rs k hr8 (c1o hF.qu (Nat.le_refl _) (f8.mpr ⟨j,hj,Z⟩)))) ?_
 refine zf1 ?_
 all_goals exact b88
theorem G7 (m:Mach) (hs:SmallM m):Ctr Tryz.prog 49 [.agg [.lst 2 (m.rs.map n6),.lst 1 (m.en.map e7),.lst 1 (m.ra.map e7),.nst none 4 (m.cp.map (r3 154 183))]] (.one (.v (.bool (okMa m)))):=by
 have z0:=hs.rs
 have z1:=hs.en
 have z2:=hs.ra
 have z3:=hs.cp
 refine Ctr.of (n:=44) G Tryz.func49 Z a6 Z Z Z (λw0=>?_)
 refine j8 0 Z (λ_=>Z) (λu0=>?_)
 refine I2 ?_
 refine vm1 ?_
 refine E9 ?_
 refine I2 ?_
 refine a6O ?_
 refine vm4 ?_
 refine b7 Z Z (l9 Z (ArgsOK.of Z) (U6 m.rs _ J) Z) ?_
 refine G9 ?_
 refine B3 Z Z Z (λh1=>?_) (λh1=>?_)
 ·try rw [h1]
  try simp only [rfb] at h1
  exact b6O
 try rw [h1]
 try simp only [rfb] at h1
 have hr8:=(s8.mp h1).2.1
 have hc2:=(s8.mp h1).1
 refine a57 ?_
 refine B3 Z Z Z (λh2=>?_) (λh2=>?_)
 ·try rw [h2]
  try simp only [rfb] at h2
  exact b6O
 try rw [h2]
 try simp only [rfb] at h2
 refine zgn ?_
 refine o7 Z (λh3=>?_) (λh3=>?_)
 ·try rw [h3]
  try simp only [rfb] at h3
  exact b6M
 try rw [h3]
 try simp only [rfb] at h3
 refine zgn ?_
 refine zgn ?_
 refine r7 (f6 [1,25,26] [0] (λ(k:Nat)=>[(27,.v (.int .i64 (k:Int)))]) (λ(k:Nat)=>[]) (λ(k:Nat)=>k<=m.cp.length/\∀j,j < k→a5l m j=true) (λ(k:Nat)=>m.cp.length - k) 0 Z Z ?_ ?_ ?_ ?_)
 ·exact P3
 ·exact u3
 ·exact trivial
 intro k hk
 refine vm2 ?_
 refine zgn ?_
 refine p7 (o7 Z (λh4=>?_) (λh4=>?_))
 ·try rw [h4]
  try simp only [rfb] at h4
  have hsz:=hs.allI (i:=k) J
  have hsz2:szI (m.cp.getD k default)=(m.cp.getD k default).st.length+(m.cp.getD k default).qu.sl.length+(m.cp.getD k default).qu.wa.length:=rfl
  refine E9 ?_
  refine r7 (p7 ?_)
  refine X3 ?_
  refine vm7 ?_
  refine zst ?_
  refine vm4 ?_
  refine a94 31 Z (λ_=>Z) λv31=>l5 G Z Z Z Z Z Z Z Z Z Z Z ?_
  refine zgn ?_
  refine I2 ?_
  refine zst ?_
  refine vm4 ?_
  refine b7 Z Z (l9 Z (ArgsOK.of Z) (a4z (m.cp.getD k default) J J J) Z) ?_
  refine G9 ?_
  refine B3 Z Z Z (λh5=>?_) (λh5=>?_)
  ·try rw [h5]
   try simp only [rfb] at h5
   exact b6O
  try rw [h5]
  try simp only [rfb] at h5
  have hIF:=(a9Z h5).1
  iterate 4 refine zst ?_
  refine S9 ?_
  refine b7 Z Z (l9 Z (ArgsOK.of Z) (a5I m.rs k (m.cp.getD k default) hr8 hIF J) Z) ?_
  refine zgn ?_
  refine o7 Z (λh6=>?_) (λh6=>?_)
  ·try rw [h6]
   try simp only [rfb] at h6
   exact b6M
  try rw [h6]
  try simp only [rfb] at h6
  refine zgn ?_
  refine e9 ?_
  refine vm4 ?_
  refine vm5 ?_
  refine zgn ?_
  exact b9O
 try rw [h4]
 try simp only [rfb] at h4
 refine zgn ?_
 refine a1M ?_
 all_goals exact b6c
theorem a0C (m:Mach) (hs:SmallM m):Ctr Tryz.prog 96 [.agg [.lst 2 (m.rs.map n6),.lst 1 (m.en.map e7),.lst 1 (m.ra.map e7),.nst none 4 (m.cp.map (r3 154 183))]] (.one (.v (.bool (okMa m)))):=by
 have z0:=hs.rs
 have z1:=hs.en
 have z2:=hs.ra
 have z3:=hs.cp
 refine Ctr.of (n:=50) G Tryz.func96 Z a6 Z Z Z (λw0=>?_)
 refine j8 0 Z (λ_=>Z) (λu0=>?_)
 refine w8 ?_
 refine zcl (X4 m.rs _ J) ?_
 refine zcd (λh1=>?_) (λh1=>?_)
 ·refine zwt ?_
  refine zf1 ?_
  exact b4h
 have hr8:=(s8.mp h1).2.1
 have hc2:=(s8.mp h1).1
 refine zcd (λh2=>?_) (λh2=>?_)
 ·refine zwt ?_
  refine zf1 ?_
  exact b4h
 refine zcd (λh3=>?_) (λh3=>?_)
 ·refine zf1 ?_
  exact b4h
 refine zgo ?_
 refine f6 [1] [0] (λ(k:Nat)=>[(3,.v (.int .i64 (k:Int)))]) (λ(k:Nat)=>[]) (λ(k:Nat)=>k<=m.cp.length/\∀j,j < k→a5l m j=true) (λ(k:Nat)=>m.cp.length - k) 0 Z Z ?_ ?_ ?_ ?_
 ·exact P3
 ·exact u3
 ·exact trivial
 intro k hk
 refine vm2 ?_
 refine zcd (λh4=>?_) (λh4=>?_)
 ·have hsz:=hs.allI (i:=k) J
  have hsz2:szI (m.cp.getD k default)=(m.cp.getD k default).st.length+(m.cp.getD k default).qu.sl.length+(m.cp.getD k default).qu.wa.length:=rfl
  refine zgd ?_
  refine zcl (a8d (m.cp.getD k default) J J J) ?_
  refine zcd (λh5=>?_) (λh5=>?_)
  ·refine zwt ?_
   refine zf1 ?_
   exact b4h
  have hIF:=(a9Z h5).1
  refine zgo ?_
  refine a2j ?_
  refine r9 Z Z (Q9 G Z Z Z Z) ?_
  refine zcl (a62 m.rs (m.cp.getD k default).qu k hr8 hIF.qu J) ?_
  refine zcd (λh6=>?_) (λh6=>?_)
  ·refine zf1 ?_
   exact b4h
  refine zgo ?_
  exact b9O
 refine zf1 ?_
 all_goals exact b6c
theorem a3N (n:Nat) (hn:n<=12):CtrE (α:=Int) Tryz.prog 252 [.v (.int .u64 (n:Int))] (λy=>(.one (.v (.int .i64 y)))):=by
 refine CtrE.of (n:=25) G Tryz.func252 Z a6 Z Z Z (λw0=>?_)
 refine zcd (λh1=>?_) (λh1=>?_)
 ·exfalso;omega
 refine zcd (λh2=>?_) (λh2=>?_)
 ·exfalso;omega
 refine zcd (λh3=>?_) (λh3=>?_)
 ·exfalso;omega
 refine m3 ?_
 refine c13 ?_
 refine vm4 ?_
 refine b7 Z Z (b0n G Z Z Z Z J (Int.lt_of_le_of_lt (show (n:Int)<=12 by omega) (by decide))) ?_
 refine vm4 ?_
 refine c13 ?_
 refine vm4 ?_
 refine vm5 ?_
 refine zgo ?_
 refine g8 (b65 (_) (R0 Z (p5 Z)))
 all_goals (rfl)
theorem a5J (n:Nat) (hn:n<=12):CtrE (α:=Int) Tryz.prog 211 [.v (.int .u64 (n:Int))] (λy=>(.one (.v (.int .i64 y)))):=by
 refine CtrE.of (n:=8) G Tryz.func211 Z a6 Z Z Z (λw0=>?_)
 refine zwf ?_
 refine zgo ?_
 refine b5 Z (a1y 0 Z Z Z (ArgsOK.of Z) (a3N n hn) (λ_=>Z) Z (λy1=>?_))
 refine zgo ?_
 refine g8 (b65 (_) (R0 Z (p5 Z)))
 all_goals (rfl)
theorem I3 (d:List Wtr) (hd:b0W d) (hn:d.length<=12):CtrM Tryz.prog 264 [.own 0,.v (.int .i64 0),.v (.int .i64 (d.length:Int)),.v (.func (.func 201) #[] #[])] [.row 183 2 (d.map i5)] (.many []) [some (.row 183 2 ((srtW d).map i5))]:=by
 refine CtrM.of (n:=53) (k:=1) G Tryz.func264 Z a6 Z Z Z Z Z Z Z (λw0 _ hpin=>?_)
 refine p7 (A7 (Gh.fnc (t:=3) Z) ?_)
 refine zgo ?_
 refine f6 [0,1,2,3] [] (λ(i:Nat)=>[(8,.v (.int .i64 (i:Int)))]) (λ(i:Nat)=>[(0,some (.row 183 2 ((a6N d i).map i5)))]) (λ(i:Nat)=>1<=i/\(i<=d.length∨i=1)) (λ(i:Nat)=>d.length - i) 1 Z Z ?_ ?_ ?_ ?_
 ·exact ⟨Nat.le_refl _,.inr Z⟩
 ·exact R7
 ·exact ⟨⟨_,Z,by (rw [c1d])⟩,Z,Z,trivial⟩
 intro i hi
 refine vm2 ?_
 refine zcd (λh1=>?_) (λh1=>?_)
 ·have hM:=c4k hd (i:=i) J
  have hPl:=hM.len
  have hRl:(d.drop (i+1)).length=d.length - (i+1):=List.length_drop
  refine zgo ?_
  refine f6 [0,1,2,3,8] [] (λ(j:Nat)=>[(9,.v (.int .i64 (j:Int)))]) (λ(j:Nat)=>[(0,some (.row 183 2 ((a2f (srtW (d.take i)) (d.getD i default) (d.drop (i+1)) j).map i5)))]) (λ(j:Nat)=>j<=i/\∀t,j<=t→t < i→lessW (d.getD i default) ((srtW (d.take i)).getD t default)=true) (λ(j:Nat)=>j) i Z Z ?_ ?_ ?_ ?_
  ·exact ⟨Nat.le_refl _,λt h1 h2=>by omega⟩
  ·exact R7
  ·exact ⟨⟨_,Z,by (rw [b5n J])⟩,Z,Z,trivial⟩
  intro j hj
  have htn:0 < j→((j:Int) - 1).toNat=j - 1:=λ_=>J
  refine vm2 ?_
  refine zgd ?_
  refine zcd (λh2=>?_) (λh2=>?_)
  ·refine c3f ?_
   refine c3f ?_
   refine a2j ?_
   refine r9 Z Z (a9k Z Z (ArgsOK.of Z) Z (y6 _ _) Z) ?_
   refine zcd (λh3=>?_) (λh3=>?_)
   ·refine zgo ?_
    apply v8 [0,1,2,3,8,9] [0] 1 18 [] mixed a6 Z Z (λ_ h=>znk h)
    ·intro r0
     refine C5 ?_
     first | refine i9 4 Z a6 a6 Z Z Z Z (C3 Z Z Z Z J J) ?_ | refine i9 4 Z a6 a6 Z Z Z Z (J0 Z Z Z Z) ?_
     refine zsa 5 ?_
     refine zsa 6 ?_
     first | refine i9 7 Z a6 a6 Z Z Z Z (C3 Z Z Z Z J J) ?_ | refine i9 7 Z a6 a6 Z Z Z Z (J0 Z Z Z Z) ?_
     refine zsa 10 ?_
     refine zsa 11 ?_
     refine b6 (rs:=[8,12]) a6 Z (AllB.cons ?_ (AllB.cons ?_ AllB.nil))
     ·first | refine c7 [] Z Z (b7 Z Z (c6 G Z Z Z Z Z J a6B) (a8 ⟨Z,?_⟩)) | refine c7 [] Z Z (b7 Z Z (c6 G Z Z Z Z Z J a6A) (a8 ⟨Z,?_⟩)) | refine c7 [] Z Z (b7 Z Z (c6 G Z Z Z Z Z J a6z) (a8 ⟨Z,?_⟩))
      refine b6 (rs:=[9,12]) a6 Z (AllB.cons ?_ (AllB.cons ?_ AllB.nil))
      ·first | refine c7 [] Z Z (b7 Z Z (d9 G Z Z Z Z (V9 J) Z) (a8 ⟨Z,?_⟩)) | refine c7 [] Z Z (b7 Z Z (d9 G Z Z Z Z (Z2 J J) Z) (a8 ⟨Z,?_⟩)) | refine c7 [] Z Z (b7 Z Z (d9 G Z Z Z Z (a0W J J) Z) (a8 ⟨Z,?_⟩))
       refine b6 (rs:=[12]) a6 Z (AllB.cons ?_ AllB.nil)
       first | refine c7 [] Z Z (b7 Z Z (c6 G Z Z Z Z Z J a6B) (a8 ⟨Z,?_⟩)) | refine c7 [] Z Z (b7 Z Z (c6 G Z Z Z Z Z J a6A) (a8 ⟨Z,?_⟩)) | refine c7 [] Z Z (b7 Z Z (c6 G Z Z Z Z Z J a6z) (a8 ⟨Z,?_⟩))
       refine b6 (rs:=[13]) a6 Z (AllB.cons ?_ AllB.nil)
       exact ws1
      exact b92
     first | refine c7 [] Z Z (b7 Z Z (c6 G Z Z Z Z Z J a6B) (a8 ⟨Z,?_⟩)) | refine c7 [] Z Z (b7 Z Z (c6 G Z Z Z Z Z J a6A) (a8 ⟨Z,?_⟩)) | refine c7 [] Z Z (b7 Z Z (c6 G Z Z Z Z Z J a6z) (a8 ⟨Z,?_⟩))
     refine b6 (rs:=[8,13]) a6 Z (AllB.cons ?_ (AllB.cons ?_ AllB.nil))
     ·exact b92
     first | refine c7 [] Z Z (b7 Z Z (d9 G Z Z Z Z (V9 J) Z) (a8 ⟨Z,?_⟩)) | refine c7 [] Z Z (b7 Z Z (d9 G Z Z Z Z (Z2 J J) Z) (a8 ⟨Z,?_⟩)) | refine c7 [] Z Z (b7 Z Z (d9 G Z Z Z Z (a0W J J) Z) (a8 ⟨Z,?_⟩))
     refine b6 (rs:=[8]) a6 Z (AllB.cons ?_ AllB.nil)
     first | refine c7 [] Z Z (b7 Z Z (c6 G Z Z Z Z Z J a6B) (a8 ⟨Z,?_⟩)) | refine c7 [] Z Z (b7 Z Z (c6 G Z Z Z Z Z J a6A) (a8 ⟨Z,?_⟩)) | refine c7 [] Z Z (b7 Z Z (c6 G Z Z Z Z Z J a6z) (a8 ⟨Z,?_⟩))
     refine b6 (rs:=[9]) a6 Z (AllB.cons ?_ AllB.nil)
     exact ws1
    refine zgo ?_
    refine ⟨(j - 1),?_,?_,⟨⟨_,Z,by (congr 2;omega)⟩,Z,trivial⟩,⟨⟨_,Z,by (exact congrArg (λz=>Row.row _ _ z) (by rw [htn J];exact b34 J J))⟩,Z,Z,trivial⟩,Z,Z,Z⟩
    ·exact ⟨by omega,λt h1 h2=>(by by_cases e:t=j - 1<;>first | (subst e;exact a0T.mp J) | exact hj.2 t J h2)⟩
    omega
   refine zgo ?_
   refine ⟨(i+1),?_,?_,⟨⟨_,Z,by rfl⟩,Z,trivial⟩,⟨⟨_,Z,by (rw [a82 J,← b01 J hM.pw hM.dif (λt ht ht2=>hj.2 t ht J) b9f])⟩,Z,Z,trivial⟩,Z,Z,Z⟩
   ·omega
   omega
  refine zwf ?_
  refine zgo ?_
  refine ⟨(i+1),?_,?_,⟨⟨_,Z,by rfl⟩,Z,trivial⟩,⟨⟨_,Z,by (rw [a82 J,← b01 J hM.pw hM.dif (λt ht ht2=>hj.2 t ht J) b9f])⟩,Z,Z,trivial⟩,Z,Z,Z⟩
  ·omega
  omega
 refine a9f (a3r Z Z Z Z d5 Z (AftOK.stays Z ?_ Z AftOK.nil))
 all_goals (
  have e:a6N d i=srtW d:=b5m J
  rw [e]
 )
theorem O7 (d:List Wtr) (hd:b0W d) (hn:d.length<=12) (lim:Int):CtrM Tryz.prog 236 [.own 0,.v (.int .i64 0),.v (.int .i64 (d.length:Int)),.v (.int .i64 lim),.v (.func (.func 201) #[] #[])] [.row 183 2 (d.map i5)] (.many []) [some (.row 183 2 ((srtW d).map i5))]:=by
 refine CtrM.of (n:=148) (k:=1) G Tryz.func236 Z a6 Z Z Z Z Z Z Z (λw0 _ hpin=>?_)
 refine zgo ?_
 refine f6 [0,4] [0] (λ(u:Unit)=>[(1,.v (.int .i64 0)),(2,.v (.int .i64 (d.length:Int))),(3,.v (.int .i64 lim)),(10,.v (.bool true)),(11,.v (.bool true))]) (λ(u:Unit)=>[]) (λ(u:Unit)=>True) (λ(u:Unit)=>0) () Z Z ?_ ?_ ?_ ?_
 ·first | trivial | omega | (refine ⟨?_,?_⟩<;>omega)
 ·exact ⟨⟨_,Z,by (first | rfl | (simp;done) | (simp;omega))⟩,Z,⟨⟨_,Z,by (first | rfl | (simp;done) | (simp;omega))⟩,Z,⟨⟨_,Z,by (first | rfl | (simp;done) | (simp;omega))⟩,Z,⟨⟨_,Z,by (first | rfl | (simp;done) | (simp;omega))⟩,Z,⟨⟨_,Z,by (first | rfl | (simp;done) | (simp;omega))⟩,Z,trivial⟩⟩⟩⟩⟩
 ·exact trivial
 intro u hinv
 refine vm2 ?_
 refine zcd (λh1=>?_) (λh1=>?_)
 ·refine m3 ?_
  refine H9 1 [0] Z Z Z (I3 d hd hn) Z (RowsIn.cons Z RowsIn.nil) Z Z Z ?_
  refine zgo ?_
  refine g8 (a3r Z Z Z Z d5 Z (AftOK.stays Z ?_ Z AftOK.nil))
  all_goals (rfl)
 exfalso;omega
theorem I4 (d:List Wtr) (hd:b0W d) (hn:d.length<=12):CtrM Tryz.prog 200 [.own 0,.v (.func (.func 201) #[] #[])] [.row 183 2 (d.map i5)] (.many []) [some (.row 183 2 ((srtW d).map i5))]:=by
 refine CtrM.of (n:=14) (k:=1) G Tryz.func200 Z a6 Z Z Z Z Z Z Z (λw0 _ hpin=>?_)
 refine m3 ?_
 refine c13 ?_
 refine b5 Z (a1y 1 Z Z Z (ArgsOK.of Z) (a5J d.length hn) (λ_=>Z) Z (λy1=>?_))
 refine zgo ?_
 refine b5 Z (H9 1 [0] Z Z Z (O7 d hd hn _) Z (RowsIn.cons Z RowsIn.nil) Z Z Z (a8 (a3r Z Z Z Z d5 Z (AftOK.stays Z ?_ Z AftOK.nil))))
 all_goals (rfl)
theorem a4u (q:Que) (hF:QF q):Ctr Tryz.prog 153 [.agg [.lst 3 (q.sl.map f9),.lst 2 (q.wa.map i5)]] (.one (.fr 3 1 ((G3 q).map Rf.l8))):=by
 have hl4:=hF.sl.len
 have hwn:=hF.wn8
 have cS:=I4 (pnL q 4) (b2W hF 4 (Nat.le_refl _)) (by have:=@a9T q 4;omega)
 rw [b14 hF] at cS
 refine Ctr.of (n:=50) G Tryz.func153 Z a6 Z Z Z (λw0=>?_)
 refine j8 0 Z (λ_=>Z) (λu0=>?_)
 refine w8 ?_
 refine b3p ?_
 refine zgo ?_
 refine vm9 ?_
 refine vm4 ?_
 refine b2k ?_
 refine zgo ?_
 refine f6 [4,15,16] [2] (λ(i:Nat)=>[(3,.own 1),(17,.v (.int .i64 (i:Int)))]) (λ(i:Nat)=>[(1,some (.row 183 2 ((pnL q i).map i5)))]) (λ(i:Nat)=>i<=4) (λ(i:Nat)=>4 - i) 0 Z Z ?_ ?_ ?_ ?_
 ·exact H0
 ·exact a71
 ·exact Y5
 intro i hi
 have hpl:=@a9T q i
 refine vm2 ?_
 refine zcd (λh1=>?_) (λh1=>?_)
 ·refine m3 ?_
  refine g9 G 4 Z Z Z Z Z ?_
  refine zcd (λh2=>?_) (λh2=>?_)
  ·refine zwt ?_
   exact c0k
  refine zcd (λh3=>?_) (λh3=>?_)
  ·exact c0k
  exact c31
 obtain rfl:i=4:=J
 refine m3 ?_
 refine H9 3 [1] Z Z Z cS Z (RowsIn.cons Z RowsIn.nil) Z Z Z ?_
 refine zgo ?_
 refine f6 [37,38] [1] (λ(i:Nat)=>[(4,.own 2),(39,.v (.int .i64 (i:Int)))]) (λ(i:Nat)=>[(2,some (.row 3 1 (((G3 q).take i).map Rf.l8)))]) (λ(i:Nat)=>i<=(pnS q 4).length) (λ(i:Nat)=>(pnS q 4).length - i) 0 Z Z ?_ ?_ ?_ ?_
 ·exact H0
 ·exact a71
 ·exact Y5
 intro i hi
 have hpl:=@a5i q 4
 refine vm2 ?_
 refine zcd (λh4=>?_) (λh4=>?_)
 ·refine zgo ?_
  refine vm3 ?_
  refine b7 Z Z (d9 G Z Z Z Z (w9 J g0) Z) ?_
  refine vm4 ?_
  refine g9 G 4 Z Z Z Z Z ?_
  refine m3 ?_
  refine p4 G 5 Z Z Z Z Z Z Z Z ?_
  refine vm9 ?_
  exact b9G
 refine zfo ?_
 all_goals (first | rfl | (rw [b2Y J]))
theorem a58 (q:Que) (hF:QF q):Ctr Tryz.prog 151 [.agg [.lst 3 (q.sl.map f9),.lst 2 (q.wa.map i5)]] (.one (.fr 3 1 ((G3 q).map Rf.l8))):=by
 have hl4:=hF.sl.len
 have hwn:=hF.wn8
 refine Ctr.of (n:=55) G Tryz.func151 Z a6 Z Z Z (λw0=>?_)
 refine j8 0 Z (λ_=>Z) (λu0=>?_)
 refine w8 ?_
 refine b3p ?_
 refine zgo ?_
 refine vm9 ?_
 refine zgo ?_
 refine f6 [1] [0] (λ(i:Nat)=>[(3,.own 1),(4,.v (.int .i64 (i:Int)))]) (λ(i:Nat)=>[(1,some (.row 183 2 ((pnS q i).map i5)))]) (λ(i:Nat)=>i<=4) (λ(i:Nat)=>4 - i) 0 Z Z ?_ ?_ ?_ ?_
 ·exact H0
 ·exact a71
 ·exact Y5
 intro i hi
 have hpl:=@a5i q i
 refine vm2 ?_
 refine zcd (λh1=>?_) (λh1=>?_)
 ·refine m3 ?_
  refine g9 G 3 Z Z Z Z Z ?_
  refine zcd (λh2=>?_) (λh2=>?_)
  ·refine zwt ?_
   exact c35
  refine zcd (λh3=>?_) (λh3=>?_)
  ·exact c35
  refine zgo ?_
  refine ⟨(i+1),?_,?_,⟨⟨_,Z,by rfl⟩,Z,⟨⟨_,Z,by rfl⟩,Z,trivial⟩⟩,⟨⟨_,Z,by (first | (rw [a83 J,List.map_append];rfl) | (rw [a83 J];done) | (rw [a83 J];rfl) | (rw [b8l J];done))⟩,Z,Z,trivial⟩,Z,Z,Z⟩
  ·omega
  omega
 obtain rfl:i=4:=J
 refine m3 ?_
 refine b2k ?_
 refine zgo ?_
 refine f6 [3] [1] (λ(i:Nat)=>[(6,.own 2),(7,.v (.int .i64 (i:Int)))]) (λ(i:Nat)=>[(2,some (.row 3 1 (((G3 q).take i).map Rf.l8)))]) (λ(i:Nat)=>i<=(pnS q 4).length) (λ(i:Nat)=>(pnS q 4).length - i) 0 Z Z ?_ ?_ ?_ ?_
 ·exact H0
 ·exact a71
 ·exact Y5
 intro i hi
 have hpl:=@a5i q 4
 refine vm2 ?_
 refine zcd (λh4=>?_) (λh4=>?_)
 ·refine zgo ?_
  refine vm3 ?_
  refine b3s ?_
  refine vm4 ?_
  refine b7 Z Z (s0 G Z Z Z Z Z (w9 J g0) Z) ?_
  refine vm4 ?_
  refine b3t ?_
  refine vm9 ?_
  exact b9G
 refine zfo ?_
 all_goals (first | rfl | (rw [b2Y J]))
theorem a2n (m:Mach) (hM:MaF m) (hs:SmallM m):Ctr Tryz.prog 97 [.agg [.lst 2 (m.rs.map n6),.lst 1 (m.en.map e7),.lst 1 (m.ra.map e7),.nst none 4 (m.cp.map (r3 154 183))]] (.shp true [some 5] [.fr 4 1 ((abOf m).en.map e7),.fr 4 1 ((abOf m).ra.map e7),.fr 4 1 ((abOf m).po.map e7),.fr 3 1 ((abOf m).ma.map Rf.l8),.ne 26 1 ((abOf m).st.map p8)]):=by
 have f1:=hM.n
 have f2:=hM.en
 have f3:=hM.ra
 have f4:=hM.rn
 refine Ctr.of (n:=70) G Tryz.func97 Z a6 Z Z Z (λw0=>?_)
 refine j8 0 Z (λ_=>Z) (λu0=>?_)
 refine L6 ?_
 refine zgn ?_
 refine p7 (d7 14 [0,1] mixed a6 Z Z (λr0=>?_) (λ_ h=>h))
 refine b0b ?_
 refine r8 (N:=8) Z (m8 (fuel:=4) [⟨0,7,2,false,.row 4 1 []⟩,⟨4,11,3,false,.row 4 1 []⟩,⟨8,15,4,false,.row 4 1 (List.replicate 8 [.bool false])⟩,⟨9,16,5,false,.row 3 1 []⟩,⟨10,17,6,false,.row 26 1 []⟩,⟨12,3,7,true,.box (avR [.slice none 0 0,.slice none 0 0,.slice none 0 0,.slice none 0 0,.slice none 0 0] [])⟩] (AllVOK.cons (VOK.lit G Z Z Z Z Z) (AllVOK.cons (VOK.lit G Z Z Z Z Z) (AllVOK.cons (VOK.make (n:=8) G Z Z Z Z Z (by decide) (by decide)) (AllVOK.cons (VOK.lit G Z Z Z Z Z) (AllVOK.cons (VOK.lit G Z Z Z Z Z) (AllVOK.cons (VOK.boxS G Z Z Z Z Z) (AllVOK.nil))))))) (λhok=>?_))
 refine i7 [(3,[0])] a6 a6 (λe he=>hok e he) a6 (AllVS.cons ?_ AllVS.nil)
 refine VStep.mk1 [0,1] 7 (.own 2) 2 (.row 4 1 []) [⟨4,11,3,false,.row 4 1 []⟩,⟨8,15,4,false,.row 4 1 (List.replicate 8 [.bool false])⟩,⟨9,16,5,false,.row 3 1 []⟩,⟨10,17,6,false,.row 26 1 []⟩,⟨12,3,7,true,.box (avR [.slice none 0 0,.slice none 0 0,.slice none 0 0,.slice none 0 0,.slice none 0 0] [])⟩] Z Z Z Z Z (λb1 _ hbn=>i6 G C1 Z Z Z Z Z Z Z Z Z C0 Z Z (a8 Z)) a6 a6 a6 a6 (i7 [(7,[4])] a6 a6 (λe he=>hok e (vin (is:=[0]) Z he)) a6 (AllVS.cons ?_ AllVS.nil))
 refine VStep.mk1 [0,1] 11 (.own 3) 3 (.row 4 1 []) [⟨8,15,4,false,.row 4 1 (List.replicate 8 [.bool false])⟩,⟨9,16,5,false,.row 3 1 []⟩,⟨10,17,6,false,.row 26 1 []⟩,⟨12,3,7,true,.box (avR [.slice none 0 0,.slice none 0 0,.slice none 0 0,.slice none 0 0,.slice none 0 0] [])⟩] Z Z Z Z Z (λb1 _ hbn=>i6 G C1 Z Z Z Z Z Z Z Z Z C0 Z Z (a8 Z)) a6 a6 a6 a6 (i7 [(11,[8,9,10])] a6 a6 (λe he=>hok e (vin (is:=[0,4]) Z he)) a6 (AllVS.cons ?_ AllVS.nil))
 refine VStep.mk3 [0,1] 15 (.own 4) 4 (.row 4 1 (List.replicate 8 [.bool false])) 16 (.own 5) 5 (.row 3 1 []) 17 (.own 6) 6 (.row 26 1 []) [⟨12,3,7,true,.box (avR [.slice none 0 0,.slice none 0 0,.slice none 0 0,.slice none 0 0,.slice none 0 0] [])⟩] Z Z Z Z Z (λb1 _ hbn=>b7 Z Z (y9 G Z Z Z Z) (a8 Z)) a6 a6 a6 a6 (i7 [(13,[12])] a6 a6 (λe he=>hok e (vin (is:=[0,4,8,9,10]) Z he)) a6 (AllVS.cons ?_ AllVS.nil))
 refine c10 ?_
 clear hok
 refine c2a ?_
 refine f6 [1,2,3] [0,1,2,3,7] (λ(k:Nat)=>[(4,.v (.int .i64 (k:Int)))]) (λ(k:Nat)=>[(4,some (.row 4 1 ((poN m k).map e7))),(5,some (.row 3 1 (((m.cp.map (λx=>x.ma)).take k).map Rf.l8))),(6,some (.nest 26 1 (((m.cp.map (λx=>x.st)).take k).map p8) []))]) (λ(k:Nat)=>k<=m.cp.length) (λ(k:Nat)=>m.cp.length - k) 0 Z Z ?_ ?_ ?_ ?_
 ·exact H0
 ·exact R7
 ·exact b74
 intro k hk
 have hp8:=@u9 m k
 have hm1:(m.cp.map (λx=>x.ma)).length=m.cp.length:=List.length_map _
 have hm2:(m.cp.map (λx=>x.st)).length=m.cp.length:=List.length_map _
 refine vm2 ?_
 refine zcd (λh1=>?_) (λh1=>?_)
 ·obtain ⟨hI,_,_,_⟩:=hM.ok k J
  exact ws3
 refine zgo ?_
 refine g8 (m5 Z Z Z Z (a7 (b8 Z ?_) (a7 (b8 Z ?_) (a7 (b8 Z ?_) (a7 (b8 Z ?_) (a7 (t8 Z ?_) d5))))))
 all_goals exact b6i
theorem a07 (m:Mach) (hM:MaF m) (hs:SmallM m):Ctr Tryz.prog 99 [.agg [.lst 2 (m.rs.map n6),.lst 1 (m.en.map e7),.lst 1 (m.ra.map e7),.nst none 4 (m.cp.map (r3 154 183))]] (.shp true [some 5] [.fr 4 1 ((abOf m).en.map e7),.fr 4 1 ((abOf m).ra.map e7),.fr 4 1 ((abOf m).po.map e7),.fr 3 1 ((abOf m).ma.map Rf.l8),.ne 26 1 ((abOf m).st.map p8)]):=by
 have f1:=hM.n
 have f2:=hM.en
 have f3:=hM.ra
 have f4:=hM.rn
 refine Ctr.of (n:=57) G Tryz.func99 Z X Z Z Z (λw0=>?_)
 refine j8 0 Z (λ_=>Z) (λu0=>?_)
 refine zgo ?_
 refine b5 Z (a5R 1 Z Z Z Z Z Z Z (b5 Z (g9 G 2 Z Z Z Z Z ?_)))
 refine zgn ?_
 refine p7 (d7 14 [0,1] mixed X Z Z (λr0=>?_) (λ_ h=>h))
 refine zsa 1 ?_
 refine zsa 2 ?_
 refine zsa 5 ?_
 refine zsa 6 ?_
 refine r8 (N:=8) Z (m8 (fuel:=4) [⟨0,8,2,false,.row 4 1 []⟩,⟨4,12,3,false,.row 4 1 []⟩,⟨8,16,4,false,.row 4 1 (List.replicate 8 [.bool false])⟩,⟨9,17,5,false,.row 3 1 []⟩,⟨10,18,6,false,.row 26 1 []⟩,⟨12,3,7,true,.box (avR [.slice none 0 0,.slice none 0 0,.slice none 0 0,.slice none 0 0,.slice none 0 0] [])⟩] (AllVOK.cons (VOK.lit G Z Z Z Z Z) (AllVOK.cons (VOK.lit G Z Z Z Z Z) (AllVOK.cons (VOK.make (n:=8) G Z Z Z Z Z (by decide) (by decide)) (AllVOK.cons (VOK.lit G Z Z Z Z Z) (AllVOK.cons (VOK.lit G Z Z Z Z Z) (AllVOK.cons (VOK.boxS G Z Z Z Z Z) (AllVOK.nil))))))) (λhok=>?_))
 refine i7 [(3,[0])] X X (λe he=>hok e he) X (AllVS.cons ?_ AllVS.nil)
 refine VStep.mk1 [0,1] 8 (.own 2) 2 (.row 4 1 []) [⟨4,12,3,false,.row 4 1 []⟩,⟨8,16,4,false,.row 4 1 (List.replicate 8 [.bool false])⟩,⟨9,17,5,false,.row 3 1 []⟩,⟨10,18,6,false,.row 26 1 []⟩,⟨12,3,7,true,.box (avR [.slice none 0 0,.slice none 0 0,.slice none 0 0,.slice none 0 0,.slice none 0 0] [])⟩] Z Z Z Z Z (λb1 _ hbn=>i6 G (by rw [hbn];exact Nat.le_of_ble_eq_true Z) Z Z Z Z Z Z Z Z Z (by first | (simp only [List.length_map,List.length_cons,List.length_nil];omega) | (simp;omega)) Z Z (a8 Z)) X X X X (i7 [(7,[4])] X X (λe he=>hok e (vin (is:=[0]) Z he)) X (AllVS.cons ?_ AllVS.nil))
 refine VStep.mk1 [0,1] 12 (.own 3) 3 (.row 4 1 []) [⟨8,16,4,false,.row 4 1 (List.replicate 8 [.bool false])⟩,⟨9,17,5,false,.row 3 1 []⟩,⟨10,18,6,false,.row 26 1 []⟩,⟨12,3,7,true,.box (avR [.slice none 0 0,.slice none 0 0,.slice none 0 0,.slice none 0 0,.slice none 0 0] [])⟩] Z Z Z Z Z (λb1 _ hbn=>i6 G (by rw [hbn];exact Nat.le_of_ble_eq_true Z) Z Z Z Z Z Z Z Z Z (by first | (simp only [List.length_map,List.length_cons,List.length_nil];omega) | (simp;omega)) Z Z (a8 Z)) X X X X (i7 [(11,[8,9,10])] X X (λe he=>hok e (vin (is:=[0,4]) Z he)) X (AllVS.cons ?_ AllVS.nil))
 refine VStep.mk3 [0,1] 16 (.own 4) 4 (.row 4 1 (List.replicate 8 [.bool false])) 17 (.own 5) 5 (.row 3 1 []) 18 (.own 6) 6 (.row 26 1 []) [⟨12,3,7,true,.box (avR [.slice none 0 0,.slice none 0 0,.slice none 0 0,.slice none 0 0,.slice none 0 0] [])⟩] Z Z Z Z Z (λb1 _ hbn=>b7 Z Z (y9 G Z Z Z Z) (a8 Z)) X X X X (i7 [(13,[12])] X X (λe he=>hok e (vin (is:=[0,4,8,9,10]) Z he)) X (AllVS.cons ?_ AllVS.nil))
 refine VStep.mk1 [0,1] 3 (.ptr 7 0) 7 (.box (avR [.slice none 0 0,.slice none 0 0,.slice none 0 0,.slice none 0 0,.slice none 0 0] [])) [] Z Z Z Z Z (λb1 _ hbn=>l5 G Z Z Z Z Z Z Z Z Z Z Z (a8 Z)) X X X X (w6 ?_)
 clear hok
 refine a2q (Gh.nest (id:=6) (yss:=[]) Z Z (by intro _ _ _ h;simp at h)) (a4g X ?_)
 refine znk ?_
 refine zgo ?_
 refine f6 [2,3,21,22] [1,2,3,7] (λ(k:Nat)=>[(23,.v (.int .i64 (k:Int)))]) (λ(k:Nat)=>[(4,some (.row 4 1 ((poN m k).map e7))),(5,some (.row 3 1 (((m.cp.map (λx=>x.ma)).take k).map Rf.l8))),(6,some (.nest 26 1 (((m.cp.map (λx=>x.st)).take k).map p8) []))]) (λ(k:Nat)=>k<=m.cp.length) (λ(k:Nat)=>m.cp.length - k) 0 Z Z ?_ ?_ ?_ ?_
 ·exact H0
 ·exact R7
 ·exact b74
 intro k hk
 have hp8:=@u9 m k
 have hm1:(m.cp.map (λx=>x.ma)).length=m.cp.length:=List.length_map _
 have hm2:(m.cp.map (λx=>x.st)).length=m.cp.length:=List.length_map _
 simp only [List.cons_append,List.nil_append]
 refine zcd (λh1=>?_) (λh1=>?_)
 ·obtain ⟨hI,_,_,_⟩:=hM.ok k J
  exact ws4
 refine zgo ?_
 refine g8 (m5 Z Z Z Z (a7 (b8 Z ?_) (a7 (b8 Z ?_) (a7 (b8 Z ?_) (a7 (b8 Z ?_) (a7 (t8 Z ?_) d5))))))
 all_goals (first | rfl | (obtain rfl:k=m.cp.length:=J;first | rfl | (rw [b04 (Nat.le_refl _)];rfl)) | simp)
end Go.Proofs.YtcnodpipinlpcaaGreat
