/- Texts merged into one: M15, W2, M16, M17, Q4, P1. -/
import Derived.Test.YtpfhomblkgmkkaaGreatDoorPFnExactRunScriptC
set_option maxHeartbeats 4000000
set_option linter.unusedSimpArgs false
set_option linter.unusedVariables false
set_option maxRecDepth 20000
namespace Go.Proofs.YtpfhomblkgmkkaaGreatDoor
open Go Go.Rf
theorem a92 (x:Ifc) (hn:x.st.length<=1048576) (hl:x.qu.sl.length<=1048576) (hw:x.qu.wa.length<=1048576):Ctr Tryz.prog 93 [.agg [.v (.int .i64 x.ma),.lst 1 (x.st.map Rf.n8),.lst 3 (x.qu.sl.map e9),.lst 2 (x.qu.wa.map f7)]] (.one (.v (.bool (a3n x)))):=by
 refine Ctr.of (n:=74) G Tryz.func93 Z a8 Z Z Z (λw0=>?_)
 refine j5 0 Z (λ_=>Z) (λu0=>?_)
 refine p6 ?_
 refine b3W ?_
 refine zgn ?_
 refine p6 ?_
 refine a0d ?_
 refine P0 ?_
 refine vm5 ?_
 refine b5 Z Z (f9 Z (ArgsOK.of Z) (Y0 x.ma 0 16) Z) ?_
 refine P0 ?_
 refine A3 Z Z Z (λh1=>?_) (λh1=>?_)
 ·try rw [h1]
  try simp only [rfb] at h1
  refine zgn ?_
  refine J9 Z ?_
  exact b9A
 try rw [h1]
 try simp only [rfb] at h1
 refine P0 ?_
 refine a1j ?_
 refine b5 Z Z (f9 Z (ArgsOK.of Z) (b0y x.qu hl hw) Z) ?_
 refine zgn ?_
 refine m6 Z (λh2=>?_) (λh2=>?_)
 ·try rw [h2]
  try simp only [rfb] at h2
  exact b9A
 try rw [h2]
 try simp only [rfb] at h2
 have hq:=a9F.mp h2
 have hSl:=hq.1.sl
 have hl4:=hSl.len
 refine zgn ?_
 refine p6 ?_
 refine a2v ?_
 refine vm5 ?_
 refine c8 2 Z Z Z (ArgsOK.of Z) (a8m x.qu.sl hSl) Z Z ?_
 refine zgn ?_
 refine zgn ?_
 refine r4 (d9 [1,3] [0,1] (λ(i:Nat)=>[(4,.v (.int .i64 (i:Int)))]) (λ(i:Nat)=>[]) (λ(i:Nat)=>i<=x.st.length/\StP x.qu.sl x.st i) (λ(i:Nat)=>x.st.length - i) 0 Z Z ?_ ?_ ?_ ?_)
 ·exact ⟨Nat.zero_le _,c6M⟩
 ·exact u3
 ·exact trivial
 intro i hinv
 have hti:0 < i→((i:Int) - 1).toNat=i - 1:=λ_=>J
 refine vm4 ?_
 refine zgn ?_
 refine m6 Z (λh3=>?_) (λh3=>?_)
 ·try rw [h3]
  try simp only [rfb] at h3
  refine a6r ?_
  refine p6 ?_
  refine b67 ?_
  iterate 6 refine zst ?_
  refine j4 Z (r5 Z Z (f9 Z c2Q (a2A (a66 x.qu.sl 4) _ (by have:=@a6b x.qu.sl 4;have:=@X4 x.qu.sl 4;omega)) Z) ?_)
  refine P0 ?_
  refine b1J Z Z Z (λh4=>?_) (λh4=>?_)
  ·try rw [h4]
   try simp only [rfb] at h4
   refine zgn ?_
   refine J9 Z ?_
   exact b9A
  try rw [h4]
  try simp only [rfb] at h4
  have hm:=(a6a 4).mp (a9J.mp h4)
  iterate 3 refine zst ?_
  refine c5K ?_
  iterate 5 refine zst ?_
  refine b0v ?_
  refine r5 Z Z (f9 Z c2Q (a2A (x.st.take i) _ (by rw [List.length_take];omega)) Z) ?_
  refine zgn ?_
  refine m6 Z (λh5=>?_) (λh5=>?_)
  ·try rw [h5]
   try simp only [rfb] at h5
   exact b9A
  try rw [h5]
  try simp only [rfb] at h5
  refine zgn ?_
  refine b67 ?_
  iterate 3 refine zst ?_
  refine b1J Z Z Z (λh6=>?_) (λh6=>?_)
  ·try rw [h6]
   try simp only [rfb] at h6
   have hl1:=b4I (hinv.2.inn (i - 1) J) hl4
   have hl2:=b4I hm hl4
   iterate 5 refine zst ?_
   refine b0v ?_
   refine c1o ?_
   refine b0v ?_
   refine r5 Z Z (f9 Z (ArgsOK.of Z) (Y7 x.qu _ hl (by rw [hti J];exact hl1)) Z) ?_
   iterate 7 refine zst ?_
   refine b0v ?_
   refine r5 Z Z (f9 Z (ArgsOK.of Z) (Y7 x.qu _ hl hl2) Z) ?_
   refine zgn ?_
   refine m6 Z (λh7=>?_) (λh7=>?_)
   ·try rw [h7]
    try simp only [rfb] at h7
    exact b9A
   try rw [h7]
   try simp only [rfb] at h7
   refine zgn ?_
   refine a2w ?_
   refine ⟨(i+1),?_,?_,⟨⟨_,Z,by rfl⟩,Z,trivial⟩,trivial,Z,Z,Z⟩
   ·exact c3g
   omega
  try rw [h6]
  try simp only [rfb] at h6
  refine zgn ?_
  refine J8 Z ?_
  refine zgn ?_
  refine a2w ?_
  refine ⟨(i+1),?_,?_,⟨⟨_,Z,by rfl⟩,Z,trivial⟩,trivial,Z,Z,Z⟩
  ·exact c3g
  omega
 try rw [h3]
 try simp only [rfb] at h3
 refine zgn ?_
 refine a42 ?_
 all_goals exact c2k
theorem a8n (rs:List Route) (q:Que) (k:Nat) (hr8:rs.length=8) (hF:QF q) (hk:k<=8):Ctr Tryz.prog 94 [.lst 2 (rs.map l7),.agg [.lst 3 (q.sl.map e9),.lst 2 (q.wa.map f7)],.v (.int .i64 (k:Int))] (.one (.v (.bool (okRq rs q k)))):=by
 have hl4:=hF.sl.len
 have hwn:=hF.wn8
 refine Ctr.of (n:=83) G Tryz.func94 Z a8 Z Z Z (λw0=>?_)
 refine j5 1 Z (λ_=>Z) (λu1=>?_)
 refine vm3 ?_
 refine zgo ?_
 refine d9 [0,2,4] [0] (λ(i:Nat)=>[(7,.v (.int .i64 (i:Int)))]) (λ(i:Nat)=>[]) (λ(i:Nat)=>i<=4/\∀t,t < i→rtS rs k (q.sl.getD t default)=true) (λ(i:Nat)=>4 - i) 0 Z Z ?_ ?_ ?_ ?_
 ·exact D9
 ·exact u3
 ·exact trivial
 intro i hi
 refine vm4 ?_
 refine zcd (λh1=>?_) (λh1=>?_)
 ·refine zgo ?_
  refine b0t ?_
  refine zgd ?_
  refine zcd (λh2=>?_) (λh2=>?_)
  ·refine zwt ?_
   exact b9C
  have hb0:=hF.sl.ok i J
  refine zcd (λh3=>?_) (λh3=>?_)
  ·have hb:=(hF.sl.ok i J h3).2.1
   refine zcd (λh4=>?_) (λh4=>?_)
   ·refine zwt ?_
    exact b9C
   refine zcd (λh5=>?_) (λh5=>?_)
   ·exact b9C
   exact c24
  refine zwf ?_
  exact c24
 refine zgo ?_
 refine d9 [0,2,4] [0] (λ(j:Nat)=>[(9,.v (.int .i64 (j:Int)))]) (λ(j:Nat)=>[]) (λ(j:Nat)=>j<=q.wa.length/\∀t,t < j→rtW rs k (q.wa.getD t default)=true) (λ(j:Nat)=>q.wa.length - j) 0 Z Z ?_ ?_ ?_ ?_
 ·exact D9
 ·exact u3
 ·exact trivial
 intro j hj
 refine vm4 ?_
 refine zcd (λh6=>?_) (λh6=>?_)
 ·have hbw:=(hF.wa _ (p4.mpr ⟨j,by omega,Z⟩)).1
  refine zgo ?_
  refine b0t ?_
  refine zgd ?_
  refine zcd (λh7=>?_) (λh7=>?_)
  ·refine zwt ?_
   exact b9C
  refine zcd (λh8=>?_) (λh8=>?_)
  ·exact b9C
  refine zgo ?_
  refine ⟨(j+1),?_,?_,⟨⟨_,Z,by rfl⟩,Z,trivial⟩,trivial,Z,Z,Z⟩
  ·exact ⟨by omega,n7 hj.2 (a34.mpr ⟨by assumption,by assumption⟩)⟩
  omega
 refine zf1 ?_
 all_goals exact c2l
theorem a93 (x y:Route):Ctr Tryz.prog 50 [.v (a9w x),.v (a9w y)] (.one (.v (.bool (b4r x y)))):=by
 refine Ctr.of (n:=15) G Tryz.func50 Z a8 Z Z Z (λw0=>?_)
 refine a2u ?_
 refine zcd (λh1=>?_) (λh1=>?_)
 ·exact b9M
 refine zcd (λh2=>?_) (λh2=>?_)
 ·exact b9M
 exact b9M
theorem a8o (xs ys:List Route) (hn:xs.length<=9223372036854775807):Ctr Tryz.prog 24 [.lst 2 (xs.map l7),.lst 2 (ys.map l7)] (.one (.v (.bool (decide (xs=ys))))):=by
 refine Ctr.of (n:=27) G Tryz.func24 Z a8 Z Z Z (λw0=>?_)
 refine zcd (λh1=>?_) (λh1=>?_)
 ·exact c25
 refine zgo ?_
 refine d9 [0,1] [] (λ(i:Nat)=>[(5,.v (.int .i64 (i:Int)))]) (λ(i:Nat)=>[]) (λ(i:Nat)=>i<=xs.length/\∀j,j < i→xs.getD j default=ys.getD j default) (λ(i:Nat)=>xs.length - i) 0 Z Z ?_ ?_ ?_ ?_
 ·exact D9
 ·exact u3
 ·exact trivial
 intro i hinv
 refine vm4 ?_
 refine zcd (λh2=>?_) (λh2=>?_)
 ·refine zgd ?_
  refine zcl (a93 _ _) ?_
  refine zcd (λh3=>?_) (λh3=>?_)
  ·exact c25
  refine zgo ?_
  refine ⟨(i+1),?_,?_,⟨⟨_,Z,by rfl⟩,Z,trivial⟩,trivial,Z,Z,Z⟩
  ·exact ⟨by omega,n7 hinv.2 (by first | exact b3r.mp i1 | exact b3r.mp a4q)⟩
  omega
 refine zf1 ?_
 all_goals exact c2t
theorem a3C (xs ys:List Bool) (hn:xs.length<=9223372036854775807):Ctr Tryz.prog 77 [.lst 1 (xs.map j6),.lst 1 (ys.map j6)] (.one (.v (.bool (decide (xs=ys))))):=by
 refine Ctr.of (n:=26) G Tryz.func77 Z a8 Z Z Z (λw0=>?_)
 refine zcd (λh1=>?_) (λh1=>?_)
 ·exact b7b
 refine zgo ?_
 refine d9 [0,1] [] (λ(i:Nat)=>[(5,.v (.int .i64 (i:Int)))]) (λ(i:Nat)=>[]) (λ(i:Nat)=>i<=xs.length/\∀j,j < i→xs.getD j default=ys.getD j default) (λ(i:Nat)=>xs.length - i) 0 Z Z ?_ ?_ ?_ ?_
 ·exact D9
 ·exact u3
 ·exact trivial
 intro i hinv
 refine vm4 ?_
 refine zcd (λh2=>?_) (λh2=>?_)
 ·refine zgd ?_
  refine zgo ?_
  refine j4 Z (r5 Z Z (b41 (G 4 _ Z).1 Z Z Z) ?_)
  refine zcd (λh3=>?_) (λh3=>?_)
  ·exact b7b
  exact b30
 refine zf1 ?_
 all_goals exact c1k
theorem b0C (xs ys:List Int) (hn:xs.length<=9223372036854775807):Ctr Tryz.prog 181 [.lst 1 (xs.map Rf.n8),.lst 1 (ys.map Rf.n8)] (.one (.v (.bool (decide (xs=ys))))):=by
 refine Ctr.of (n:=26) G Tryz.func181 Z a8 Z Z Z (λw0=>?_)
 refine zcd (λh1=>?_) (λh1=>?_)
 ·exact b7b
 refine zgo ?_
 refine d9 [0,1] [] (λ(i:Nat)=>[(5,.v (.int .i64 (i:Int)))]) (λ(i:Nat)=>[]) (λ(i:Nat)=>i<=xs.length/\∀j,j < i→xs.getD j default=ys.getD j default) (λ(i:Nat)=>xs.length - i) 0 Z Z ?_ ?_ ?_ ?_
 ·exact D9
 ·exact u3
 ·exact trivial
 intro i hinv
 refine vm4 ?_
 refine zcd (λh2=>?_) (λh2=>?_)
 ·refine zgd ?_
  refine zcd (λh3=>?_) (λh3=>?_)
  ·exact b7b
  exact b30
 refine zf1 ?_
 all_goals exact c1k
theorem a45 (x:Route) (c:Int) (hc:1<=c/\c<=2):Ctr Tryz.prog 153 [.v (a9w x),.ept [.int .i64 c]] (.one (.v (.bool (!a9x c x)))):=by
 refine Ctr.of (n:=16) G Tryz.func153 Z a8 Z Z Z (λw0=>?_)
 refine vm3 ?_
 refine zcl (R3 _) ?_
 refine zcd (λh1=>?_) (λh1=>?_)
 ·refine zf1 ?_
  all_goals (first | rfl | (simp_all [a9x];done))
 refine zcl (C5 _ _ _) ?_
 refine zf1 ?_
 all_goals (first | rfl | (simp_all [a9x];done))
theorem F4 (xs:List Route) (f:Nat) (c:List Value) (p:Route→Bool) (hl:xs.length<=1048576) (hf:∀i,i < xs.length→Ctr Tryz.prog f [.v (a9w (xs.getD i default)),.ept c] (.one (.v (.bool (p (xs.getD i default)))))):Ctr Tryz.prog 200 [.lst 2 (xs.map l7),.fnc f [.ept c]] (.one (.v (.int .i64 (G3 (λi=>p (xs.getD i default)) xs.length)))):=by
 refine Ctr.of (n:=19) G Tryz.func200 Z a8 Z Z Z (λw0=>?_)
 exact ws6
theorem D7 (xs:List Route) (f:Nat) (c:List Value) (p:Route→Bool) (hl:xs.length<=1048576) (hf:∀i,i < xs.length→Ctr Tryz.prog f [.v (a9w (xs.getD i default)),.ept c] (.one (.v (.bool (p (xs.getD i default)))))):Ctr Tryz.prog 152 [.lst 2 (xs.map l7),.fnc f [.ept c]] (.one (.v (.bool (W3 xs.length (λi=>p (xs.getD i default)))))):=by
 refine Ctr.of (n:=9) G Tryz.func152 Z a8 Z Z Z (λw0=>?_)
 refine zcl (F4 xs f c p hl hf) ?_
 refine zf1 ?_
 all_goals (rw [a3P])
theorem a7h (rs:List Route) (c:Int) (hn:rs.length<=9223372036854775807):Ctr Tryz.prog 104 [.lst 2 (rs.map l7),.v (.int .i64 c)] (.one (.v (.bool (okRts rs c)))):=by
 refine Ctr.of (n:=18) G Tryz.func104 Z a8 Z Z Z (λw0=>?_)
 refine vm3 ?_
 refine zcl (C5 _ _ _) ?_
 refine zcd (λh1=>?_) (λh1=>?_)
 ·refine zcd (λh2=>?_) (λh2=>?_)
  ·refine zgo ?_
   refine a1j ?_
   refine b5 Z Z (a89 Z Z) ?_
   refine zcl (D7 rs 153 [.int .i64 c] (λx=>!a9x c x) J (λk hk=>a45 _ _ (s7.mp i1))) ?_
   exact c5Y
  exact c5Y
 exact c5Y
theorem a7i (rs:List Route) (c:Int) (hn:rs.length<=1048576) (hc:0<=c/\c<=1048576):Ctr Tryz.prog 92 [.lst 2 (rs.map l7),.v (.int .i64 c)] (.one (.v (.bool (okRts rs c)))):=by
 refine Ctr.of (n:=37) G Tryz.func92 Z a8 Z Z Z (λw0=>?_)
 refine zgo ?_
 refine d9 [0,1] [] (λ(i:Nat)=>[(5,.v (.int .i64 (i:Int)))]) (λ(i:Nat)=>[]) (λ(i:Nat)=>i<=rs.length/\∀j,j < i→a9x c (rs.getD j default)=true) (λ(i:Nat)=>rs.length - i) 0 Z Z ?_ ?_ ?_ ?_
 ·exact D9
 ·exact u3
 ·exact trivial
 intro i hinv
 refine vm4 ?_
 refine zcd (λh1=>?_) (λh1=>?_)
 ·refine zcl (V5 _) ?_
  refine zcd (λh2=>?_) (λh2=>?_)
  ·refine zwt ?_
   exact c5X
  refine b2H ?_
  refine zcd (λh3=>?_) (λh3=>?_)
  ·exact c5X
  refine zgo ?_
  refine ⟨(i+1),?_,?_,⟨⟨_,Z,by rfl⟩,Z,trivial⟩,trivial,Z,Z,Z⟩
  ·exact ⟨by omega,n7 hinv.2 (by simp_all [a9x])⟩
  omega
 refine b2H ?_
 refine zcd (λh4=>?_) (λh4=>?_)
 ·exact c5X
 refine zf1 ?_
 all_goals exact c2p
theorem a3D (rs:List Route) (c:Int) (hn:rs.length<=1048576) (hc:m3 c 1 2=false):Ctr Tryz.prog 92 [.lst 2 (rs.map l7),.v (.int .i64 c)] (.one (.v (.bool (false)))):=by
 refine Ctr.of (n:=37) G Tryz.func92 Z a8 Z Z Z (λw0=>?_)
 refine zgn ?_
 refine zgn ?_
 refine r4 (d9 [0,1] [] (λ(i:Nat)=>[(5,.v (.int .i64 (i:Int)))]) (λ(i:Nat)=>[]) (λ(i:Nat)=>i<=rs.length) (λ(i:Nat)=>rs.length - i) 0 Z Z ?_ ?_ ?_ ?_)
 ·exact C7
 ·exact u3
 ·exact trivial
 intro i hinv
 refine vm4 ?_
 refine zgn ?_
 refine m6 Z (λh1=>?_) (λh1=>?_)
 ·try rw [h1]
  try simp only [rfb] at h1
  refine a6r ?_
  refine a0d ?_
  iterate 5 refine zst ?_
  refine vm5 ?_
  refine b5 Z Z (f9 Z (ArgsOK.of Z) (V5 _) Z) ?_
  refine P0 ?_
  refine A3 Z Z Z (λh2=>?_) (λh2=>?_)
  ·try rw [h2]
   try simp only [rfb] at h2
   refine zgn ?_
   refine J9 Z ?_
   exact b9L
  try rw [h2]
  try simp only [rfb] at h2
  iterate 6 refine zst ?_
  refine a1j ?_
  first | refine b5 Z Z (v6 Z Z Z Z J J) ?_ | refine b5 Z Z (A4 Z Z Z Z) ?_
  refine a1j ?_
  refine b5 Z Z (f9 Z (ArgsOK.of Z) (Y0 _ _ _) Z) ?_
  refine zgn ?_
  refine m6 Z (λh3=>?_) (λh3=>?_)
  ·try rw [h3]
   try simp only [rfb] at h3
   exact b9L
  try rw [h3]
  try simp only [rfb] at h3
  refine zgn ?_
  refine a2w ?_
  refine ⟨(i+1),?_,?_,⟨⟨_,Z,by rfl⟩,Z,trivial⟩,trivial,Z,Z,Z⟩
  ·omega
  omega
 try rw [h1]
 try simp only [rfb] at h1
 refine zgn ?_
 refine a0d ?_
 refine zst ?_
 refine vm5 ?_
 refine b5 Z Z (f9 Z (ArgsOK.of Z) (Y0 _ _ _) Z) ?_
 refine zst ?_
 refine A3 Z Z Z (λh4=>?_) (λh4=>?_)
 ·try rw [h4]
  try simp only [rfb] at h4
  exact b9L
 try rw [h4]
 try simp only [rfb] at h4
 refine a42 ?_
 all_goals (first | rfl | (simp_all;done))
theorem a3E (rs:List Route) (c:Int) (hn:rs.length<=1048576):Ctr Tryz.prog 92 [.lst 2 (rs.map l7),.v (.int .i64 c)] (.one (.v (.bool (okRts rs c)))):=by
 cases h:m3 c 1 2
 ·have e:okRts rs c=false:=by simp only [okRts,h,Bool.false_and]
  rw [e];exact a3D rs c hn h
 exact a7i rs c hn (by have:=s7.mp h;omega)
theorem b0D (x y:Slot):Ctr Tryz.prog 290 [.v (a2D x),.v (a2D y)] (.one (.v (.bool (b4u x y)))):=by
 refine Ctr.of (n:=20) G Tryz.func290 Z a8 Z Z Z (λw0=>?_)
 refine a2u ?_
 refine zcd (λh1=>?_) (λh1=>?_)
 ·exact b53
 refine zcd (λh2=>?_) (λh2=>?_)
 ·exact b53
 refine zcd (λh3=>?_) (λh3=>?_)
 ·exact b53
 exact b53
theorem a94 (xs ys:List Slot) (hn:xs.length<=9223372036854775807):Ctr Tryz.prog 233 [.lst 3 (xs.map e9),.lst 3 (ys.map e9)] (.one (.v (.bool (decide (xs=ys))))):=by
 refine Ctr.of (n:=27) G Tryz.func233 Z a8 Z Z Z (λw0=>?_)
 refine zcd (λh1=>?_) (λh1=>?_)
 ·exact c26
 refine zgo ?_
 refine d9 [0,1] [] (λ(i:Nat)=>[(5,.v (.int .i64 (i:Int)))]) (λ(i:Nat)=>[]) (λ(i:Nat)=>i<=xs.length/\∀j,j < i→xs.getD j default=ys.getD j default) (λ(i:Nat)=>xs.length - i) 0 Z Z ?_ ?_ ?_ ?_
 ·exact D9
 ·exact u3
 ·exact trivial
 intro i hinv
 refine vm4 ?_
 refine zcd (λh2=>?_) (λh2=>?_)
 ·refine zgd ?_
  refine zcl (b0D _ _) ?_
  refine zcd (λh3=>?_) (λh3=>?_)
  ·exact c26
  refine zgo ?_
  refine ⟨(i+1),?_,?_,⟨⟨_,Z,by rfl⟩,Z,trivial⟩,trivial,Z,Z,Z⟩
  ·exact ⟨by omega,n7 hinv.2 (by first | exact b3s.mp i1 | exact b3s.mp a4q)⟩
  omega
 refine zf1 ?_
 all_goals exact c2u
theorem a8p (x y:Wtr):Ctr Tryz.prog 291 [.v (a0U x),.v (a0U y)] (.one (.v (.bool (b4v x y)))):=by
 refine Ctr.of (n:=15) G Tryz.func291 Z a8 Z Z Z (λw0=>?_)
 refine a2u ?_
 refine zcd (λh1=>?_) (λh1=>?_)
 ·exact b9N
 refine zcd (λh2=>?_) (λh2=>?_)
 ·exact b9N
 exact b9N
theorem a7j (xs ys:List Wtr) (hn:xs.length<=9223372036854775807):Ctr Tryz.prog 234 [.lst 2 (xs.map f7),.lst 2 (ys.map f7)] (.one (.v (.bool (decide (xs=ys))))):=by
 refine Ctr.of (n:=27) G Tryz.func234 Z a8 Z Z Z (λw0=>?_)
 refine zcd (λh1=>?_) (λh1=>?_)
 ·exact c27
 refine zgo ?_
 refine d9 [0,1] [] (λ(i:Nat)=>[(5,.v (.int .i64 (i:Int)))]) (λ(i:Nat)=>[]) (λ(i:Nat)=>i<=xs.length/\∀j,j < i→xs.getD j default=ys.getD j default) (λ(i:Nat)=>xs.length - i) 0 Z Z ?_ ?_ ?_ ?_
 ·exact D9
 ·exact u3
 ·exact trivial
 intro i hinv
 refine vm4 ?_
 refine zcd (λh2=>?_) (λh2=>?_)
 ·refine zgd ?_
  refine zcl (a8p _ _) ?_
  refine zcd (λh3=>?_) (λh3=>?_)
  ·exact c27
  refine zgo ?_
  refine ⟨(i+1),?_,?_,⟨⟨_,Z,by rfl⟩,Z,trivial⟩,trivial,Z,Z,Z⟩
  ·exact ⟨by omega,n7 hinv.2 (by first | exact b3t.mp i1 | exact b3t.mp a4q)⟩
  omega
 refine zf1 ?_
 all_goals exact c2v
theorem a95 (x y:Que) (hl:x.sl.length<=9223372036854775807) (hw:x.wa.length<=9223372036854775807):Ctr Tryz.prog 182 [.agg [.lst 3 (x.sl.map e9),.lst 2 (x.wa.map f7)],.agg [.lst 3 (y.sl.map e9),.lst 2 (y.wa.map f7)]] (.one (.v (.bool (b8g x y)))):=by
 refine Ctr.of (n:=17) G Tryz.func182 Z a8 Z Z Z (λw0=>?_)
 refine j5 0 Z (λ_=>Z) (λu0=>?_)
 refine j5 1 Z (λ_=>Z) (λu1=>?_)
 refine a2u ?_
 refine zcl (a94 x.sl y.sl hl) ?_
 refine zcd (λh1=>?_) (λh1=>?_)
 ·exact b9P
 refine zcl (a7j x.wa y.wa hw) ?_
 refine zcd (λh2=>?_) (λh2=>?_)
 ·exact b9P
 exact b9P
theorem a47 (x y:Ifc) (hb:BigI x):Ctr Tryz.prog 123 [.agg [.v (.int .i64 x.ma),.lst 1 (x.st.map Rf.n8),.lst 3 (x.qu.sl.map e9),.lst 2 (x.qu.wa.map f7)],.agg [.v (.int .i64 y.ma),.lst 1 (y.st.map Rf.n8),.lst 3 (y.qu.sl.map e9),.lst 2 (y.qu.wa.map f7)]] (.one (.v (.bool (c0J x y)))):=by
 refine Ctr.of (n:=22) G Tryz.func123 Z a8 Z Z Z (λw0=>?_)
 refine j5 0 Z (λ_=>Z) (λu0=>?_)
 refine j5 1 Z (λ_=>Z) (λu1=>?_)
 refine a2u ?_
 refine zcd (λh1=>?_) (λh1=>?_)
 ·exact b55
 refine zcl (b0C x.st y.st hb.st) ?_
 refine zcd (λh2=>?_) (λh2=>?_)
 ·exact b55
 refine zcl (a95 x.qu y.qu hb.sl hb.wa) ?_
 refine zcd (λh3=>?_) (λh3=>?_)
 ·exact b55
 exact b55
theorem a4c (xs ys:List Ifc) (hn:xs.length<=9223372036854775807) (hz:∀i,i < xs.length→BigI (xs.getD i default)):Ctr Tryz.prog 78 [.nst none 4 (xs.map (l6 169 182)),.nst none 4 (ys.map (l6 169 182))] (.one (.v (.bool (decide (xs=ys))))):=by
 refine Ctr.of (n:=27) G Tryz.func78 Z a8 Z Z Z (λw0=>?_)
 refine zcd (λh1=>?_) (λh1=>?_)
 ·exact c28
 refine zgo ?_
 refine d9 [0,1] [] (λ(i:Nat)=>[(5,.v (.int .i64 (i:Int)))]) (λ(i:Nat)=>[]) (λ(i:Nat)=>i<=xs.length/\∀j,j < i→xs.getD j default=ys.getD j default) (λ(i:Nat)=>xs.length - i) 0 Z Z ?_ ?_ ?_ ?_
 ·exact D9
 ·exact u3
 ·exact trivial
 intro i hinv
 refine vm4 ?_
 refine zcd (λh2=>?_) (λh2=>?_)
 ·refine zgd ?_
  refine zcl (a47 (xs.getD i default) (ys.getD i default) (hz i J)) ?_
  refine zcd (λh3=>?_) (λh3=>?_)
  ·exact c28
  refine zgo ?_
  refine ⟨(i+1),?_,?_,⟨⟨_,Z,by rfl⟩,Z,trivial⟩,trivial,Z,Z,Z⟩
  ·exact ⟨by omega,n7 hinv.2 (by first | exact b3A.mp i1 | (simp_all;done))⟩
  omega
 refine zf1 ?_
 all_goals exact c2w
theorem a7k (x y:Mach) (hb:BigM x):Ctr Tryz.prog 37 [.agg [.lst 2 (x.rs.map l7),.lst 1 (x.en.map j6),.lst 1 (x.ra.map j6),.nst none 4 (x.cp.map (l6 169 182))],.agg [.lst 2 (y.rs.map l7),.lst 1 (y.en.map j6),.lst 1 (y.ra.map j6),.nst none 4 (y.cp.map (l6 169 182))]] (.one (.v (.bool (b8i x y)))):=by
 refine Ctr.of (n:=29) G Tryz.func37 Z a8 Z Z Z (λw0=>?_)
 refine j5 0 Z (λ_=>Z) (λu0=>?_)
 refine j5 1 Z (λ_=>Z) (λu1=>?_)
 refine a2u ?_
 refine zcl (a8o x.rs y.rs hb.rs) ?_
 refine zcd (λh1=>?_) (λh1=>?_)
 ·exact b32
 refine zcl (a3C x.en y.en hb.en) ?_
 refine zcd (λh2=>?_) (λh2=>?_)
 ·exact b32
 refine zcl (a3C x.ra y.ra hb.ra) ?_
 refine zcd (λh3=>?_) (λh3=>?_)
 ·exact b32
 refine zcl (a4c x.cp y.cp hb.cp hb.all) ?_
 refine zcd (λh4=>?_) (λh4=>?_)
 ·exact b32
 exact b32
theorem s9:a0a Tryz.prog 83 [.int .i64,.int .i64]=true:=by kernel_rfl
theorem H6 (wa:List Wtr) (hw:wa.length<=1048576):Ctr Tryz.prog 162 [.lst 2 (wa.map f7)] (.one (.fr 182 2 (wa.map f7))):=by
 refine Ctr.of (n:=8) G Tryz.func162 Z a8 Z Z Z (λw0=>?_)
 refine zgo ?_
 refine a7 Z (c0p G Z Z Z Z Z (λbn hbn=>?_))
 refine zcd (λh1=>?_) (λh1=>?_)
 ·refine zgo ?_
  refine e6 (C9 Z (I5 ?_))
  exact c3r
 refine b3X ?_
 refine zgo ?_
 refine vm6 ?_
 refine zfo ?_
 exact c3r
theorem a4d (w:Wtr) (rs:List Route) (k:Nat) (hr8:rs.length=8) (hw:0<=w.q/\w.q<=7):Ctr Tryz.prog 165 [.v (a0U w),.eptN [.lst 2 (rs.map l7)],.ept [.int .i64 (k:Int)]] (.one (.v (.bool (!rtW rs k w)))):=by
 refine Ctr.of (n:=15) G Tryz.func165 Z a8 Z Z Z (λw0=>?_)
 refine vm3 ?_
 refine zgd ?_
 refine j4 Z (r5 Z Z (N5 G Z Z Z Z) ?_)
 refine zgo ?_
 refine j4 Z (r5 Z Z (c1R [.int .i64,.int .i64] Z Z Z Z Z Z Z (.inl Z) (.inl Z) s9 ⟨_,_,Z,⟨_,Z⟩,_,_,Z,⟨_,Z⟩,Z⟩ ⟨_,_,Z,⟨_,Z⟩,_,_,Z,⟨_,Z⟩,Z⟩) ?_)
 refine zf1 ?_
 all_goals ((refine congrArg Value.bool ?_;rw [Bool.eq_iff_iff,Bool.not_eq_true',Bool.not_eq_true',← Bool.not_eq_true,← Bool.not_eq_true (b:=rtW rs k w),ec2,a34];exact not_congr And.comm))
theorem D6 (xs:List Wtr) (f:Nat) (rs:List Route) (c:List Value) (p:Wtr→Bool) (hl:xs.length<=1048576) (hf:∀i,i < xs.length→Ctr Tryz.prog f [.v (a0U (xs.getD i default)),.eptN [.lst 2 (rs.map l7)],.ept c] (.one (.v (.bool (p (xs.getD i default)))))):Ctr Tryz.prog 207 [.lst 2 (xs.map f7),.fnc f [.eptN [.lst 2 (rs.map l7)],.ept c]] (.one (.v (.int .i64 (G3 (λi=>p (xs.getD i default)) xs.length)))):=by
 exact c3S
theorem C8 (xs:List Wtr) (f:Nat) (rs:List Route) (c:List Value) (p:Wtr→Bool) (hl:xs.length<=1048576) (hf:∀i,i < xs.length→Ctr Tryz.prog f [.v (a0U (xs.getD i default)),.eptN [.lst 2 (rs.map l7)],.ept c] (.one (.v (.bool (p (xs.getD i default)))))):Ctr Tryz.prog 164 [.lst 2 (xs.map f7),.fnc f [.eptN [.lst 2 (rs.map l7)],.ept c]] (.one (.v (.bool (W3 xs.length (λi=>p (xs.getD i default)))))):=by
 refine Ctr.of (n:=9) G Tryz.func164 Z a8 Z Z Z (λw0=>?_)
 refine zcl (D6 xs f rs c p hl hf) ?_
 refine zf1 ?_
 all_goals (rw [a3P])
theorem a6w (rs:List Route) (k:Nat) (x:Ifc) (hr8:rs.length=8) (hF:IfF x) (hk:k<=8):Ctr Tryz.prog 106 [.lst 2 (rs.map l7),.v (.int .i64 (k:Int)),.agg [.v (.int .i64 x.ma),.lst 1 (x.st.map Rf.n8),.lst 3 (x.qu.sl.map e9),.lst 2 (x.qu.wa.map f7)]] (.one (.v (.bool (okRq rs x.qu k)))):=by
 have hl4:=hF.qu.sl.len
 have hwn:=hF.qu.wn8
 refine Ctr.of (n:=38) G Tryz.func106 Z a8 Z Z Z (λw0=>?_)
 refine c36 (t:=0) Z (λz0=>?_)
 refine j5 2 Z (λ_=>Z) (λu2=>?_)
 refine a2u ?_
 refine vm5 ?_
 refine y9 3 Z Z Z Z Z Z Z ?_
 refine n9 ?_
 refine c8 4 Z Z Z (ArgsOK.of Z) (H6 x.qu.wa J) Z Z ?_
 refine zgo ?_
 refine d9 [3,4,16,17] [0,1] (λ(i:Nat)=>[(7,.own 3),(18,.v (.int .i64 (i:Int)))]) (λ(i:Nat)=>[(3,some (.row 182 2 ((ftL x.qu i).map f7)))]) (λ(i:Nat)=>i<=4/\∀t,t < i→(x.qu.sl.getD t default).s≠3) (λ(i:Nat)=>4 - i) 0 Z Z ?_ ?_ ?_ ?_
 ·exact D9
 ·exact c3k
 ·exact ⟨⟨_,Z,by (first | rfl | (simp;done) | (simp;omega))⟩,Z,Z,trivial⟩
 intro i hinv
 have hpl:=@b2n x.qu i
 refine vm4 ?_
 refine zcd (λh1=>?_) (λh1=>?_)
 ·refine n9 ?_
  refine d8 G 5 Z Z Z Z Z ?_
  refine zcd (λh2=>?_) (λh2=>?_)
  ·refine zf1 ?_
   all_goals exact c2K
  refine zcd (λh3=>?_) (λh3=>?_)
  ·refine zcl (z7 _) ?_
   refine vm5 ?_
   refine s4 G 6 Z Z Z Z Z Z Z Z ?_
   refine vm6 ?_
   exact c8h
  exact c8h
 obtain rfl:i=4:=J
 have hfl:=@b2n x.qu 4
 refine n9 ?_
 refine b5 Z Z (a89 Z Z) ?_
 refine zcl (C8 (ftL x.qu 4) 165 rs [.int .i64 (k:Int)] (λw=>!rtW rs k w) J (λj hj=>a4d _ rs k hr8 (c4S hF.qu (Nat.le_refl _) (p4.mpr ⟨j,hj,Z⟩)))) ?_
 refine zf1 ?_
 all_goals exact c2K
theorem V2 (m:Mach) (hs:SmallM m):Ctr Tryz.prog 64 [.agg [.lst 2 (m.rs.map l7),.lst 1 (m.en.map j6),.lst 1 (m.ra.map j6),.nst none 4 (m.cp.map (l6 169 182))]] (.one (.v (.bool (a0y m)))):=by
 have z0:=hs.rs
 have z1:=hs.en
 have z2:=hs.ra
 have z3:=hs.cp
 refine Ctr.of (n:=44) G Tryz.func64 Z a8 Z Z Z (λw0=>?_)
 refine j5 0 Z (λ_=>Z) (λu0=>?_)
 refine p6 ?_
 refine b3W ?_
 refine zgn ?_
 refine p6 ?_
 refine a0d ?_
 iterate 5 refine zst ?_
 refine vm5 ?_
 refine b5 Z Z (f9 Z (ArgsOK.of Z) (a7h m.rs _ J) Z) ?_
 refine P0 ?_
 refine A3 Z Z Z (λh1=>?_) (λh1=>?_)
 ·try rw [h1]
  try simp only [rfb] at h1
  exact b9X
 try rw [h1]
 try simp only [rfb] at h1
 have hr8:=(U3.mp h1).2.1
 have hc2:=(U3.mp h1).1
 iterate 6 refine zst ?_
 refine A3 Z Z Z (λh2=>?_) (λh2=>?_)
 ·try rw [h2]
  try simp only [rfb] at h2
  exact b9X
 try rw [h2]
 try simp only [rfb] at h2
 refine zgn ?_
 refine m6 Z (λh3=>?_) (λh3=>?_)
 ·try rw [h3]
  try simp only [rfb] at h3
  exact b9W
 try rw [h3]
 try simp only [rfb] at h3
 refine zgn ?_
 refine zgn ?_
 refine r4 (d9 [1,25,26] [0] (λ(k:Nat)=>[(27,.v (.int .i64 (k:Int)))]) (λ(k:Nat)=>[]) (λ(k:Nat)=>k<=m.cp.length/\∀j,j < k→a79 m j=true) (λ(k:Nat)=>m.cp.length - k) 0 Z Z ?_ ?_ ?_ ?_)
 ·exact D9
 ·exact u3
 ·exact trivial
 intro k hk
 refine vm4 ?_
 refine zgn ?_
 refine p6 (m6 Z (λh4=>?_) (λh4=>?_))
 ·try rw [h4]
  try simp only [rfb] at h4
  have hsz:=hs.allI (i:=k) J
  have hsz2:szI (m.cp.getD k default)=(m.cp.getD k default).st.length+(m.cp.getD k default).qu.sl.length+(m.cp.getD k default).qu.wa.length:=rfl
  refine a6r ?_
  refine p6 ?_
  refine a2v ?_
  refine b0t ?_
  refine zst ?_
  refine vm5 ?_
  refine a6h 31 Z (λ_=>Z) λv31=>m4 G Z Z Z Z Z Z Z Z Z Z Z ?_
  refine zgn ?_
  refine a0d ?_
  refine zst ?_
  refine vm5 ?_
  refine b5 Z Z (f9 Z (ArgsOK.of Z) (a44 (m.cp.getD k default) J J J) Z) ?_
  refine P0 ?_
  refine A3 Z Z Z (λh5=>?_) (λh5=>?_)
  ·try rw [h5]
   try simp only [rfb] at h5
   exact b9X
  try rw [h5]
  try simp only [rfb] at h5
  have hIF:=(b4K h5).1
  iterate 4 refine zst ?_
  refine a1j ?_
  refine b5 Z Z (f9 Z (ArgsOK.of Z) (a6w m.rs k (m.cp.getD k default) hr8 hIF J) Z) ?_
  refine zgn ?_
  refine m6 Z (λh6=>?_) (λh6=>?_)
  ·try rw [h6]
   try simp only [rfb] at h6
   exact b9W
  try rw [h6]
  try simp only [rfb] at h6
  refine zgn ?_
  refine b8 ?_
  refine vm2 ?_
  refine zgn ?_
  exact c3i
 try rw [h4]
 try simp only [rfb] at h4
 refine zgn ?_
 refine a42 ?_
 all_goals exact c5F
theorem a3F (m:Mach) (hs:SmallM m):Ctr Tryz.prog 54 [.agg [.lst 2 (m.rs.map l7),.lst 1 (m.en.map j6),.lst 1 (m.ra.map j6),.nst none 4 (m.cp.map (l6 169 182))]] (.one (.v (.bool (a0y m)))):=by
 have z0:=hs.rs
 have z1:=hs.en
 have z2:=hs.ra
 have z3:=hs.cp
 refine Ctr.of (n:=50) G Tryz.func54 Z a8 Z Z Z (λw0=>?_)
 refine j5 0 Z (λ_=>Z) (λu0=>?_)
 refine vm3 ?_
 refine zcl (a3E m.rs _ J) ?_
 refine zcd (λh1=>?_) (λh1=>?_)
 ·refine zwt ?_
  refine zf1 ?_
  exact b68
 have hr8:=(U3.mp h1).2.1
 have hc2:=(U3.mp h1).1
 refine zcd (λh2=>?_) (λh2=>?_)
 ·refine zwt ?_
  refine zf1 ?_
  exact b68
 refine zcd (λh3=>?_) (λh3=>?_)
 ·refine zf1 ?_
  exact b68
 refine zgo ?_
 refine d9 [1] [0] (λ(k:Nat)=>[(3,.v (.int .i64 (k:Int)))]) (λ(k:Nat)=>[]) (λ(k:Nat)=>k<=m.cp.length/\∀j,j < k→a79 m j=true) (λ(k:Nat)=>m.cp.length - k) 0 Z Z ?_ ?_ ?_ ?_
 ·exact D9
 ·exact u3
 ·exact trivial
 intro k hk
 refine vm4 ?_
 refine zcd (λh4=>?_) (λh4=>?_)
 ·have hsz:=hs.allI (i:=k) J
  have hsz2:szI (m.cp.getD k default)=(m.cp.getD k default).st.length+(m.cp.getD k default).qu.sl.length+(m.cp.getD k default).qu.wa.length:=rfl
  refine zgd ?_
  refine zcl (a92 (m.cp.getD k default) J J J) ?_
  refine zcd (λh5=>?_) (λh5=>?_)
  ·refine zwt ?_
   refine zf1 ?_
   exact b68
  have hIF:=(b4K h5).1
  refine zgo ?_
  refine b0v ?_
  refine r5 Z Z (Z6 G Z Z Z Z) ?_
  refine zcl (a8n m.rs (m.cp.getD k default).qu k hr8 hIF.qu J) ?_
  refine zcd (λh6=>?_) (λh6=>?_)
  ·refine zf1 ?_
   exact b68
  refine zgo ?_
  exact c3i
 refine zf1 ?_
 all_goals exact c5F
theorem a96 (q:Int) (m:Mach) (hq:0<=q/\q.toNat < m.ra.length):Ctr Tryz.prog 112 [.v (.int .i64 q),.eptN [.lst 2 (m.rs.map l7),.lst 1 (m.en.map j6),.lst 1 (m.ra.map j6),.nst none 4 (m.cp.map (l6 169 182))]] (.one (.v (.bool (m.ra.getD q.toNat default)))):=by
 refine Ctr.of (n:=9) G Tryz.func112 Z a8 Z Z Z (λw0=>?_)
 refine n9 ?_
 refine b2F ?_
 refine vm5 ?_
 refine b66 ?_
 exact a9U
theorem a7l (f:Nat) (m:Mach) (p:Nat→Bool) (hf:∀i:Nat,i < 8→Ctr Tryz.prog f [.v (.int .i64 (i:Int)),.eptN [.lst 2 (m.rs.map l7),.lst 1 (m.en.map j6),.lst 1 (m.ra.map j6),.nst none 4 (m.cp.map (l6 169 182))]] (.one (.v (.bool (p i))))):Ctr Tryz.prog 111 [.fnc f [.eptN [.lst 2 (m.rs.map l7),.lst 1 (m.en.map j6),.lst 1 (m.ra.map j6),.nst none 4 (m.cp.map (l6 169 182))]]] (.one (.fr 3 1 ((whN p 8).map Rf.n8))):=by
 refine Ctr.of (n:=18) G Tryz.func111 Z a8 Z Z Z (λw0=>?_)
 refine b3X ?_
 refine zgo ?_
 refine d9 [0] [] (λ(i:Nat)=>[(3,.own 0),(6,.v (.int .i64 (i:Int)))]) (λ(i:Nat)=>[(0,some (.row 3 1 ((whN p i).map Rf.n8)))]) (λ(i:Nat)=>i<=8) (λ(i:Nat)=>8 - i) 0 Z Z ?_ ?_ ?_ ?_
 ·exact C7
 ·exact a0e
 ·exact a1k
 intro i hinv
 have hwl:=@a6l p i
 refine vm4 ?_
 refine zcd (λh1=>?_) (λh1=>?_)
 ·refine n9 ?_
  refine b5 Z Z (b1O Z Z (ArgsOK.of Z) Z (hf i J) Z) ?_
  refine zcd (λh2=>?_) (λh2=>?_)
  ·refine n9 ?_
   refine b3Y ?_
   refine vm6 ?_
   exact c1C
  exact c1C
 obtain rfl:i=8:=J
 refine zfo ?_
 all_goals (rfl)
theorem a8q (x:Ifc) (hF:IfF x):Ctr Tryz.prog 172 [.agg [.v (.int .i64 x.ma),.lst 1 (x.st.map Rf.n8),.lst 3 (x.qu.sl.map e9),.lst 2 (x.qu.wa.map f7)]] (.one (.v (.bool (a1P x)))):=by
 have hsn:=hF.sn
 have hpl:=a1N hF.qu
 refine Ctr.of (n:=14) G Tryz.func172 Z a8 Z Z Z (λw0=>?_)
 refine j5 0 Z (λ_=>Z) (λu0=>?_)
 refine vm3 ?_
 refine zcd (λh1=>?_) (λh1=>?_)
 ·exact c3m
 refine zgo ?_
 refine a1j ?_
 refine c8 2 Z Z Z (ArgsOK.of Z) (N2 x.qu hF.qu) Z Z ?_
 exact c3m
theorem B6 (xs:List Ifc) (f:Nat) (p:Ifc→Bool) (hl:xs.length<=1048576) (hf:∀i,i < xs.length→Ctr Tryz.prog f [.agg [.v (.int .i64 (xs.getD i default).ma),.lst 1 ((xs.getD i default).st.map Rf.n8),.lst 3 ((xs.getD i default).qu.sl.map e9),.lst 2 ((xs.getD i default).qu.wa.map f7)]] (.one (.v (.bool (p (xs.getD i default)))))):Ctr Tryz.prog 220 [.nst none 4 (xs.map (l6 169 182)),.fnc f []] (.one (.v (.int .i64 (G3 (λi=>p (xs.getD i default)) xs.length)))):=by
 refine Ctr.of (n:=19) G Tryz.func220 Z a8 Z Z Z (λw0=>?_)
 exact ws6
theorem B0 (xs:List Ifc) (f:Nat) (p:Ifc→Bool) (hl:xs.length<=1048576) (hf:∀i,i < xs.length→Ctr Tryz.prog f [.agg [.v (.int .i64 (xs.getD i default).ma),.lst 1 ((xs.getD i default).st.map Rf.n8),.lst 3 ((xs.getD i default).qu.sl.map e9),.lst 2 ((xs.getD i default).qu.wa.map f7)]] (.one (.v (.bool (p (xs.getD i default)))))):Ctr Tryz.prog 171 [.nst none 4 (xs.map (l6 169 182)),.fnc f []] (.one (.v (.bool (W3 xs.length (λi=>p (xs.getD i default)))))):=by
 refine Ctr.of (n:=9) G Tryz.func171 Z a8 Z Z Z (λw0=>?_)
 refine zcl (B6 xs f p hl hf) ?_
 refine zf1 ?_
 all_goals (rw [a3P])
theorem b0E (m:Mach) (hs:SmallM m) (hM:a0y m=true):Ctr Tryz.prog 113 [.agg [.lst 2 (m.rs.map l7),.lst 1 (m.en.map j6),.lst 1 (m.ra.map j6),.nst none 4 (m.cp.map (l6 169 182))]] (.many [.v (.bool (a7b m)),.v (.bool true)]):=by
 have hG:=(maF hM).g
 have hra:=hG.ra
 have hen:=hG.en
 have hcp:=hs.cp
 refine Ctr.of (n:=30) G Tryz.func113 Z a8 Z Z Z (λw0=>?_)
 refine j5 0 Z (λ_=>Z) (λu0=>?_)
 refine vm3 ?_
 refine zcl (Ctr.bool (V2 m hs) (hM)) ?_
 refine zwf ?_
 refine zgo ?_
 refine d9 [1,10,11] [0] (λ(i:Nat)=>[(12,.v (.int .i64 (i:Int)))]) (λ(i:Nat)=>[]) (λ(i:Nat)=>i<=8/\∀j,j < i→a8b m j=false) (λ(i:Nat)=>8 - i) 0 Z Z ?_ ?_ ?_ ?_
 ·exact D9
 ·exact u3
 ·exact trivial
 intro i hinv
 refine vm4 ?_
 refine zcd (λh1=>?_) (λh1=>?_)
 ·refine zcd (λh2=>?_) (λh2=>?_)
  ·refine zcd (λh3=>?_) (λh3=>?_)
   ·refine zgo ?_
    refine e6 (p8 Z Z Z Z (b4 (l3 ?_) (b4 (l3 ?_) f6)))
    all_goals exact c2L
   exact c1E
  refine zwf ?_
  exact c1E
 refine zcl (Ctr.argsTo (B0 m.cp 172 a1P J (λi hi=>a8q _ (hG.ok i hi).f)) (λw vs h=>c5e vs h)) ?_
 refine zgo ?_
 refine e6 (p8 Z Z Z Z (b4 (l3 ?_) (b4 (l3 ?_) f6)))
 all_goals exact c2L
theorem a97 (m:Mach) (hs:SmallM m) (hM:a0y m=true):Ctr Tryz.prog 98 [.agg [.lst 2 (m.rs.map l7),.lst 1 (m.en.map j6),.lst 1 (m.ra.map j6),.nst none 4 (m.cp.map (l6 169 182))]] (.one (.v (.bool (a7b m)))):=by
 have hG:=(maF hM).g
 have hra:=hG.ra
 have hen:=hG.en
 have hcp:=hs.cp
 refine Ctr.of (n:=47) G Tryz.func98 Z a8 Z Z Z (λw0=>?_)
 refine j5 0 Z (λ_=>Z) (λu0=>?_)
 refine vm3 ?_
 refine zgo ?_
 refine d9 [1] [0] (λ(i:Nat)=>[(3,.v (.int .i64 (i:Int)))]) (λ(i:Nat)=>[]) (λ(i:Nat)=>i<=8/\∀j,j < i→a8b m j=false) (λ(i:Nat)=>8 - i) 0 Z Z ?_ ?_ ?_ ?_
 ·exact D9
 ·exact u3
 ·exact trivial
 intro i hinv
 refine vm4 ?_
 refine zcd (λh1=>?_) (λh1=>?_)
 ·refine zcd (λh2=>?_) (λh2=>?_)
  ·refine zcd (λh3=>?_) (λh3=>?_)
   ·exact c5Z
   exact c1E
  refine zwf ?_
  exact c1E
 refine zgo ?_
 refine d9 [1] [0] (λ(k:Nat)=>[(4,.v (.int .i64 (k:Int)))]) (λ(k:Nat)=>[]) (λ(k:Nat)=>k<=m.cp.length/\∀j,j < k→a1P (m.cp.getD j default)=false) (λ(k:Nat)=>m.cp.length - k) 0 Z Z ?_ ?_ ?_ ?_
 ·exact D9
 ·exact u3
 ·exact trivial
 intro k hk
 refine vm4 ?_
 refine zcd (λh4=>?_) (λh4=>?_)
 ·have hI:=(hG.ok k J).f
  have hsn:=hI.sn
  have hpl:=a1N hI.qu
  refine n9 ?_
  refine b2F ?_
  refine vm5 ?_
  refine b66 ?_
  refine zcd (λh5=>?_) (λh5=>?_)
  ·refine zwt ?_
   exact c5Z
  refine zgo ?_
  refine a1j ?_
  refine b2F ?_
  refine zgo ?_
  refine a1j ?_
  refine c8 2 Z Z Z (ArgsOK.of Z) (V0 (m.cp.getD k default).qu hI.qu) Z Z ?_
  refine zcd (λh6=>?_) (λh6=>?_)
  ·exact c5Z
  refine zgo ?_
  refine ⟨(k+1),?_,?_,⟨⟨_,Z,by rfl⟩,Z,trivial⟩,trivial,Z,Z,Z⟩
  ·exact ⟨by omega,n7 hk.2 (c09 J J)⟩
  omega
 refine zf1 ?_
 all_goals exact c2q
theorem a8r (s:ByteArray) (hs:s.size<=9223372036854775807):Ctr Tryz.prog 71 [.v (.string s)] (.many [.v (.int .i64 (nmN s)),.v (.bool (nmK s))]):=by
 refine Ctr.of (n:=28) G Tryz.func71 Z Y Z Z Z (λw0=>?_)
 refine d3 (λK1 hK1=>?_)
 refine b8 (a7 Z (b5 Z Z (c6 Z Z) (a7 Z (b5 Z Z (c6 Z Z) (b6 (hK1 _ ?_))))))
 clear hK1 K1
 refine d3 (λK2 hK2=>?_)
 refine d3 (λK3 hK3=>?_)
 refine b8 (a7 Z (b5 Z Z (c7 Z Z) (a7 Z (b5 Z Z (o9 G Z Z Z) (a7 Z (b5 Z Z (B3 Z Z Z Z) (b6 (hK3 _ ?_))))))))
 clear hK3 K3
 refine m6 Z (λh1=>?_) (λh1=>?_)
 ·try rw [h1]
  try simp only [rfb] at h1
  refine d3 (λK4 hK4=>?_)
  refine b8 (a7 Z (b5 Z Z (c6 Z Z) (a7 Z (b5 Z Z (c6 Z Z) (b6 (hK4 _ ?_))))))
  clear hK4 K4
  refine e6 (p8 Z Z Z Z (b4 (l3 ?_) (b4 (l3 ?_) f6)))
  all_goals clear hK2 K2
  all_goals (first | (rw [(a1D (s:=s) J).1];done) | (rw [(a1D (s:=s) J).2];done) | (rw [(a3T (s:=s) J (hc1.symm.trans h2)).1];done) | (rw [(a3T (s:=s) J (hc1.symm.trans h2)).2];done) | (rw [(a6V (s:=s) J h3).1];done) | (rw [(a6V (s:=s) J h3).2];done) | (rw [(b02 (s:=s) J (hc1.symm.trans h2) h4).1];done) | (rw [(b02 (s:=s) J (hc1.symm.trans h2) h4).2];done) | (rw [(a6W (s:=s) J (hc1.symm.trans h2) h3 h4).1];done) | (rw [(a6W (s:=s) J (hc1.symm.trans h2) h3 h4).2];done))
 ·try rw [h1]
  try simp only [rfb] at h1
  have hbd:=c0f (s:=s) J
  refine s3 (hK2 _ ?_)
  clear hK2 K2
  refine d3 (λK5 hK5=>?_)
  refine b8 (a7 Z (b5 Z Z (c7 Z Z) (a7 Z ?_)))
  refine b7x 0 [] Z Z Z (a9W s J) Z RowsIn.nil Z (λ_=>Z) Z (λx1 ⟨hv1,hc1⟩=>?_)
  refine a7 Z (b5 Z Z (c7 Z Z) (a7 Z (b5 Z Z (j8 Z Z Z) (a7 Z (b5 Z Z (j8 Z Z Z) (a7 Z (b5 Z Z (c6 Z Z) (a7 Z (b5 Z Z (c6 Z Z) (b6 (hK5 _ ?_)))))))))))
  clear hK5 K5
  refine d3 (λK6 hK6=>?_)
  refine d3 (λK7 hK7=>?_)
  refine b8 (a7 Z (b5 Z Z (c7 Z Z) (a7 Z (b5 Z Z (c8n Y Z Z hv1) ?_))))
  refine a7 Z (b5 Z Z (c7 Z Z) (A3 Z Z Z (λh2=>?_) (λh2=>?_)))
  ·try rw [h2]
   try simp only [rfb] at h2
   refine l5 Z Z Z Z Z Z (l5 Z Z Z Z Z Z (l5 Z Z Z Z Z Z (a7 Z (b5 Z Z (A0 Z Z Z) (a7 Z (b5 Z Z (c7 Z Z) (l5 Z Z Z Z Z Z (l5 Z Z Z Z Z Z (l5 Z Z Z Z Z Z (l5 Z Z Z Z Z Z (a7 Z (b5 Z Z (A0 Z Z Z) (b6 (hK7 _ ?_))))))))))))))
   clear hK7 K7
   refine J9 Z ?_
   refine d3 (λK8 hK8=>?_)
   refine b8 (a7 Z (b5 Z Z (c6 Z Z) (a7 Z (b5 Z Z (c6 Z Z) (b6 (hK8 _ ?_))))))
   clear hK8 K8
   exact c5V
  ·try rw [h2]
   try simp only [rfb] at h2
   refine o8 Z Z Z (b5 Z Z (c7 Z Z) (o8 Z Z Z (b5 Z Z (f9 Z (ArgsOK.of Z) (C5 _ _ _) Z) ?_)))
   refine o8 Z Z Z (b5 Z Z (a2T Z Z) (a7 Z (b5 Z Z (x6 Z Z Z) (a7 Z (b5 Z Z (c7 Z Z) (A3 Z Z Z (λh3=>?_) (λh3=>?_)))))))
   ·try rw [h3]
    try simp only [rfb] at h3
    refine l5 Z Z Z Z Z Z (l5 Z Z Z Z Z Z (l5 Z Z Z Z Z Z (l5 Z Z Z Z Z Z (a7 Z (b5 Z Z (A0 Z Z Z) (b6 (hK7 _ ?_)))))))
    clear hK7 K7
    refine J9 Z ?_
    refine d3 (λK9 hK9=>?_)
    refine b8 (a7 Z (b5 Z Z (c6 Z Z) (a7 Z (b5 Z Z (c6 Z Z) (b6 (hK9 _ ?_))))))
    clear hK9 K9
    exact c5V
   ·try rw [h3]
    try simp only [rfb] at h3
    refine o8 Z Z Z (b5 Z Z (c7 Z Z) (o8 Z Z Z (b5 Z Z (f9 Z (ArgsOK.of Z) (x9 _ J J) Z) (o8 Z Z Z (b5 Z Z (c7 Z Z) (o8 Z Z Z (b5 Z Z (u4 Z Z Z Z) (a7 Z (b5 Z Z (x6 Z Z Z) (b6 (hK7 _ ?_)))))))))))
    clear hK7 K7
    refine m6 Z (λh4=>?_) (λh4=>?_)
    ·try rw [h4]
     try simp only [rfb] at h4
     refine d3 (λK10 hK10=>?_)
     refine b8 (a7 Z (b5 Z Z (c6 Z Z) (a7 Z (b5 Z Z (c6 Z Z) (b6 (hK10 _ ?_))))))
     clear hK10 K10
     exact c5V
    ·try rw [h4]
     try simp only [rfb] at h4
     refine s3 (hK6 _ ?_)
     clear hK6 K6
     refine d3 (λK11 hK11=>?_)
     refine b8 (a7 Z (b5 Z Z (c7 Z Z) (a7 Z (b5 Z Z (c6 Z Z) (a7 Z (b5 Z Z (c6 Z Z) (b6 (hK11 _ ?_))))))))
     clear hK11 K11
     refine e6 (p8 Z Z Z Z (b4 (l3 ?_) (b4 (l3 ?_) f6)))
     all_goals (first | (rw [(a1D (s:=s) J).1];done) | (rw [(a1D (s:=s) J).2];done) | (rw [(a3T (s:=s) J (hc1.symm.trans h2)).1];done) | (rw [(a3T (s:=s) J (hc1.symm.trans h2)).2];done) | (rw [(a6V (s:=s) J h3).1];done) | (rw [(a6V (s:=s) J h3).2];done) | (rw [(b02 (s:=s) J (hc1.symm.trans h2) h4).1];done) | (rw [(b02 (s:=s) J (hc1.symm.trans h2) h4).2];done) | (rw [(a6W (s:=s) J (hc1.symm.trans h2) h3 h4).1];done) | (rw [(a6W (s:=s) J (hc1.symm.trans h2) h3 h4).2];done))
end Go.Proofs.YtpfhomblkgmkkaaGreatDoor
