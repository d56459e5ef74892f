/- Texts merged into one: M15, W2, M16, M17, Q4, P1. -/
import Derived.Test.YtpfhomblkgmkkaaGreatDoorPFnExactExecuteCommandC
set_option maxHeartbeats 4000000
set_option linter.unusedSimpArgs false
set_option linter.unusedVariables false
set_option maxRecDepth 20000
namespace Go.Proofs.YtpfhomblkgmkkaaGreatDoor
open Go Go.Rf
theorem a95 (x:Ifc) (hn:x.st.length<=1048576) (hl:x.qu.sl.length<=1048576) (hw:x.qu.wa.length<=1048576):Ctr Tryz.prog 93 [.agg [.v (.int .i64 x.ma),.lst 1 (x.st.map Rf.n7),.lst 3 (x.qu.sl.map e9),.lst 2 (x.qu.wa.map e7)]] (.one (.v (.bool (a3o x)))):=by
 refine Ctr.of (n:=74) G Tryz.func93 Z a8 Z Z Z (λw0=>?_)
 refine j5 0 Z (λ_=>Z) (λu0=>?_)
 refine n9 ?_
 refine b0y ?_
 refine zgn ?_
 refine n9 ?_
 refine a45 ?_
 refine b5 Z Z (f7 Z (ArgsOK.of Z) (X7 x.ma 0 16) Z) ?_
 refine a3v ?_
 refine A1 Z Z Z (λh1=>?_) (λh1=>?_)
 ·try rw [h1]
  try simp only [rfb] at h1
  refine zgn ?_
  refine L8 Z ?_
  exact b9B
 try rw [h1]
 try simp only [rfb] at h1
 refine a3v ?_
 refine a0I ?_
 refine b5 Z Z (f7 Z (ArgsOK.of Z) (b0E x.qu hl hw) Z) ?_
 refine zgn ?_
 refine j9 Z (λh2=>?_) (λh2=>?_)
 ·try rw [h2]
  try simp only [rfb] at h2
  exact b9B
 try rw [h2]
 try simp only [rfb] at h2
 have hq:=a9J.mp h2
 have hSl:=hq.1.sl
 have hl4:=hSl.len
 refine zgn ?_
 refine a2G ?_
 refine vm5 ?_
 refine c8 2 Z Z Z (ArgsOK.of Z) (a8r x.qu.sl hSl) Z Z ?_
 refine C8 ?_
 refine r4 (e6 [1,3] [0,1] (λ(i:Nat)=>[(4,.v (.int .i64 (i:Int)))]) (λ(i:Nat)=>[]) (λ(i:Nat)=>i<=x.st.length/\StP x.qu.sl x.st i) (λ(i:Nat)=>x.st.length - i) 0 Z Z ?_ ?_ ?_ ?_)
 ·exact ⟨Nat.zero_le _,c6Q⟩
 ·exact u6
 ·exact trivial
 intro i hinv
 have hti:0 < i→((i:Int) - 1).toNat=i - 1:=λ_=>J
 refine vm4 ?_
 refine zgn ?_
 refine j9 Z (λh3=>?_) (λh3=>?_)
 ·try rw [h3]
  try simp only [rfb] at h3
  refine a2H ?_
  refine n9 ?_
  refine b9z ?_
  iterate 6 refine zst ?_
  refine j6 Z (s1 Z Z (f7 Z c2R (a2v (a69 x.qu.sl 4) _ (by have:=@a6i x.qu.sl 4;have:=@X1 x.qu.sl 4;omega)) Z) ?_)
  refine a3v ?_
  refine b1P Z Z Z (λh4=>?_) (λh4=>?_)
  ·try rw [h4]
   try simp only [rfb] at h4
   refine zgn ?_
   refine L8 Z ?_
   exact b9B
  try rw [h4]
  try simp only [rfb] at h4
  have hm:=(a6h 4).mp (a9M.mp h4)
  refine b36 ?_
  refine c5Q ?_
  iterate 5 refine zst ?_
  refine b0A ?_
  refine s1 Z Z (f7 Z c2R (a2v (x.st.take i) _ (by rw [List.length_take];omega)) Z) ?_
  refine zgn ?_
  refine j9 Z (λh5=>?_) (λh5=>?_)
  ·try rw [h5]
   try simp only [rfb] at h5
   exact b9B
  try rw [h5]
  try simp only [rfb] at h5
  refine zgn ?_
  refine b9z ?_
  refine b36 ?_
  refine b1P Z Z Z (λh6=>?_) (λh6=>?_)
  ·try rw [h6]
   try simp only [rfb] at h6
   have hl1:=b4N (hinv.2.inn (i - 1) J) hl4
   have hl2:=b4N hm hl4
   iterate 5 refine zst ?_
   refine b0A ?_
   refine c1k ?_
   refine b0A ?_
   refine s1 Z Z (f7 Z (ArgsOK.of Z) (Y6 x.qu _ hl (by rw [hti J];exact hl1)) Z) ?_
   iterate 7 refine zst ?_
   refine b0A ?_
   refine s1 Z Z (f7 Z (ArgsOK.of Z) (Y6 x.qu _ hl hl2) Z) ?_
   refine zgn ?_
   refine j9 Z (λh7=>?_) (λh7=>?_)
   ·try rw [h7]
    try simp only [rfb] at h7
    exact b9B
   try rw [h7]
   try simp only [rfb] at h7
   refine zgn ?_
   refine U7 ?_
   refine ⟨(i+1),?_,?_,⟨⟨_,Z,by rfl⟩,Z,trivial⟩,trivial,Z,Z,Z⟩
   ·exact c3l
   omega
  try rw [h6]
  try simp only [rfb] at h6
  refine zgn ?_
  refine K0 Z ?_
  refine zgn ?_
  refine U7 ?_
  refine ⟨(i+1),?_,?_,⟨⟨_,Z,by rfl⟩,Z,trivial⟩,trivial,Z,Z,Z⟩
  ·exact c3l
  omega
 try rw [h3]
 try simp only [rfb] at h3
 refine zgn ?_
 refine a1P ?_
 all_goals exact c2m
theorem a8s (rs:List Route) (q:Que) (k:Nat) (hr8:rs.length=8) (hF:QF q) (hk:k<=8):Ctr Tryz.prog 94 [.lst 2 (rs.map m4),.agg [.lst 3 (q.sl.map e9),.lst 2 (q.wa.map e7)],.v (.int .i64 (k:Int))] (.one (.v (.bool (okRq rs q k)))):=by
 have hl4:=hF.sl.len
 have hwn:=hF.wn8
 refine Ctr.of (n:=83) G Tryz.func94 Z a8 Z Z Z (λw0=>?_)
 refine j5 1 Z (λ_=>Z) (λu1=>?_)
 refine vm3 ?_
 refine zgo ?_
 refine e6 [0,2,4] [0] (λ(i:Nat)=>[(7,.v (.int .i64 (i:Int)))]) (λ(i:Nat)=>[]) (λ(i:Nat)=>i<=4/\∀t,t < i→rtS rs k (q.sl.getD t default)=true) (λ(i:Nat)=>4 - i) 0 Z Z ?_ ?_ ?_ ?_
 ·exact E5
 ·exact u6
 ·exact trivial
 intro i hi
 refine vm4 ?_
 refine zcd (λh1=>?_) (λh1=>?_)
 ·refine zgo ?_
  refine b0x ?_
  refine zgd ?_
  refine zcd (λh2=>?_) (λh2=>?_)
  ·refine zwt ?_
   exact b9D
  have hb0:=hF.sl.ok i J
  refine zcd (λh3=>?_) (λh3=>?_)
  ·have hb:=(hF.sl.ok i J h3).2.1
   refine zcd (λh4=>?_) (λh4=>?_)
   ·refine zwt ?_
    exact b9D
   refine zcd (λh5=>?_) (λh5=>?_)
   ·exact b9D
   exact c29
  refine zwf ?_
  exact c29
 refine zgo ?_
 refine e6 [0,2,4] [0] (λ(j:Nat)=>[(9,.v (.int .i64 (j:Int)))]) (λ(j:Nat)=>[]) (λ(j:Nat)=>j<=q.wa.length/\∀t,t < j→rtW rs k (q.wa.getD t default)=true) (λ(j:Nat)=>q.wa.length - j) 0 Z Z ?_ ?_ ?_ ?_
 ·exact E5
 ·exact u6
 ·exact trivial
 intro j hj
 refine vm4 ?_
 refine zcd (λh6=>?_) (λh6=>?_)
 ·have hbw:=(hF.wa _ (n6.mpr ⟨j,by omega,Z⟩)).1
  refine zgo ?_
  refine b0x ?_
  refine zgd ?_
  refine zcd (λh7=>?_) (λh7=>?_)
  ·refine zwt ?_
   exact b9D
  refine zcd (λh8=>?_) (λh8=>?_)
  ·exact b9D
  refine zgo ?_
  refine ⟨(j+1),?_,?_,⟨⟨_,Z,by rfl⟩,Z,trivial⟩,trivial,Z,Z,Z⟩
  ·exact ⟨by omega,o9 hj.2 (a38.mpr ⟨by assumption,by assumption⟩)⟩
  omega
 refine zf1 ?_
 all_goals exact c2n
theorem a96 (x y:Route):Ctr Tryz.prog 50 [.v (a9z x),.v (a9z y)] (.one (.v (.bool (b4x x y)))):=by
 refine Ctr.of (n:=15) G Tryz.func50 Z a8 Z Z Z (λw0=>?_)
 refine a2r ?_
 refine zcd (λh1=>?_) (λh1=>?_)
 ·exact b9M
 refine zcd (λh2=>?_) (λh2=>?_)
 ·exact b9M
 exact b9M
theorem a8t (xs ys:List Route) (hn:xs.length<=9223372036854775807):Ctr Tryz.prog 24 [.lst 2 (xs.map m4),.lst 2 (ys.map m4)] (.one (.v (.bool (decide (xs=ys))))):=by
 refine Ctr.of (n:=27) G Tryz.func24 Z a8 Z Z Z (λw0=>?_)
 refine zcd (λh1=>?_) (λh1=>?_)
 ·exact c3a
 refine zgo ?_
 refine e6 [0,1] [] (λ(i:Nat)=>[(5,.v (.int .i64 (i:Int)))]) (λ(i:Nat)=>[]) (λ(i:Nat)=>i<=xs.length/\∀j,j < i→xs.getD j default=ys.getD j default) (λ(i:Nat)=>xs.length - i) 0 Z Z ?_ ?_ ?_ ?_
 ·exact E5
 ·exact u6
 ·exact trivial
 intro i hinv
 refine vm4 ?_
 refine zcd (λh2=>?_) (λh2=>?_)
 ·refine zgd ?_
  refine zcl (a96 _ _) ?_
  refine zcd (λh3=>?_) (λh3=>?_)
  ·exact c3a
  refine zgo ?_
  refine ⟨(i+1),?_,?_,⟨⟨_,Z,by rfl⟩,Z,trivial⟩,trivial,Z,Z,Z⟩
  ·exact ⟨by omega,o9 hinv.2 (by first | exact b3v.mp i6 | exact b3v.mp (by simp_all))⟩
  omega
 refine zf1 ?_
 all_goals exact c2w
theorem a3B (xs ys:List Bool) (hn:xs.length<=9223372036854775807):Ctr Tryz.prog 77 [.lst 1 (xs.map j4),.lst 1 (ys.map j4)] (.one (.v (.bool (decide (xs=ys))))):=by
 refine Ctr.of (n:=26) G Tryz.func77 Z a8 Z Z Z (λw0=>?_)
 refine zcd (λh1=>?_) (λh1=>?_)
 ·exact c1B
 refine zgo ?_
 refine e6 [0,1] [] (λ(i:Nat)=>[(5,.v (.int .i64 (i:Int)))]) (λ(i:Nat)=>[]) (λ(i:Nat)=>i<=xs.length/\∀j,j < i→xs.getD j default=ys.getD j default) (λ(i:Nat)=>xs.length - i) 0 Z Z ?_ ?_ ?_ ?_
 ·exact E5
 ·exact u6
 ·exact trivial
 intro i hinv
 refine vm4 ?_
 refine zcd (λh2=>?_) (λh2=>?_)
 ·refine zgd ?_
  refine zgo ?_
  refine j6 Z (s1 Z Z (c1L (G 4 _ Z).1 Z Z Z) ?_)
  refine zcd (λh3=>?_) (λh3=>?_)
  ·exact c1B
  exact b37
 refine zf1 ?_
 all_goals exact c5O
theorem b0I (xs ys:List Int) (hn:xs.length<=9223372036854775807):Ctr Tryz.prog 181 [.lst 1 (xs.map Rf.n7),.lst 1 (ys.map Rf.n7)] (.one (.v (.bool (decide (xs=ys))))):=by
 refine Ctr.of (n:=26) G Tryz.func181 Z a8 Z Z Z (λw0=>?_)
 refine zcd (λh1=>?_) (λh1=>?_)
 ·exact c1B
 refine zgo ?_
 refine e6 [0,1] [] (λ(i:Nat)=>[(5,.v (.int .i64 (i:Int)))]) (λ(i:Nat)=>[]) (λ(i:Nat)=>i<=xs.length/\∀j,j < i→xs.getD j default=ys.getD j default) (λ(i:Nat)=>xs.length - i) 0 Z Z ?_ ?_ ?_ ?_
 ·exact E5
 ·exact u6
 ·exact trivial
 intro i hinv
 refine vm4 ?_
 refine zcd (λh2=>?_) (λh2=>?_)
 ·refine zgd ?_
  refine zcd (λh3=>?_) (λh3=>?_)
  ·exact c1B
  exact b37
 refine zf1 ?_
 all_goals exact c5O
theorem a5a (x:Route) (c:Int) (hc:1<=c/\c<=2):Ctr Tryz.prog 153 [.v (a9z x),.ept [.int .i64 c]] (.one (.v (.bool (!a9A c x)))):=by
 refine Ctr.of (n:=16) G Tryz.func153 Z a8 Z Z Z (λw0=>?_)
 refine vm3 ?_
 refine zcl (R6 _) ?_
 refine zcd (λh1=>?_) (λh1=>?_)
 ·refine zf1 ?_
  all_goals (first | rfl | (simp_all [a9A];done))
 refine zcl (C5 _ _ _) ?_
 refine zf1 ?_
 all_goals (first | rfl | (simp_all [a9A];done))
theorem F7 (xs:List Route) (f:Nat) (c:List Value) (p:Route→Bool) (hl:xs.length<=1048576) (hf:∀i,i < xs.length→Ctr Tryz.prog f [.v (a9z (xs.getD i default)),.ept c] (.one (.v (.bool (p (xs.getD i default)))))):Ctr Tryz.prog 200 [.lst 2 (xs.map m4),.fnc f [.ept c]] (.one (.v (.int .i64 (G6 (λi=>p (xs.getD i default)) xs.length)))):=by
 refine Ctr.of (n:=19) G Tryz.func200 Z a8 Z Z Z (λw0=>?_)
 exact ws6
theorem D8 (xs:List Route) (f:Nat) (c:List Value) (p:Route→Bool) (hl:xs.length<=1048576) (hf:∀i,i < xs.length→Ctr Tryz.prog f [.v (a9z (xs.getD i default)),.ept c] (.one (.v (.bool (p (xs.getD i default)))))):Ctr Tryz.prog 152 [.lst 2 (xs.map m4),.fnc f [.ept c]] (.one (.v (.bool (V6 xs.length (λi=>p (xs.getD i default)))))):=by
 refine Ctr.of (n:=9) G Tryz.func152 Z a8 Z Z Z (λw0=>?_)
 refine zcl (F7 xs f c p hl hf) ?_
 refine zf1 ?_
 all_goals (rw [a3R])
theorem a7n (rs:List Route) (c:Int) (hn:rs.length<=9223372036854775807):Ctr Tryz.prog 104 [.lst 2 (rs.map m4),.v (.int .i64 c)] (.one (.v (.bool (okRts rs c)))):=by
 refine Ctr.of (n:=18) G Tryz.func104 Z a8 Z Z Z (λw0=>?_)
 refine vm3 ?_
 refine zcl (C5 _ _ _) ?_
 refine zcd (λh1=>?_) (λh1=>?_)
 ·refine zcd (λh2=>?_) (λh2=>?_)
  ·refine zgo ?_
   refine a0I ?_
   refine b5 Z Z (a9d Z Z) ?_
   refine zcl (D8 rs 153 [.int .i64 c] (λx=>!a9A c x) J (λk hk=>a5a _ _ (s2.mp i6))) ?_
   exact c55
  exact c55
 exact c55
theorem a7o (rs:List Route) (c:Int) (hn:rs.length<=1048576) (hc:0<=c/\c<=1048576):Ctr Tryz.prog 92 [.lst 2 (rs.map m4),.v (.int .i64 c)] (.one (.v (.bool (okRts rs c)))):=by
 refine Ctr.of (n:=37) G Tryz.func92 Z a8 Z Z Z (λw0=>?_)
 refine zgo ?_
 refine e6 [0,1] [] (λ(i:Nat)=>[(5,.v (.int .i64 (i:Int)))]) (λ(i:Nat)=>[]) (λ(i:Nat)=>i<=rs.length/\∀j,j < i→a9A c (rs.getD j default)=true) (λ(i:Nat)=>rs.length - i) 0 Z Z ?_ ?_ ?_ ?_
 ·exact E5
 ·exact u6
 ·exact trivial
 intro i hinv
 refine vm4 ?_
 refine zcd (λh1=>?_) (λh1=>?_)
 ·refine zcl (V2 _) ?_
  refine zcd (λh2=>?_) (λh2=>?_)
  ·refine zwt ?_
   exact c54
  refine b2L ?_
  refine zcd (λh3=>?_) (λh3=>?_)
  ·exact c54
  refine zgo ?_
  refine ⟨(i+1),?_,?_,⟨⟨_,Z,by rfl⟩,Z,trivial⟩,trivial,Z,Z,Z⟩
  ·exact ⟨by omega,o9 hinv.2 (by simp_all [a9A])⟩
  omega
 refine b2L ?_
 refine zcd (λh4=>?_) (λh4=>?_)
 ·exact c54
 refine zf1 ?_
 all_goals exact c2r
theorem a3C (rs:List Route) (c:Int) (hn:rs.length<=1048576) (hc:m5 c 1 2=false):Ctr Tryz.prog 92 [.lst 2 (rs.map m4),.v (.int .i64 c)] (.one (.v (.bool (false)))):=by
 refine Ctr.of (n:=37) G Tryz.func92 Z a8 Z Z Z (λw0=>?_)
 refine C8 ?_
 refine r4 (e6 [0,1] [] (λ(i:Nat)=>[(5,.v (.int .i64 (i:Int)))]) (λ(i:Nat)=>[]) (λ(i:Nat)=>i<=rs.length) (λ(i:Nat)=>rs.length - i) 0 Z Z ?_ ?_ ?_ ?_)
 ·exact B2
 ·exact u6
 ·exact trivial
 intro i hinv
 refine vm4 ?_
 refine zgn ?_
 refine j9 Z (λh1=>?_) (λh1=>?_)
 ·try rw [h1]
  try simp only [rfb] at h1
  refine a2H ?_
  refine n9 (b8 ?_)
  iterate 5 refine zst ?_
  refine vm5 ?_
  refine b5 Z Z (f7 Z (ArgsOK.of Z) (V2 _) Z) ?_
  refine a3v ?_
  refine A1 Z Z Z (λh2=>?_) (λh2=>?_)
  ·try rw [h2]
   try simp only [rfb] at h2
   refine zgn ?_
   refine L8 Z ?_
   exact b9L
  try rw [h2]
  try simp only [rfb] at h2
  iterate 6 refine zst ?_
  refine a0I ?_
  first | refine b5 Z Z (v7 Z Z Z Z J J) ?_ | refine b5 Z Z (A2 Z Z Z Z) ?_
  refine a0I ?_
  refine b5 Z Z (f7 Z (ArgsOK.of Z) (X7 _ _ _) Z) ?_
  refine zgn ?_
  refine j9 Z (λh3=>?_) (λh3=>?_)
  ·try rw [h3]
   try simp only [rfb] at h3
   exact b9L
  try rw [h3]
  try simp only [rfb] at h3
  refine zgn ?_
  refine U7 ?_
  refine ⟨(i+1),?_,?_,⟨⟨_,Z,by rfl⟩,Z,trivial⟩,trivial,Z,Z,Z⟩
  ·omega
  omega
 try rw [h1]
 try simp only [rfb] at h1
 refine zgn ?_
 refine n9 (b8 ?_)
 refine zst ?_
 refine vm5 ?_
 refine b5 Z Z (f7 Z (ArgsOK.of Z) (X7 _ _ _) Z) ?_
 refine zst ?_
 refine A1 Z Z Z (λh4=>?_) (λh4=>?_)
 ·try rw [h4]
  try simp only [rfb] at h4
  exact b9L
 try rw [h4]
 try simp only [rfb] at h4
 refine a1P ?_
 all_goals (first | rfl | (simp_all;done))
theorem a3D (rs:List Route) (c:Int) (hn:rs.length<=1048576):Ctr Tryz.prog 92 [.lst 2 (rs.map m4),.v (.int .i64 c)] (.one (.v (.bool (okRts rs c)))):=by
 cases h:m5 c 1 2
 ·have e:okRts rs c=false:=by simp only [okRts,h,Bool.false_and]
  rw [e];exact a3C rs c hn h
 exact a7o rs c hn (by have:=s2.mp h;omega)
theorem b0J (x y:Slot):Ctr Tryz.prog 290 [.v (a2x x),.v (a2x y)] (.one (.v (.bool (b4A x y)))):=by
 refine Ctr.of (n:=20) G Tryz.func290 Z a8 Z Z Z (λw0=>?_)
 refine a2r ?_
 refine zcd (λh1=>?_) (λh1=>?_)
 ·exact b6a
 refine zcd (λh2=>?_) (λh2=>?_)
 ·exact b6a
 refine zcd (λh3=>?_) (λh3=>?_)
 ·exact b6a
 exact b6a
theorem a97 (xs ys:List Slot) (hn:xs.length<=9223372036854775807):Ctr Tryz.prog 233 [.lst 3 (xs.map e9),.lst 3 (ys.map e9)] (.one (.v (.bool (decide (xs=ys))))):=by
 refine Ctr.of (n:=27) G Tryz.func233 Z a8 Z Z Z (λw0=>?_)
 refine zcd (λh1=>?_) (λh1=>?_)
 ·exact c3b
 refine zgo ?_
 refine e6 [0,1] [] (λ(i:Nat)=>[(5,.v (.int .i64 (i:Int)))]) (λ(i:Nat)=>[]) (λ(i:Nat)=>i<=xs.length/\∀j,j < i→xs.getD j default=ys.getD j default) (λ(i:Nat)=>xs.length - i) 0 Z Z ?_ ?_ ?_ ?_
 ·exact E5
 ·exact u6
 ·exact trivial
 intro i hinv
 refine vm4 ?_
 refine zcd (λh2=>?_) (λh2=>?_)
 ·refine zgd ?_
  refine zcl (b0J _ _) ?_
  refine zcd (λh3=>?_) (λh3=>?_)
  ·exact c3b
  refine zgo ?_
  refine ⟨(i+1),?_,?_,⟨⟨_,Z,by rfl⟩,Z,trivial⟩,trivial,Z,Z,Z⟩
  ·exact ⟨by omega,o9 hinv.2 (by first | exact b3w.mp i6 | exact b3w.mp (by simp_all))⟩
  omega
 refine zf1 ?_
 all_goals exact c2x
theorem a8u (x y:Wtr):Ctr Tryz.prog 291 [.v (a0T x),.v (a0T y)] (.one (.v (.bool (b4B x y)))):=by
 refine Ctr.of (n:=15) G Tryz.func291 Z a8 Z Z Z (λw0=>?_)
 refine a2r ?_
 refine zcd (λh1=>?_) (λh1=>?_)
 ·exact b9N
 refine zcd (λh2=>?_) (λh2=>?_)
 ·exact b9N
 exact b9N
theorem a7p (xs ys:List Wtr) (hn:xs.length<=9223372036854775807):Ctr Tryz.prog 234 [.lst 2 (xs.map e7),.lst 2 (ys.map e7)] (.one (.v (.bool (decide (xs=ys))))):=by
 refine Ctr.of (n:=27) G Tryz.func234 Z a8 Z Z Z (λw0=>?_)
 refine zcd (λh1=>?_) (λh1=>?_)
 ·exact c3c
 refine zgo ?_
 refine e6 [0,1] [] (λ(i:Nat)=>[(5,.v (.int .i64 (i:Int)))]) (λ(i:Nat)=>[]) (λ(i:Nat)=>i<=xs.length/\∀j,j < i→xs.getD j default=ys.getD j default) (λ(i:Nat)=>xs.length - i) 0 Z Z ?_ ?_ ?_ ?_
 ·exact E5
 ·exact u6
 ·exact trivial
 intro i hinv
 refine vm4 ?_
 refine zcd (λh2=>?_) (λh2=>?_)
 ·refine zgd ?_
  refine zcl (a8u _ _) ?_
  refine zcd (λh3=>?_) (λh3=>?_)
  ·exact c3c
  refine zgo ?_
  refine ⟨(i+1),?_,?_,⟨⟨_,Z,by rfl⟩,Z,trivial⟩,trivial,Z,Z,Z⟩
  ·exact ⟨by omega,o9 hinv.2 (by first | exact b3x.mp i6 | exact b3x.mp (by simp_all))⟩
  omega
 refine zf1 ?_
 all_goals exact c2y
theorem a98 (x y:Que) (hl:x.sl.length<=9223372036854775807) (hw:x.wa.length<=9223372036854775807):Ctr Tryz.prog 182 [.agg [.lst 3 (x.sl.map e9),.lst 2 (x.wa.map e7)],.agg [.lst 3 (y.sl.map e9),.lst 2 (y.wa.map e7)]] (.one (.v (.bool (b8c x y)))):=by
 refine Ctr.of (n:=17) G Tryz.func182 Z a8 Z Z Z (λw0=>?_)
 refine j5 0 Z (λ_=>Z) (λu0=>?_)
 refine j5 1 Z (λ_=>Z) (λu1=>?_)
 refine a2r ?_
 refine zcl (a97 x.sl y.sl hl) ?_
 refine zcd (λh1=>?_) (λh1=>?_)
 ·exact b9P
 refine zcl (a7p x.wa y.wa hw) ?_
 refine zcd (λh2=>?_) (λh2=>?_)
 ·exact b9P
 exact b9P
theorem a5b (x y:Ifc) (hb:BigI x):Ctr Tryz.prog 123 [.agg [.v (.int .i64 x.ma),.lst 1 (x.st.map Rf.n7),.lst 3 (x.qu.sl.map e9),.lst 2 (x.qu.wa.map e7)],.agg [.v (.int .i64 y.ma),.lst 1 (y.st.map Rf.n7),.lst 3 (y.qu.sl.map e9),.lst 2 (y.qu.wa.map e7)]] (.one (.v (.bool (c0H x y)))):=by
 refine Ctr.of (n:=22) G Tryz.func123 Z a8 Z Z Z (λw0=>?_)
 refine j5 0 Z (λ_=>Z) (λu0=>?_)
 refine j5 1 Z (λ_=>Z) (λu1=>?_)
 refine a2r ?_
 refine zcd (λh1=>?_) (λh1=>?_)
 ·exact b6c
 refine zcl (b0I x.st y.st hb.st) ?_
 refine zcd (λh2=>?_) (λh2=>?_)
 ·exact b6c
 refine zcl (a98 x.qu y.qu hb.sl hb.wa) ?_
 refine zcd (λh3=>?_) (λh3=>?_)
 ·exact b6c
 exact b6c
theorem a4h (xs ys:List Ifc) (hn:xs.length<=9223372036854775807) (hz:∀i,i < xs.length→BigI (xs.getD i default)):Ctr Tryz.prog 78 [.nst none 4 (xs.map (l8 169 182)),.nst none 4 (ys.map (l8 169 182))] (.one (.v (.bool (decide (xs=ys))))):=by
 refine Ctr.of (n:=27) G Tryz.func78 Z a8 Z Z Z (λw0=>?_)
 refine zcd (λh1=>?_) (λh1=>?_)
 ·exact c3d
 refine zgo ?_
 refine e6 [0,1] [] (λ(i:Nat)=>[(5,.v (.int .i64 (i:Int)))]) (λ(i:Nat)=>[]) (λ(i:Nat)=>i<=xs.length/\∀j,j < i→xs.getD j default=ys.getD j default) (λ(i:Nat)=>xs.length - i) 0 Z Z ?_ ?_ ?_ ?_
 ·exact E5
 ·exact u6
 ·exact trivial
 intro i hinv
 refine vm4 ?_
 refine zcd (λh2=>?_) (λh2=>?_)
 ·refine zgd ?_
  refine zcl (a5b (xs.getD i default) (ys.getD i default) (hz i J)) ?_
  refine zcd (λh3=>?_) (λh3=>?_)
  ·exact c3d
  refine zgo ?_
  refine ⟨(i+1),?_,?_,⟨⟨_,Z,by rfl⟩,Z,trivial⟩,trivial,Z,Z,Z⟩
  ·exact ⟨by omega,o9 hinv.2 (by first | exact b3F.mp i6 | (simp_all;done))⟩
  omega
 refine zf1 ?_
 all_goals exact c2z
theorem a7q (x y:Mach) (hb:BigM x):Ctr Tryz.prog 37 [.agg [.lst 2 (x.rs.map m4),.lst 1 (x.en.map j4),.lst 1 (x.ra.map j4),.nst none 4 (x.cp.map (l8 169 182))],.agg [.lst 2 (y.rs.map m4),.lst 1 (y.en.map j4),.lst 1 (y.ra.map j4),.nst none 4 (y.cp.map (l8 169 182))]] (.one (.v (.bool (b8e x y)))):=by
 refine Ctr.of (n:=29) G Tryz.func37 Z a8 Z Z Z (λw0=>?_)
 refine j5 0 Z (λ_=>Z) (λu0=>?_)
 refine j5 1 Z (λ_=>Z) (λu1=>?_)
 refine a2r ?_
 refine zcl (a8t x.rs y.rs hb.rs) ?_
 refine zcd (λh1=>?_) (λh1=>?_)
 ·exact b39
 refine zcl (a3B x.en y.en hb.en) ?_
 refine zcd (λh2=>?_) (λh2=>?_)
 ·exact b39
 refine zcl (a3B x.ra y.ra hb.ra) ?_
 refine zcd (λh3=>?_) (λh3=>?_)
 ·exact b39
 refine zcl (a4h x.cp y.cp hb.cp hb.all) ?_
 refine zcd (λh4=>?_) (λh4=>?_)
 ·exact b39
 exact b39
theorem s9:Z9 Tryz.prog 83 [.int .i64,.int .i64]=true:=by kernel_rfl
theorem I0 (wa:List Wtr) (hw:wa.length<=1048576):Ctr Tryz.prog 162 [.lst 2 (wa.map e7)] (.one (.fr 182 2 (wa.map e7))):=by
 refine Ctr.of (n:=8) G Tryz.func162 Z a8 Z Z Z (λw0=>?_)
 refine zgo ?_
 refine a7 Z (c0o G Z Z Z Z Z (λbn hbn=>?_))
 refine zcd (λh1=>?_) (λh1=>?_)
 ·refine zgo ?_
  refine f6 (D0 Z (M8 ?_))
  exact c3v
 refine b34 ?_
 refine vm8 ?_
 refine zfo ?_
 exact c3v
theorem a4i (w:Wtr) (rs:List Route) (k:Nat) (hr8:rs.length=8) (hw:0<=w.q/\w.q<=7):Ctr Tryz.prog 165 [.v (a0T w),.eptN [.lst 2 (rs.map m4)],.ept [.int .i64 (k:Int)]] (.one (.v (.bool (!rtW rs k w)))):=by
 refine Ctr.of (n:=15) G Tryz.func165 Z a8 Z Z Z (λw0=>?_)
 refine vm3 ?_
 refine zgd ?_
 refine j6 Z (s1 Z Z (D9 G Z Z Z Z) ?_)
 refine zgo ?_
 refine j6 Z (s1 Z Z (c1T [.int .i64,.int .i64] Z Z Z Z Z Z Z (.inl Z) (.inl Z) s9 ⟨_,_,Z,⟨_,Z⟩,_,_,Z,⟨_,Z⟩,Z⟩ ⟨_,_,Z,⟨_,Z⟩,_,_,Z,⟨_,Z⟩,Z⟩) ?_)
 refine zf1 ?_
 all_goals ((refine congrArg Value.bool ?_;rw [Bool.eq_iff_iff,Bool.not_eq_true',Bool.not_eq_true',← Bool.not_eq_true,← Bool.not_eq_true (b:=rtW rs k w),ec2,a38];exact not_congr And.comm))
theorem D7 (xs:List Wtr) (f:Nat) (rs:List Route) (c:List Value) (p:Wtr→Bool) (hl:xs.length<=1048576) (hf:∀i,i < xs.length→Ctr Tryz.prog f [.v (a0T (xs.getD i default)),.eptN [.lst 2 (rs.map m4)],.ept c] (.one (.v (.bool (p (xs.getD i default)))))):Ctr Tryz.prog 207 [.lst 2 (xs.map e7),.fnc f [.eptN [.lst 2 (rs.map m4)],.ept c]] (.one (.v (.int .i64 (G6 (λi=>p (xs.getD i default)) xs.length)))):=by
 exact c3Y
theorem C9 (xs:List Wtr) (f:Nat) (rs:List Route) (c:List Value) (p:Wtr→Bool) (hl:xs.length<=1048576) (hf:∀i,i < xs.length→Ctr Tryz.prog f [.v (a0T (xs.getD i default)),.eptN [.lst 2 (rs.map m4)],.ept c] (.one (.v (.bool (p (xs.getD i default)))))):Ctr Tryz.prog 164 [.lst 2 (xs.map e7),.fnc f [.eptN [.lst 2 (rs.map m4)],.ept c]] (.one (.v (.bool (V6 xs.length (λi=>p (xs.getD i default)))))):=by
 refine Ctr.of (n:=9) G Tryz.func164 Z a8 Z Z Z (λw0=>?_)
 refine zcl (D7 xs f rs c p hl hf) ?_
 refine zf1 ?_
 all_goals (rw [a3R])
theorem a6C (rs:List Route) (k:Nat) (x:Ifc) (hr8:rs.length=8) (hF:IfF x) (hk:k<=8):Ctr Tryz.prog 106 [.lst 2 (rs.map m4),.v (.int .i64 (k:Int)),.agg [.v (.int .i64 x.ma),.lst 1 (x.st.map Rf.n7),.lst 3 (x.qu.sl.map e9),.lst 2 (x.qu.wa.map e7)]] (.one (.v (.bool (okRq rs x.qu k)))):=by
 have hl4:=hF.qu.sl.len
 have hwn:=hF.qu.wn8
 refine Ctr.of (n:=38) G Tryz.func106 Z a8 Z Z Z (λw0=>?_)
 refine c4d (t:=0) Z (λz0=>?_)
 refine j5 2 Z (λ_=>Z) (λu2=>?_)
 refine a2r ?_
 refine vm5 ?_
 refine A3 3 Z Z Z Z Z Z Z ?_
 refine p8 ?_
 refine c8 4 Z Z Z (ArgsOK.of Z) (I0 x.qu.wa J) Z Z ?_
 refine zgo ?_
 refine e6 [3,4,16,17] [0,1] (λ(i:Nat)=>[(7,.own 3),(18,.v (.int .i64 (i:Int)))]) (λ(i:Nat)=>[(3,some (.row 182 2 ((ftL x.qu i).map e7)))]) (λ(i:Nat)=>i<=4/\∀t,t < i→(x.qu.sl.getD t default).s≠3) (λ(i:Nat)=>4 - i) 0 Z Z ?_ ?_ ?_ ?_
 ·exact E5
 ·exact c3o
 ·exact ⟨⟨_,Z,by (first | rfl | (simp;done) | (simp;omega))⟩,Z,Z,trivial⟩
 intro i hinv
 have hpl:=@b2u x.qu i
 refine vm4 ?_
 refine zcd (λh1=>?_) (λh1=>?_)
 ·refine p8 ?_
  refine d6 G 5 Z Z Z Z Z ?_
  refine zcd (λh2=>?_) (λh2=>?_)
  ·refine zf1 ?_
   all_goals exact c2N
  refine zcd (λh3=>?_) (λh3=>?_)
  ·refine zcl (z6 _) ?_
   refine vm5 ?_
   refine t7 G 6 Z Z Z Z Z Z Z Z ?_
   refine vm8 ?_
   exact c8j
  exact c8j
 obtain rfl:i=4:=J
 have hfl:=@b2u x.qu 4
 refine p8 ?_
 refine b5 Z Z (a9d Z Z) ?_
 refine zcl (C9 (ftL x.qu 4) 165 rs [.int .i64 (k:Int)] (λw=>!rtW rs k w) J (λj hj=>a4i _ rs k hr8 (c4Y hF.qu (Nat.le_refl _) (n6.mpr ⟨j,hj,Z⟩)))) ?_
 refine zf1 ?_
 all_goals exact c2N
theorem U9 (m:Mach) (hs:SmallM m):Ctr Tryz.prog 64 [.agg [.lst 2 (m.rs.map m4),.lst 1 (m.en.map j4),.lst 1 (m.ra.map j4),.nst none 4 (m.cp.map (l8 169 182))]] (.one (.v (.bool (a0w m)))):=by
 have z0:=hs.rs
 have z1:=hs.en
 have z2:=hs.ra
 have z3:=hs.cp
 refine Ctr.of (n:=44) G Tryz.func64 Z a8 Z Z Z (λw0=>?_)
 refine j5 0 Z (λ_=>Z) (λu0=>?_)
 refine n9 ?_
 refine b0y ?_
 refine zgn ?_
 refine n9 (n9 (b8 ?_))
 iterate 5 refine zst ?_
 refine vm5 ?_
 refine b5 Z Z (f7 Z (ArgsOK.of Z) (a7n m.rs _ J) Z) ?_
 refine a3v ?_
 refine A1 Z Z Z (λh1=>?_) (λh1=>?_)
 ·try rw [h1]
  try simp only [rfb] at h1
  exact b9X
 try rw [h1]
 try simp only [rfb] at h1
 have hr8:=(U0.mp h1).2.1
 have hc2:=(U0.mp h1).1
 iterate 6 refine zst ?_
 refine A1 Z Z Z (λh2=>?_) (λh2=>?_)
 ·try rw [h2]
  try simp only [rfb] at h2
  exact b9X
 try rw [h2]
 try simp only [rfb] at h2
 refine zgn ?_
 refine j9 Z (λh3=>?_) (λh3=>?_)
 ·try rw [h3]
  try simp only [rfb] at h3
  exact b9W
 try rw [h3]
 try simp only [rfb] at h3
 refine C8 ?_
 refine r4 (e6 [1,25,26] [0] (λ(k:Nat)=>[(27,.v (.int .i64 (k:Int)))]) (λ(k:Nat)=>[]) (λ(k:Nat)=>k<=m.cp.length/\∀j,j < k→a8c m j=true) (λ(k:Nat)=>m.cp.length - k) 0 Z Z ?_ ?_ ?_ ?_)
 ·exact E5
 ·exact u6
 ·exact trivial
 intro k hk
 refine vm4 ?_
 refine zgn ?_
 refine n9 (j9 Z (λh4=>?_) (λh4=>?_))
 ·try rw [h4]
  try simp only [rfb] at h4
  have hsz:=hs.allI (i:=k) J
  have hsz2:szI (m.cp.getD k default)=(m.cp.getD k default).st.length+(m.cp.getD k default).qu.sl.length+(m.cp.getD k default).qu.wa.length:=rfl
  refine a2H ?_
  refine a2G ?_
  refine b0x ?_
  refine zst ?_
  refine vm5 ?_
  refine a6o 31 Z (λ_=>Z) λv31=>m3 G Z Z Z Z Z Z Z Z Z Z Z ?_
  refine zgn ?_
  refine n9 (b8 ?_)
  refine zst ?_
  refine vm5 ?_
  refine b5 Z Z (f7 Z (ArgsOK.of Z) (a49 (m.cp.getD k default) J J J) Z) ?_
  refine a3v ?_
  refine A1 Z Z Z (λh5=>?_) (λh5=>?_)
  ·try rw [h5]
   try simp only [rfb] at h5
   exact b9X
  try rw [h5]
  try simp only [rfb] at h5
  have hIF:=(b4P h5).1
  iterate 4 refine zst ?_
  refine a0I ?_
  refine b5 Z Z (f7 Z (ArgsOK.of Z) (a6C m.rs k (m.cp.getD k default) hr8 hIF J) Z) ?_
  refine zgn ?_
  refine j9 Z (λh6=>?_) (λh6=>?_)
  ·try rw [h6]
   try simp only [rfb] at h6
   exact b9W
  try rw [h6]
  try simp only [rfb] at h6
  refine zgn ?_
  refine b8 ?_
  refine vm2 ?_
  refine zgn ?_
  exact c3m
 try rw [h4]
 try simp only [rfb] at h4
 refine zgn ?_
 refine a1P ?_
 all_goals exact c5M
theorem a3E (m:Mach) (hs:SmallM m):Ctr Tryz.prog 54 [.agg [.lst 2 (m.rs.map m4),.lst 1 (m.en.map j4),.lst 1 (m.ra.map j4),.nst none 4 (m.cp.map (l8 169 182))]] (.one (.v (.bool (a0w m)))):=by
 have z0:=hs.rs
 have z1:=hs.en
 have z2:=hs.ra
 have z3:=hs.cp
 refine Ctr.of (n:=50) G Tryz.func54 Z a8 Z Z Z (λw0=>?_)
 refine j5 0 Z (λ_=>Z) (λu0=>?_)
 refine vm3 ?_
 refine zcl (a3D m.rs _ J) ?_
 refine zcd (λh1=>?_) (λh1=>?_)
 ·refine zwt ?_
  refine zf1 ?_
  exact b7d
 have hr8:=(U0.mp h1).2.1
 have hc2:=(U0.mp h1).1
 refine zcd (λh2=>?_) (λh2=>?_)
 ·refine zwt ?_
  refine zf1 ?_
  exact b7d
 refine zcd (λh3=>?_) (λh3=>?_)
 ·refine zf1 ?_
  exact b7d
 refine zgo ?_
 refine e6 [1] [0] (λ(k:Nat)=>[(3,.v (.int .i64 (k:Int)))]) (λ(k:Nat)=>[]) (λ(k:Nat)=>k<=m.cp.length/\∀j,j < k→a8c m j=true) (λ(k:Nat)=>m.cp.length - k) 0 Z Z ?_ ?_ ?_ ?_
 ·exact E5
 ·exact u6
 ·exact trivial
 intro k hk
 refine vm4 ?_
 refine zcd (λh4=>?_) (λh4=>?_)
 ·have hsz:=hs.allI (i:=k) J
  have hsz2:szI (m.cp.getD k default)=(m.cp.getD k default).st.length+(m.cp.getD k default).qu.sl.length+(m.cp.getD k default).qu.wa.length:=rfl
  refine zgd ?_
  refine zcl (a95 (m.cp.getD k default) J J J) ?_
  refine zcd (λh5=>?_) (λh5=>?_)
  ·refine zwt ?_
   refine zf1 ?_
   exact b7d
  have hIF:=(b4P h5).1
  refine zgo ?_
  refine b0A ?_
  refine s1 Z Z (P6 G Z Z Z Z) ?_
  refine zcl (a8s m.rs (m.cp.getD k default).qu k hr8 hIF.qu J) ?_
  refine zcd (λh6=>?_) (λh6=>?_)
  ·refine zf1 ?_
   exact b7d
  refine zgo ?_
  exact c3m
 refine zf1 ?_
 all_goals exact c5M
theorem a99 (q:Int) (m:Mach) (hq:0<=q/\q.toNat < m.ra.length):Ctr Tryz.prog 112 [.v (.int .i64 q),.eptN [.lst 2 (m.rs.map m4),.lst 1 (m.en.map j4),.lst 1 (m.ra.map j4),.nst none 4 (m.cp.map (l8 169 182))]] (.one (.v (.bool (m.ra.getD q.toNat default)))):=by
 refine Ctr.of (n:=9) G Tryz.func112 Z a8 Z Z Z (λw0=>?_)
 refine zgo ?_
 refine b33 ?_
 exact a9X
theorem a7r (f:Nat) (m:Mach) (p:Nat→Bool) (hf:∀i:Nat,i < 8→Ctr Tryz.prog f [.v (.int .i64 (i:Int)),.eptN [.lst 2 (m.rs.map m4),.lst 1 (m.en.map j4),.lst 1 (m.ra.map j4),.nst none 4 (m.cp.map (l8 169 182))]] (.one (.v (.bool (p i))))):Ctr Tryz.prog 111 [.fnc f [.eptN [.lst 2 (m.rs.map m4),.lst 1 (m.en.map j4),.lst 1 (m.ra.map j4),.nst none 4 (m.cp.map (l8 169 182))]]] (.one (.fr 3 1 ((whN p 8).map Rf.n7))):=by
 refine Ctr.of (n:=18) G Tryz.func111 Z a8 Z Z Z (λw0=>?_)
 refine b34 ?_
 refine e6 [0] [] (λ(i:Nat)=>[(3,.own 0),(6,.v (.int .i64 (i:Int)))]) (λ(i:Nat)=>[(0,some (.row 3 1 ((whN p i).map Rf.n7)))]) (λ(i:Nat)=>i<=8) (λ(i:Nat)=>8 - i) 0 Z Z ?_ ?_ ?_ ?_
 ·exact B2
 ·exact R5
 ·exact a0J
 intro i hinv
 have hwl:=@a6s p i
 refine vm4 ?_
 refine zcd (λh1=>?_) (λh1=>?_)
 ·refine p8 ?_
  refine b5 Z Z (b1U Z Z (ArgsOK.of Z) Z (hf i J) Z) ?_
  refine zcd (λh2=>?_) (λh2=>?_)
  ·refine p8 ?_
   refine b42 ?_
   refine vm8 ?_
   exact c1A
  exact c1A
 obtain rfl:i=8:=J
 refine zfo ?_
 all_goals (rfl)
theorem a8v (x:Ifc) (hF:IfF x):Ctr Tryz.prog 172 [.agg [.v (.int .i64 x.ma),.lst 1 (x.st.map Rf.n7),.lst 3 (x.qu.sl.map e9),.lst 2 (x.qu.wa.map e7)]] (.one (.v (.bool (a1N x)))):=by
 have hsn:=hF.sn
 have hpl:=a1L hF.qu
 refine Ctr.of (n:=14) G Tryz.func172 Z a8 Z Z Z (λw0=>?_)
 refine j5 0 Z (λ_=>Z) (λu0=>?_)
 refine vm3 ?_
 refine zcd (λh1=>?_) (λh1=>?_)
 ·exact c3q
 refine zgo ?_
 refine a0I ?_
 refine c8 2 Z Z Z (ArgsOK.of Z) (N5 x.qu hF.qu) Z Z ?_
 exact c3q
theorem B5 (xs:List Ifc) (f:Nat) (p:Ifc→Bool) (hl:xs.length<=1048576) (hf:∀i,i < xs.length→Ctr Tryz.prog f [.agg [.v (.int .i64 (xs.getD i default).ma),.lst 1 ((xs.getD i default).st.map Rf.n7),.lst 3 ((xs.getD i default).qu.sl.map e9),.lst 2 ((xs.getD i default).qu.wa.map e7)]] (.one (.v (.bool (p (xs.getD i default)))))):Ctr Tryz.prog 220 [.nst none 4 (xs.map (l8 169 182)),.fnc f []] (.one (.v (.int .i64 (G6 (λi=>p (xs.getD i default)) xs.length)))):=by
 refine Ctr.of (n:=19) G Tryz.func220 Z a8 Z Z Z (λw0=>?_)
 exact ws6
theorem B0 (xs:List Ifc) (f:Nat) (p:Ifc→Bool) (hl:xs.length<=1048576) (hf:∀i,i < xs.length→Ctr Tryz.prog f [.agg [.v (.int .i64 (xs.getD i default).ma),.lst 1 ((xs.getD i default).st.map Rf.n7),.lst 3 ((xs.getD i default).qu.sl.map e9),.lst 2 ((xs.getD i default).qu.wa.map e7)]] (.one (.v (.bool (p (xs.getD i default)))))):Ctr Tryz.prog 171 [.nst none 4 (xs.map (l8 169 182)),.fnc f []] (.one (.v (.bool (V6 xs.length (λi=>p (xs.getD i default)))))):=by
 refine Ctr.of (n:=9) G Tryz.func171 Z a8 Z Z Z (λw0=>?_)
 refine zcl (B5 xs f p hl hf) ?_
 refine zf1 ?_
 all_goals (rw [a3R])
theorem b0K (m:Mach) (hs:SmallM m) (hM:a0w m=true):Ctr Tryz.prog 113 [.agg [.lst 2 (m.rs.map m4),.lst 1 (m.en.map j4),.lst 1 (m.ra.map j4),.nst none 4 (m.cp.map (l8 169 182))]] (.many [.v (.bool (a7g m)),.v (.bool true)]):=by
 have hG:=(maF hM).g
 have hra:=hG.ra
 have hen:=hG.en
 have hcp:=hs.cp
 refine Ctr.of (n:=30) G Tryz.func113 Z a8 Z Z Z (λw0=>?_)
 refine j5 0 Z (λ_=>Z) (λu0=>?_)
 refine vm3 ?_
 refine zcl (Ctr.bool (U9 m hs) (hM)) ?_
 refine zwf ?_
 refine zgo ?_
 refine e6 [1,10,11] [0] (λ(i:Nat)=>[(12,.v (.int .i64 (i:Int)))]) (λ(i:Nat)=>[]) (λ(i:Nat)=>i<=8/\∀j,j < i→a8e m j=false) (λ(i:Nat)=>8 - i) 0 Z Z ?_ ?_ ?_ ?_
 ·exact E5
 ·exact u6
 ·exact trivial
 intro i hinv
 refine vm4 ?_
 refine zcd (λh1=>?_) (λh1=>?_)
 ·refine zcd (λh2=>?_) (λh2=>?_)
  ·refine zcd (λh3=>?_) (λh3=>?_)
   ·refine zgo ?_
    refine f6 (r5 Z Z Z Z (b4 (l4 ?_) (b4 (l4 ?_) f8)))
    all_goals exact c2O
   exact c1D
  refine zwf ?_
  exact c1D
 refine zcl (Ctr.argsTo (B0 m.cp 172 a1N J (λi hi=>a8v _ (hG.ok i hi).f)) (λw vs h=>c5k vs h)) ?_
 refine zgo ?_
 refine f6 (r5 Z Z Z Z (b4 (l4 ?_) (b4 (l4 ?_) f8)))
 all_goals exact c2O
theorem b0a (m:Mach) (hs:SmallM m) (hM:a0w m=true):Ctr Tryz.prog 98 [.agg [.lst 2 (m.rs.map m4),.lst 1 (m.en.map j4),.lst 1 (m.ra.map j4),.nst none 4 (m.cp.map (l8 169 182))]] (.one (.v (.bool (a7g m)))):=by
 have hG:=(maF hM).g
 have hra:=hG.ra
 have hen:=hG.en
 have hcp:=hs.cp
 refine Ctr.of (n:=47) G Tryz.func98 Z a8 Z Z Z (λw0=>?_)
 refine j5 0 Z (λ_=>Z) (λu0=>?_)
 refine vm3 ?_
 refine zgo ?_
 refine e6 [1] [0] (λ(i:Nat)=>[(3,.v (.int .i64 (i:Int)))]) (λ(i:Nat)=>[]) (λ(i:Nat)=>i<=8/\∀j,j < i→a8e m j=false) (λ(i:Nat)=>8 - i) 0 Z Z ?_ ?_ ?_ ?_
 ·exact E5
 ·exact u6
 ·exact trivial
 intro i hinv
 refine vm4 ?_
 refine zcd (λh1=>?_) (λh1=>?_)
 ·refine zcd (λh2=>?_) (λh2=>?_)
  ·refine zcd (λh3=>?_) (λh3=>?_)
   ·exact c56
   exact c1D
  refine zwf ?_
  exact c1D
 refine zgo ?_
 refine e6 [1] [0] (λ(k:Nat)=>[(4,.v (.int .i64 (k:Int)))]) (λ(k:Nat)=>[]) (λ(k:Nat)=>k<=m.cp.length/\∀j,j < k→a1N (m.cp.getD j default)=false) (λ(k:Nat)=>m.cp.length - k) 0 Z Z ?_ ?_ ?_ ?_
 ·exact E5
 ·exact u6
 ·exact trivial
 intro k hk
 refine vm4 ?_
 refine zcd (λh4=>?_) (λh4=>?_)
 ·have hI:=(hG.ok k J).f
  have hsn:=hI.sn
  have hpl:=a1L hI.qu
  refine zgo ?_
  refine b33 ?_
  refine zcd (λh5=>?_) (λh5=>?_)
  ·refine zwt ?_
   exact c56
  refine zgo ?_
  refine a0I ?_
  refine b41 ?_
  refine zgo ?_
  refine a0I ?_
  refine c8 2 Z Z Z (ArgsOK.of Z) (U8 (m.cp.getD k default).qu hI.qu) Z Z ?_
  refine zcd (λh6=>?_) (λh6=>?_)
  ·exact c56
  refine zgo ?_
  refine ⟨(k+1),?_,?_,⟨⟨_,Z,by rfl⟩,Z,trivial⟩,trivial,Z,Z,Z⟩
  ·exact ⟨by omega,o9 hk.2 (c05 J J)⟩
  omega
 refine zf1 ?_
 all_goals exact c2s
theorem a8w (s:ByteArray) (hs:s.size<=9223372036854775807):Ctr Tryz.prog 71 [.v (.string s)] (.many [.v (.int .i64 (nmN s)),.v (.bool (nmK s))]):=by
 refine Ctr.of (n:=28) G Tryz.func71 Z Y Z Z Z (λw0=>?_)
 refine d3 (λK1 hK1=>?_)
 refine b8 (a7 Z (b5 Z Z (c6 Z Z) (a7 Z (b5 Z Z (c6 Z Z) (b6 (hK1 _ ?_))))))
 clear hK1 K1
 refine d3 (λK2 hK2=>?_)
 refine d3 (λK3 hK3=>?_)
 refine b8 (a7 Z (b5 Z Z (c7 Z Z) (a7 Z (b5 Z Z (o8 G Z Z Z) (a7 Z (b5 Z Z (B3 Z Z Z Z) (b6 (hK3 _ ?_))))))))
 clear hK3 K3
 refine j9 Z (λh1=>?_) (λh1=>?_)
 ·try rw [h1]
  try simp only [rfb] at h1
  refine d3 (λK4 hK4=>?_)
  refine b8 (a7 Z (b5 Z Z (c6 Z Z) (a7 Z (b5 Z Z (c6 Z Z) (b6 (hK4 _ ?_))))))
  clear hK4 K4
  refine f6 (r5 Z Z Z Z (b4 (l4 ?_) (b4 (l4 ?_) f8)))
  all_goals clear hK2 K2
  all_goals (first | (rw [(a1x (s:=s) J).1];done) | (rw [(a1x (s:=s) J).2];done) | (rw [(a3V (s:=s) J (hc1.symm.trans h2)).1];done) | (rw [(a3V (s:=s) J (hc1.symm.trans h2)).2];done) | (rw [(a62 (s:=s) J h3).1];done) | (rw [(a62 (s:=s) J h3).2];done) | (rw [(b08 (s:=s) J (hc1.symm.trans h2) h4).1];done) | (rw [(b08 (s:=s) J (hc1.symm.trans h2) h4).2];done) | (rw [(a63 (s:=s) J (hc1.symm.trans h2) h3 h4).1];done) | (rw [(a63 (s:=s) J (hc1.symm.trans h2) h3 h4).2];done))
 ·try rw [h1]
  try simp only [rfb] at h1
  have hbd:=c0e (s:=s) J
  refine s4 (hK2 _ ?_)
  clear hK2 K2
  refine d3 (λK5 hK5=>?_)
  refine b8 (a7 Z (b5 Z Z (c7 Z Z) (a7 Z ?_)))
  refine b7u 0 [] Z Z Z (a9Z s J) Z RowsIn.nil Z (λ_=>Z) Z (λx1 ⟨hv1,hc1⟩=>?_)
  refine a7 Z (b5 Z Z (c7 Z Z) (a7 Z (b5 Z Z (j7 Z Z Z) (a7 Z (b5 Z Z (j7 Z Z Z) (a7 Z (b5 Z Z (c6 Z Z) (a7 Z (b5 Z Z (c6 Z Z) (b6 (hK5 _ ?_)))))))))))
  clear hK5 K5
  refine d3 (λK6 hK6=>?_)
  refine d3 (λK7 hK7=>?_)
  refine b8 (a7 Z (b5 Z Z (c7 Z Z) (a7 Z (b5 Z Z (c8m Y Z Z hv1) ?_))))
  refine a7 Z (b5 Z Z (c7 Z Z) (A1 Z Z Z (λh2=>?_) (λh2=>?_)))
  ·try rw [h2]
   try simp only [rfb] at h2
   refine l9 Z Z Z Z Z Z (l9 Z Z Z Z Z Z (l9 Z Z Z Z Z Z (a7 Z (b5 Z Z (z8 Z Z Z) (a7 Z (b5 Z Z (c7 Z Z) (l9 Z Z Z Z Z Z (l9 Z Z Z Z Z Z (l9 Z Z Z Z Z Z (l9 Z Z Z Z Z Z (a7 Z (b5 Z Z (z8 Z Z Z) (b6 (hK7 _ ?_))))))))))))))
   clear hK7 K7
   refine L8 Z ?_
   refine d3 (λK8 hK8=>?_)
   refine b8 (a7 Z (b5 Z Z (c6 Z Z) (a7 Z (b5 Z Z (c6 Z Z) (b6 (hK8 _ ?_))))))
   clear hK8 K8
   exact c50
  ·try rw [h2]
   try simp only [rfb] at h2
   refine p5 Z Z Z (b5 Z Z (c7 Z Z) (p5 Z Z Z (b5 Z Z (f7 Z (ArgsOK.of Z) (C5 _ _ _) Z) ?_)))
   refine p5 Z Z Z (b5 Z Z (a2S Z Z) (a7 Z (b5 Z Z (x6 Z Z Z) (a7 Z (b5 Z Z (c7 Z Z) (A1 Z Z Z (λh3=>?_) (λh3=>?_)))))))
   ·try rw [h3]
    try simp only [rfb] at h3
    refine l9 Z Z Z Z Z Z (l9 Z Z Z Z Z Z (l9 Z Z Z Z Z Z (l9 Z Z Z Z Z Z (a7 Z (b5 Z Z (z8 Z Z Z) (b6 (hK7 _ ?_)))))))
    clear hK7 K7
    refine L8 Z ?_
    refine d3 (λK9 hK9=>?_)
    refine b8 (a7 Z (b5 Z Z (c6 Z Z) (a7 Z (b5 Z Z (c6 Z Z) (b6 (hK9 _ ?_))))))
    clear hK9 K9
    exact c50
   ·try rw [h3]
    try simp only [rfb] at h3
    refine p5 Z Z Z (b5 Z Z (c7 Z Z) (p5 Z Z Z (b5 Z Z (f7 Z (ArgsOK.of Z) (x8 _ J J) Z) (p5 Z Z Z (b5 Z Z (c7 Z Z) (p5 Z Z Z (b5 Z Z (s8 Z Z Z Z) (a7 Z (b5 Z Z (x6 Z Z Z) (b6 (hK7 _ ?_)))))))))))
    clear hK7 K7
    refine j9 Z (λh4=>?_) (λh4=>?_)
    ·try rw [h4]
     try simp only [rfb] at h4
     refine d3 (λK10 hK10=>?_)
     refine b8 (a7 Z (b5 Z Z (c6 Z Z) (a7 Z (b5 Z Z (c6 Z Z) (b6 (hK10 _ ?_))))))
     clear hK10 K10
     exact c50
    ·try rw [h4]
     try simp only [rfb] at h4
     refine s4 (hK6 _ ?_)
     clear hK6 K6
     refine d3 (λK11 hK11=>?_)
     refine b8 (a7 Z (b5 Z Z (c7 Z Z) (a7 Z (b5 Z Z (c6 Z Z) (a7 Z (b5 Z Z (c6 Z Z) (b6 (hK11 _ ?_))))))))
     clear hK11 K11
     refine f6 (r5 Z Z Z Z (b4 (l4 ?_) (b4 (l4 ?_) f8)))
     all_goals (first | (rw [(a1x (s:=s) J).1];done) | (rw [(a1x (s:=s) J).2];done) | (rw [(a3V (s:=s) J (hc1.symm.trans h2)).1];done) | (rw [(a3V (s:=s) J (hc1.symm.trans h2)).2];done) | (rw [(a62 (s:=s) J h3).1];done) | (rw [(a62 (s:=s) J h3).2];done) | (rw [(b08 (s:=s) J (hc1.symm.trans h2) h4).1];done) | (rw [(b08 (s:=s) J (hc1.symm.trans h2) h4).2];done) | (rw [(a63 (s:=s) J (hc1.symm.trans h2) h3 h4).1];done) | (rw [(a63 (s:=s) J (hc1.symm.trans h2) h3 h4).2];done))
end Go.Proofs.YtpfhomblkgmkkaaGreatDoor
