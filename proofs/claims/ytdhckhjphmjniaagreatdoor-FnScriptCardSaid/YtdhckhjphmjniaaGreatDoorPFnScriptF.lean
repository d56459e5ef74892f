/- Texts merged into one: D6, W2, W6, D7, G3. -/
import Derived.Test.YtdhckhjphmjniaaGreatDoorPFnScriptE
set_option maxHeartbeats 4000000
set_option linter.unusedSimpArgs false
set_option linter.unusedVariables false
set_option maxRecDepth 20000
namespace Go.Proofs.YtdhckhjphmjniaaGreatDoor
open Go Go.Rf
theorem a30 {x:Cur} {n:Int} (h:okC n x) (hn:n<=880000000000) (m:Mach) (hm:m.cp.length<=1048576):CtrX (α:=MStep×Cur) Tryz.prog 96 [.ptr 0 0,.agg [.own 1,.own 2,.own 3,.own 4]] [.box [.lst 1 (x.c.map B4),.v (.int .i64 x.a),.v (.int .u64 x.s)],.row 132 2 (m.rs.map q9),.row 4 1 (m.en.map m8),.row 4 1 (m.ra.map m8),.nest 74 4 (m.cp.map (r6 104 76)) []] (λy=>True/\okC (n+20) y.2) (λy=>.one (.v (b5S y.1))) (λy=>[some (.box [.lst 1 (y.2.c.map B4),.v (.int .i64 y.2.a),.v (.int .u64 y.2.s)]),some (.row 132 2 (m.rs.map q9)),some (.row 4 1 (m.en.map m8)),some (.row 4 1 (m.ra.map m8)),some (.nest 74 4 (m.cp.map (r6 104 76)) [])]):=by
 refine CtrX.of (n:=66) (k:=5) G Tryz.func96 Z a8 Z Z Z Z (λ_=>Z) Z Z (λw0 _ hpin=>?_)
 refine vm3 ?_
 refine B3 6 Z Z Z Z Z Z Z ?_
 refine p6 ?_
 refine d7 G 7 Z Z Z Z Z ?_
 refine zcl (a5M _ _) ?_
 refine a7 Z (d6 7 [0] Z Z Z (p9 h J _) Z (RowsIn.cons Z RowsIn.nil) Z (λ_=>Z) Z (λx1 ⟨hv1,hc1⟩=>?_))
 refine zgo ?_
 refine a7 Z (d6 7 [0] Z Z Z (p9 hc1 J (12)) Z (RowsIn.cons Z RowsIn.nil) Z (λ_=>Z) Z (λx2 ⟨hv2,hc2⟩=>?_))
 refine zcd (λh1=>?_) (λh1=>?_)
 ·refine zwt ?_
  refine zgo ?_
  refine a7 Z (d6 7 [0] Z Z Z (p9 hc2 J (8)) Z (RowsIn.cons Z RowsIn.nil) Z (λ_=>Z) Z (λx3 ⟨hv3,hc3⟩=>?_))
  refine zgo ?_
  refine d8 (A2 ((⟨_,_,_,_⟩,⟨_,_,_⟩)) (n9 Z (C2 Z Z) Z (AftOK.stays Z Z Z (AftOK.stays Z Z Z (AftOK.stays Z Z Z (AftOK.stays Z Z Z (AftOK.stays Z Z Z AftOK.nil)))))) ⟨?_,?_⟩)
  all_goals (try rcases x1 with ⟨_,_⟩)
  all_goals (try rcases x2 with ⟨_,_⟩)
  all_goals (try rcases x3 with ⟨_,_⟩)
  all_goals (try dsimp only at *)
  all_goals (first | trivial | exact hc3.mono J | omega)
 refine zcd (λh2=>?_) (λh2=>?_)
 ·refine zwt ?_
  refine zgo ?_
  refine a7 Z (d6 7 [0] Z Z Z (p9 hc2 J (8)) Z (RowsIn.cons Z RowsIn.nil) Z (λ_=>Z) Z (λx4 ⟨hv4,hc4⟩=>?_))
  refine zgo ?_
  refine d8 (A2 ((⟨_,_,_,_⟩,⟨_,_,_⟩)) (n9 Z (C2 Z Z) Z (AftOK.stays Z Z Z (AftOK.stays Z Z Z (AftOK.stays Z Z Z (AftOK.stays Z Z Z (AftOK.stays Z Z Z AftOK.nil)))))) ⟨?_,?_⟩)
  all_goals (try rcases x1 with ⟨_,_⟩)
  all_goals (try rcases x2 with ⟨_,_⟩)
  all_goals (try rcases x3 with ⟨_,_⟩)
  all_goals (try rcases x4 with ⟨_,_⟩)
  all_goals (try dsimp only at *)
  all_goals (first | trivial | exact hc4.mono J | omega)
 refine zcd (λh3=>?_) (λh3=>?_)
 ·refine zgo ?_
  refine a7 Z (d6 7 [0] Z Z Z (p9 hc2 J (8)) Z (RowsIn.cons Z RowsIn.nil) Z (λ_=>Z) Z (λx5 ⟨hv5,hc5⟩=>?_))
  refine zgo ?_
  refine d8 (A2 ((⟨_,_,_,_⟩,⟨_,_,_⟩)) (n9 Z (C2 Z Z) Z (AftOK.stays Z Z Z (AftOK.stays Z Z Z (AftOK.stays Z Z Z (AftOK.stays Z Z Z (AftOK.stays Z Z Z AftOK.nil)))))) ⟨?_,?_⟩)
  all_goals (try rcases x1 with ⟨_,_⟩)
  all_goals (try rcases x2 with ⟨_,_⟩)
  all_goals (try rcases x3 with ⟨_,_⟩)
  all_goals (try rcases x4 with ⟨_,_⟩)
  all_goals (try rcases x5 with ⟨_,_⟩)
  all_goals (try dsimp only at *)
  all_goals (first | trivial | exact hc5.mono J | omega)
 refine zcd (λh4=>?_) (λh4=>?_)
 ·refine zwt ?_
  exact b7H
 refine zcd (λh5=>?_) (λh5=>?_)
 ·exact b7H
 refine zcd (λh6=>?_) (λh6=>?_)
 ·refine zwt ?_
  exact b7H
 refine zcd (λh7=>?_) (λh7=>?_)
 ·refine zwt ?_
  exact b7H
 refine zcd (λh8=>?_) (λh8=>?_)
 ·exact b7H
 refine zcd (λh9=>?_) (λh9=>?_)
 ·exact b7H
 refine zcd (λh10=>?_) (λh10=>?_)
 ·refine zgo ?_
  refine a7 Z (m5 G 8 Z Z Z Z Z Z Z Z (a7 Z (d6 8 [0,7] Z Z Z (I4 hc2 J [16,16,8,4,0] (0) (16) (by decide) (by decide)) Z (RowsIn.cons Z (RowsIn.cons Z RowsIn.nil)) Z (λ_=>Z) Z (λx6 ⟨hv6,hc6⟩=>?_))))
  refine zgo ?_
  refine d8 (A2 ((⟨_,_,_,_⟩,⟨_,_,_⟩)) (n9 Z (C2 Z Z) Z (AftOK.stays Z Z Z (AftOK.stays Z Z Z (AftOK.stays Z Z Z (AftOK.stays Z Z Z (AftOK.stays Z Z Z AftOK.nil)))))) ⟨?_,?_⟩)
  all_goals (try rcases x1 with ⟨_,_⟩)
  all_goals (try rcases x2 with ⟨_,_⟩)
  all_goals (try rcases x3 with ⟨_,_⟩)
  all_goals (try rcases x4 with ⟨_,_⟩)
  all_goals (try rcases x5 with ⟨_,_⟩)
  all_goals (try rcases x6 with ⟨_,_⟩)
  all_goals (try dsimp only at *)
  all_goals (first | trivial | exact hc6.mono J | omega)
 refine zcd (λh11=>?_) (λh11=>?_)
 ·refine zgo ?_
  refine a7 Z (d6 7 [0] Z Z Z (p9 hc2 J (8)) Z (RowsIn.cons Z RowsIn.nil) Z (λ_=>Z) Z (λx7 ⟨hv7,hc7⟩=>?_))
  refine zgo ?_
  refine a7 Z (m5 G 8 Z Z Z Z Z Z Z Z (a7 Z (d6 8 [0,7] Z Z Z (I4 hc7 J [1,1,0] (0) (1) (by decide) (by decide)) Z (RowsIn.cons Z (RowsIn.cons Z RowsIn.nil)) Z (λ_=>Z) Z (λx8 ⟨hv8,hc8⟩=>?_))))
  refine zgo ?_
  refine d8 (A2 ((⟨_,_,_,_⟩,⟨_,_,_⟩)) (n9 Z (C2 Z Z) Z (AftOK.stays Z Z Z (AftOK.stays Z Z Z (AftOK.stays Z Z Z (AftOK.stays Z Z Z (AftOK.stays Z Z Z AftOK.nil)))))) ⟨?_,?_⟩)
  all_goals (try rcases x1 with ⟨_,_⟩)
  all_goals (try rcases x2 with ⟨_,_⟩)
  all_goals (try rcases x3 with ⟨_,_⟩)
  all_goals (try rcases x4 with ⟨_,_⟩)
  all_goals (try rcases x5 with ⟨_,_⟩)
  all_goals (try rcases x6 with ⟨_,_⟩)
  all_goals (try rcases x7 with ⟨_,_⟩)
  all_goals (try rcases x8 with ⟨_,_⟩)
  all_goals (try dsimp only at *)
  all_goals (first | trivial | exact hc8.mono J | omega)
 refine zgo ?_
 refine a7 Z (d6 7 [0] Z Z Z (a4B hc2 J (4)) Z (RowsIn.cons Z RowsIn.nil) Z (λ_=>Z) Z (λx9 ⟨hv9,hc9⟩=>?_))
 refine zcd (λh12=>?_) (λh12=>?_)
 ·refine zgo ?_
  refine a7 Z (m5 G 8 Z Z Z Z Z Z Z Z (a7 Z (d6 8 [0,7] Z Z Z (I4 hc9 J [0,7,1,5] (0) (7) (by decide) (by decide)) Z (RowsIn.cons Z (RowsIn.cons Z RowsIn.nil)) Z (λ_=>Z) Z (λx10 ⟨hv10,hc10⟩=>?_))))
  refine zgo ?_
  refine a7 Z (m5 G 9 Z Z Z Z Z Z Z Z (a7 Z (d6 9 [0,8] Z Z Z (I4 hc10 J [0,8,-1] (-1) (8) (by decide) (by decide)) Z (RowsIn.cons Z (RowsIn.cons Z RowsIn.nil)) Z (λ_=>Z) Z (λx11 ⟨hv11,hc11⟩=>?_))))
  refine zgo ?_
  refine a7 Z (m5 G 10 Z Z Z Z Z Z Z Z (a7 Z (d6 10 [0,9] Z Z Z (I4 hc11 J [0,2] (0) (2) (by decide) (by decide)) Z (RowsIn.cons Z (RowsIn.cons Z RowsIn.nil)) Z (λ_=>Z) Z (λx12 ⟨hv12,hc12⟩=>?_))))
  refine zgo ?_
  refine a7 Z (m5 G 11 Z Z Z Z Z Z Z Z (a7 Z (d6 11 [0,10] Z Z Z (I4 hc12 J [0,17] (0) (17) (by decide) (by decide)) Z (RowsIn.cons Z (RowsIn.cons Z RowsIn.nil)) Z (λ_=>Z) Z (λx13 ⟨hv13,hc13⟩=>?_))))
  refine zgo ?_
  refine d8 (A2 ((⟨_,_,_,_⟩,⟨_,_,_⟩)) (n9 Z (C2 Z Z) Z (AftOK.stays Z Z Z (AftOK.stays Z Z Z (AftOK.stays Z Z Z (AftOK.stays Z Z Z (AftOK.stays Z Z Z AftOK.nil)))))) ⟨?_,?_⟩)
  all_goals (try rcases x1 with ⟨_,_⟩)
  all_goals (try rcases x2 with ⟨_,_⟩)
  all_goals (try rcases x3 with ⟨_,_⟩)
  all_goals (try rcases x4 with ⟨_,_⟩)
  all_goals (try rcases x5 with ⟨_,_⟩)
  all_goals (try rcases x6 with ⟨_,_⟩)
  all_goals (try rcases x7 with ⟨_,_⟩)
  all_goals (try rcases x8 with ⟨_,_⟩)
  all_goals (try rcases x9 with ⟨_,_⟩)
  all_goals (try rcases x10 with ⟨_,_⟩)
  all_goals (try rcases x11 with ⟨_,_⟩)
  all_goals (try rcases x12 with ⟨_,_⟩)
  all_goals (try rcases x13 with ⟨_,_⟩)
  all_goals (try dsimp only at *)
  all_goals (first | trivial | exact hc13.mono J | omega)
 refine zgo ?_
 refine d8 (A2 ((⟨_,_,_,_⟩,⟨_,_,_⟩)) (n9 Z (C2 Z Z) Z (AftOK.stays Z Z Z (AftOK.stays Z Z Z (AftOK.stays Z Z Z (AftOK.stays Z Z Z (AftOK.stays Z Z Z AftOK.nil)))))) ⟨?_,?_⟩)
 all_goals (try rcases x1 with ⟨_,_⟩)
 all_goals (try rcases x2 with ⟨_,_⟩)
 all_goals (try rcases x3 with ⟨_,_⟩)
 all_goals (try rcases x4 with ⟨_,_⟩)
 all_goals (try rcases x5 with ⟨_,_⟩)
 all_goals (try rcases x6 with ⟨_,_⟩)
 all_goals (try rcases x7 with ⟨_,_⟩)
 all_goals (try rcases x8 with ⟨_,_⟩)
 all_goals (try rcases x9 with ⟨_,_⟩)
 all_goals (try rcases x10 with ⟨_,_⟩)
 all_goals (try rcases x11 with ⟨_,_⟩)
 all_goals (try rcases x12 with ⟨_,_⟩)
 all_goals (try rcases x13 with ⟨_,_⟩)
 all_goals (try dsimp only at *)
 all_goals (first | trivial | exact hc9.mono J | omega)
theorem a6r (x:Route) (c:Int) (hc:1<=c/\c<=2):Ctr Tryz.prog 132 [.v (b8i x),.ept [.int .i64 c]] (.one (.v (.bool (!b0e c x)))):=by
 refine Ctr.of (n:=16) G Tryz.func132 Z a8 Z Z Z (λw0=>?_)
 refine vm1 ?_
 refine zcl (Y2 _) ?_
 refine zcd (λh1=>?_) (λh1=>?_)
 ·refine zf1 ?_
  all_goals (first | rfl | (simp_all [b0e];done))
 refine zcl (H9 _ _ _) ?_
 refine zf1 ?_
 all_goals (first | rfl | (simp_all [b0e];done))
theorem O0 (xs:List Route) (f:Nat) (c:List Value) (p:Route→Bool) (hl:xs.length<=1048576) (hf:∀i,i < xs.length→Ctr Tryz.prog f [.v (b8i (xs.getD i default)),.ept c] (.one (.v (.bool (p (xs.getD i default)))))):Ctr Tryz.prog 189 [.lst 2 (xs.map q9),.fnc f [.ept c]] (.one (.v (.int .i64 (P0 (λi=>p (xs.getD i default)) xs.length)))):=by
 refine Ctr.of (n:=19) G Tryz.func189 Z a8 Z Z Z (λw0=>?_)
 exact ws6
theorem J2 (xs:List Route) (f:Nat) (c:List Value) (p:Route→Bool) (hl:xs.length<=1048576) (hf:∀i,i < xs.length→Ctr Tryz.prog f [.v (b8i (xs.getD i default)),.ept c] (.one (.v (.bool (p (xs.getD i default)))))):Ctr Tryz.prog 131 [.lst 2 (xs.map q9),.fnc f [.ept c]] (.one (.v (.bool (a0t xs.length (λi=>p (xs.getD i default)))))):=by
 refine Ctr.of (n:=9) G Tryz.func131 Z a8 Z Z Z (λw0=>?_)
 refine zcl (O0 xs f c p hl hf) ?_
 refine zf1 ?_
 all_goals (rw [a4Z])
theorem a8w (rs:List Route) (c:Int) (hn:rs.length<=9223372036854775807):Ctr Tryz.prog 89 [.lst 2 (rs.map q9),.v (.int .i64 c)] (.one (.v (.bool (okRts rs c)))):=by
 refine Ctr.of (n:=18) G Tryz.func89 Z a8 Z Z Z (λw0=>?_)
 refine vm1 ?_
 refine zcl (H9 _ _ _) ?_
 refine zcd (λh1=>?_) (λh1=>?_)
 ·refine zcd (λh2=>?_) (λh2=>?_)
  ·refine zgo ?_
   refine a0k ?_
   refine b5 Z Z (a9U Z Z) ?_
   refine zcl (J2 rs 132 [.int .i64 c] (λx=>!b0e c x) J (λk hk=>a6r _ _ (v8.mp j7))) ?_
   exact c6S
  exact c6S
 exact c6S
theorem a8x (rs:List Route) (c:Int) (hn:rs.length<=1048576) (hc:0<=c/\c<=1048576):Ctr Tryz.prog 95 [.lst 2 (rs.map q9),.v (.int .i64 c)] (.one (.v (.bool (okRts rs c)))):=by
 refine Ctr.of (n:=37) G Tryz.func95 Z a8 Z Z Z (λw0=>?_)
 refine zgo ?_
 refine i7 [0,1] [] (λ(i:Nat)=>[(5,.v (.int .i64 (i:Int)))]) (λ(i:Nat)=>[]) (λ(i:Nat)=>i<=rs.length/\∀j,j < i→b0e c (rs.getD j default)=true) (λ(i:Nat)=>rs.length - i) 0 Z Z ?_ ?_ ?_ ?_
 ·exact T7
 ·exact E7
 ·exact trivial
 intro i hinv
 refine vm2 ?_
 refine zcd (λh1=>?_) (λh1=>?_)
 ·refine zcl (a0q _) ?_
  refine zcd (λh2=>?_) (λh2=>?_)
  ·refine zwt ?_
   exact c6R
  refine b3d ?_
  refine zcd (λh3=>?_) (λh3=>?_)
  ·exact c6R
  refine zgo ?_
  refine ⟨(i+1),?_,?_,⟨⟨_,Z,by rfl⟩,Z,trivial⟩,trivial,Z,Z,Z⟩
  ·exact ⟨by omega,s4 hinv.2 (by simp_all [b0e])⟩
  omega
 refine b3d ?_
 refine zcd (λh4=>?_) (λh4=>?_)
 ·exact c6R
 refine zf1 ?_
 all_goals exact c25
theorem a4L (rs:List Route) (c:Int) (hn:rs.length<=1048576) (hc:n7 c 1 2=false):Ctr Tryz.prog 95 [.lst 2 (rs.map q9),.v (.int .i64 c)] (.one (.v (.bool (false)))):=by
 refine Ctr.of (n:=37) G Tryz.func95 Z a8 Z Z Z (λw0=>?_)
 refine zgn ?_
 refine zgn ?_
 refine o7 (i7 [0,1] [] (λ(i:Nat)=>[(5,.v (.int .i64 (i:Int)))]) (λ(i:Nat)=>[]) (λ(i:Nat)=>i<=rs.length) (λ(i:Nat)=>rs.length - i) 0 Z Z ?_ ?_ ?_ ?_)
 ·exact R9
 ·exact E7
 ·exact trivial
 intro i hinv
 refine vm2 ?_
 refine zgn ?_
 refine l4 Z (λh1=>?_) (λh1=>?_)
 ·try rw [h1]
  try simp only [rfb] at h1
  refine zgn ?_
  refine s9 (o7 ?_)
  refine a5p ?_
  iterate 5 refine zst ?_
  refine p6 ?_
  refine b5 Z Z (j4 Z (ArgsOK.of Z) (a0q _) Z) ?_
  refine a2n ?_
  refine A5 Z Z Z (λh2=>?_) (λh2=>?_)
  ·try rw [h2]
   try simp only [rfb] at h2
   refine zgn ?_
   refine J4 Z ?_
   refine zgn ?_
   exact b6L
  try rw [h2]
  try simp only [rfb] at h2
  iterate 6 refine zst ?_
  refine a0k ?_
  first | refine b5 Z Z (p5 Z Z Z Z J J) ?_ | refine b5 Z Z (s3 Z Z Z Z) ?_
  refine a0k ?_
  refine b5 Z Z (j4 Z (ArgsOK.of Z) (a0I _ _ _) Z) ?_
  refine zgn ?_
  refine l4 Z (λh3=>?_) (λh3=>?_)
  ·try rw [h3]
   try simp only [rfb] at h3
   refine zgn ?_
   exact b6L
  try rw [h3]
  try simp only [rfb] at h3
  refine zgn ?_
  refine b6 ?_
  refine zst ?_
  refine vm7 ?_
  refine zgn ?_
  refine ⟨(i+1),?_,?_,⟨⟨_,Z,by rfl⟩,Z,trivial⟩,trivial,Z,Z,Z⟩
  ·omega
  omega
 try rw [h1]
 try simp only [rfb] at h1
 refine zgn ?_
 refine a5p ?_
 refine zst ?_
 refine p6 ?_
 refine b5 Z Z (j4 Z (ArgsOK.of Z) (a0I _ _ _) Z) ?_
 refine zst ?_
 refine A5 Z Z Z (λh4=>?_) (λh4=>?_)
 ·try rw [h4]
  try simp only [rfb] at h4
  refine zgn ?_
  exact b6L
 try rw [h4]
 try simp only [rfb] at h4
 refine b4s ?_
 all_goals (first | rfl | (simp_all;done))
theorem a0J (rs:List Route) (c:Int) (hn:rs.length<=1048576):Ctr Tryz.prog 95 [.lst 2 (rs.map q9),.v (.int .i64 c)] (.one (.v (.bool (okRts rs c)))):=by
 cases h:n7 c 1 2
 ·have e:okRts rs c=false:=by simp only [okRts,h,Bool.false_and]
  rw [e];exact a4L rs c hn h
 exact a8x rs c hn (by have:=v8.mp h;omega)
theorem a7I (rs:List Route) (c:Int) (hn:rs.length<=1048576):Ctr Tryz.prog 58 [.lst 2 (rs.map q9),.v (.int .i64 c)] (.shp false [some 4,none] [.fr 132 2 ((a7a rs c).1.rs.map q9),.fr 4 1 ((a7a rs c).1.en.map m8),.fr 4 1 ((a7a rs c).1.ra.map m8),.ne 74 4 ((a7a rs c).1.cp.map (r6 104 76)),.v (.bool (a7a rs c).2)]):=by
 refine Ctr.of (n:=40) G Tryz.func58 Z a8 Z Z Z (λw0=>?_)
 refine a4y ?_
 refine zcl (a0J rs c hn) ?_
 refine zcd (λh1=>?_) (λh1=>?_)
 ·have hM:=c1f (rs:=rs) h1
  refine zgo ?_
  refine d8 (o8 Z Z Z Z (b3 (H8 ?_) (b3 (H8 ?_) (b3 (H8 ?_) (b3 (b5N ?_) (b3 (j8 ?_) d9))))))
  all_goals exact c3n
 have hM:=b53 (rs:=rs) h1
 have hr:=H1.mp h1
 obtain ⟨n,rfl⟩:∃n:Nat,c=n:=⟨c.toNat,by omega⟩
 refine zgn ?_
 refine s9 (l2 9 [0] mixed a8 Z Z (λr0=>?_) (λ_ h=>h))
 refine zsa 1 ?_
 refine A9 (N:=6) Z (s7 (fuel:=3) [⟨0,13,1,false,.row 132 2 []⟩,⟨3,16,2,false,.row 4 1 (List.replicate 8 [.bool false])⟩,⟨4,17,3,false,.row 4 1 (List.replicate 8 [.bool false])⟩,⟨5,18,4,false,.row 74 4 []⟩,⟨7,6,5,true,.box (avR [.slice none 0 0,.slice none 0 0,.slice none 0 0,.slice none 0 0] [])⟩] (AllVOK.cons (VOK.lit G Z Z Z Z Z) (AllVOK.cons (VOK.make (n:=8) G Z Z Z Z Z (by decide) (by decide)) (AllVOK.cons (VOK.make (n:=8) G Z Z Z Z Z (by decide) (by decide)) (AllVOK.cons (VOK.lit G Z Z Z Z Z) (AllVOK.cons (VOK.boxS G Z Z Z Z Z) (AllVOK.nil)))))) (λhok=>?_))
 refine n6 [(2,[0])] a8 a8 (λe he=>hok e he) a8 (AllVS.cons ?_ AllVS.nil)
 refine VStep.mk1 [0] 13 (.own 1) 1 (.row 132 2 []) [⟨3,16,2,false,.row 4 1 (List.replicate 8 [.bool false])⟩,⟨4,17,3,false,.row 4 1 (List.replicate 8 [.bool false])⟩,⟨5,18,4,false,.row 74 4 []⟩,⟨7,6,5,true,.box (avR [.slice none 0 0,.slice none 0 0,.slice none 0 0,.slice none 0 0] [])⟩] Z Z Z Z Z (λb1 _ hbn=>l1 G T5 Z Z Z Z Z Z Z Z Z c3t Z Z (b4 Z)) a8 a8 a8 a8 (n6 [(6,[3,4,5])] a8 a8 (λe he=>hok e (vin (is:=[0]) Z he)) a8 (AllVS.cons ?_ AllVS.nil))
 refine VStep.mk3 [0] 16 (.own 2) 2 (.row 4 1 (List.replicate 8 [.bool false])) 17 (.own 3) 3 (.row 4 1 (List.replicate 8 [.bool false])) 18 (.own 4) 4 (.row 74 4 []) [⟨7,6,5,true,.box (avR [.slice none 0 0,.slice none 0 0,.slice none 0 0,.slice none 0 0] [])⟩] Z Z Z Z Z (λb1 _ hbn=>b5 Z Z (w9 G Z Z Z Z) (b4 Z)) a8 a8 a8 a8 (n6 [(8,[7])] a8 a8 (λe he=>hok e (vin (is:=[0,3,4,5]) Z he)) a8 (AllVS.cons ?_ AllVS.nil))
 refine VStep.mk1 [0] 6 (.ptr 5 0) 5 (.box (avR [.slice none 0 0,.slice none 0 0,.slice none 0 0,.slice none 0 0] [])) [] Z Z Z Z Z (λb1 _ hbn=>e9 G Z Z Z Z Z Z Z Z Z Z Z (b4 Z)) a8 a8 a8 a8 (G0 ?_)
 clear hok
 refine a3P (Gh.nest (id:=4) (yss:=[]) Z Z (by intro _ _ _ h;simp at h)) ?_
 refine F3 ?_
 refine zgo ?_
 refine i7 [1,4,6] [0,1,2,3,5] (λ(k:Nat)=>[(7,.v (.int .i64 (k:Int)))]) (λ(k:Nat)=>[(4,some (.nest 74 4 ((List.replicate k b7j).map (r6 104 76)) []))]) (λ(k:Nat)=>k<=n) (λ(k:Nat)=>n - k) 0 Z Z ?_ ?_ ?_ ?_
 ·exact R9
 ·exact E7
 ·exact a07
 intro k hinv
 refine vm2 ?_
 refine zcd (λh2=>?_) (λh2=>?_)
 ·refine vm3 ?_
  refine m5 G 7 Z Z Z Z Z Z Z Z ?_
  refine vm3 ?_
  refine m5 G 8 Z Z Z Z Z Z Z Z ?_
  refine p6 ?_
  refine m5 G 9 Z Z Z Z Z Z Z Z ?_
  refine vm3 ?_
  refine B2 G 10 Z Z Z Z Z Z Z Z (.v Z (.own Z (.own Z (.own Z .nil)))) Z Z Z Z ?_
  refine p6 ?_
  refine I0 (Gh.forget (id:=5) (k:=3) Z Z)<|I0 (Gh.keep [0,1,2,3,4,5,9] Z)<|F8 G np rfl rfl rfl rfl rfl rfl rfl rfl rfl rfl c3t rfl rfl ?_
  refine zgo ?_
  refine ⟨(k+1),?_,?_,⟨⟨_,Z,by rfl⟩,Z,trivial⟩,⟨⟨_,Z,by exact congrArg (λz=>Row.nest _ _ z []) (b8P Z)⟩,Z,Z,trivial⟩,Z,Z,Z⟩
  ·omega
  omega
 refine zgo ?_
 refine d8 (o8 Z Z Z Z (b3 (c8 Z ?_) (b3 (c8 Z ?_) (b3 (c8 Z ?_) (b3 (A8 Z ?_) (b3 (j8 ?_) d9))))))
 all_goals exact c3n
theorem a2s:a02 Tryz.prog 113 [.int .i64,.int .i64,.int .i64,.int .i64]=true:=by kernel_rfl
theorem I9 (m:Mach) (c:Int) (hn:m.cp.length<=1048576):Ctr Tryz.prog 116 [.agg [.lst 2 (m.rs.map q9),.lst 1 (m.en.map m8),.lst 1 (m.ra.map m8),.nst none 4 (m.cp.map (r6 104 76))],.v (.int .i64 c)] (.one (.v (.bool (n7 c 0 ((m.cp.length:Int) - 1))))):=by
 refine Ctr.of (n:=11) G Tryz.func116 Z a8 Z Z Z (λw0=>?_)
 refine n8 0 Z (λ_=>Z) (λu0=>?_)
 refine vm1 ?_
 exact b6O
theorem a5r (m:Mach) (s:MStep) (hn:m.cp.length<=1048576):Ctr Tryz.prog 120 [.agg [.lst 2 (m.rs.map q9),.lst 1 (m.en.map m8),.lst 1 (m.ra.map m8),.nst none 4 (m.cp.map (r6 104 76))],.v (b5S s)] (.one (.v (.bool (V9 m.cp.length s)))):=by
 refine Ctr.of (n:=75) G Tryz.func120 Z a8 Z Z Z (λw0=>?_)
 refine n8 0 Z (λ_=>Z) (λu0=>?_)
 refine c1Y ?_
 refine zcd (λh1=>?_) (λh1=>?_)
 ·refine zcl (a08 _) ?_
  exact b4v
 refine zcd (λh4=>?_) (λh4=>?_)
 ·refine vm3 ?_
  refine b5 Z Z (c7f [.int .i64,.int .i64,.int .i64,.int .i64] Z Z Z Z Z Z Z (.inl Z) (.inl Z) a2s ⟨_,_,Z,⟨_,Z⟩,_,_,Z,⟨_,Z⟩,_,_,Z,⟨_,Z⟩,_,_,Z,⟨_,Z⟩,Z⟩ ⟨_,_,Z,⟨_,Z⟩,_,_,Z,⟨_,Z⟩,_,_,Z,⟨_,Z⟩,_,_,Z,⟨_,Z⟩,Z⟩) ?_
  exact a3X
 refine zcd (λh5=>?_) (λh5=>?_)
 ·refine zwt ?_
  exact c4s
 refine zcd (λh8=>?_) (λh8=>?_)
 ·exact c4s
 refine zcd (λh11=>?_) (λh11=>?_)
 ·refine zcd (λh12=>?_) (λh12=>?_)
  ·refine zcl (I9 m s.c hn) ?_
   refine zcd (λh13=>?_) (λh13=>?_)
   ·refine zcl (a5J _) ?_
    exact a3X
   exact a3X
  exact a3X
 refine zcd (λh14=>?_) (λh14=>?_)
 ·refine zcl (a08 _) ?_
  refine zcd (λh15=>?_) (λh15=>?_)
  ·refine zcd (λh16=>?_) (λh16=>?_)
   ·refine zcl (H9 _ _ _) ?_
    exact a3X
   exact a3X
  exact a3X
 exact a3X
theorem a22 (m:Mach) (s:MStep) (hn:m.cp.length<=1048576):Ctr Tryz.prog 97 [.agg [.lst 2 (m.rs.map q9),.lst 1 (m.en.map m8),.lst 1 (m.ra.map m8),.nst none 4 (m.cp.map (r6 104 76))],.v (b5S s)] (.one (.v (.bool (V9 m.cp.length s)))):=by
 refine Ctr.of (n:=90) G Tryz.func97 Z a8 Z Z Z (λw0=>?_)
 refine n8 0 Z (λ_=>Z) (λu0=>?_)
 refine c1Y ?_
 refine b3d ?_
 refine zcd (λh1=>?_) (λh1=>?_)
 ·refine zcl (a09 _) ?_
  exact b4v
 refine zcd (λh4=>?_) (λh4=>?_)
 ·exact b4v
 refine zcd (λh7=>?_) (λh7=>?_)
 ·refine zwt ?_
  exact b4v
 refine zcd (λh10=>?_) (λh10=>?_)
 ·exact b4v
 refine zcd (λh13=>?_) (λh13=>?_)
 ·exact c4t
 refine zcd (λh16=>?_) (λh16=>?_)
 ·refine zcl (a09 _) ?_
  exact c4t
 exact a3X
theorem a4M {x:Cur} {n:Int} (h:okC n x) (hn:n<=870000000000):CtrX (α:=Mach×Cur) Tryz.prog 60 [.ptr 0 0] [.box [.lst 1 (x.c.map B4),.v (.int .i64 x.a),.v (.int .u64 x.s)]] (λy=>(DrM y.1)/\okC (n+2000) y.2) (λy=>.shp true [some 4] [.fr 132 2 (y.1.rs.map q9),.fr 4 1 (y.1.en.map m8),.fr 4 1 (y.1.ra.map m8),.ne 74 4 (y.1.cp.map (r6 104 76))]) (λy=>[some (.box [.lst 1 (y.2.c.map B4),.v (.int .i64 y.2.a),.v (.int .u64 y.2.s)])]):=by
 refine CtrX.of (n:=114) (k:=1) G Tryz.func60 Z a8 Z Z Z Z (λ_=>Z) Z Z (λw0 _ hpin=>?_)
 refine b4p ?_
 refine zgo ?_
 refine a7 Z (d6 2 [0] Z Z Z (p9 h J (2)) Z (RowsIn.cons Z RowsIn.nil) Z (λ_=>Z) Z (λx1 ⟨hv1,hc1⟩=>?_))
 refine b4o ?_
 refine zgo ?_
 refine i7 [0,2,3] [1] (λ(z:Nat×Cur×List Route)=>[(4,.own 2),(5,.v (.int .i64 (z.1:Int)))]) (λ(z:Nat×Cur×List Route)=>[(0,some (.box [.lst 1 (z.2.1.c.map B4),.v (.int .i64 z.2.1.a),.v (.int .u64 z.2.1.s)])),(2,some (.row 132 2 (z.2.2.map q9)))]) (λ(z:Nat×Cur×List Route)=>z.1<=8/\z.2.2.length=z.1/\b6v (1+x1.1) z.2.2/\okC (n+2+4 * z.1) z.2.1) (λ(z:Nat×Cur×List Route)=>8 - z.1) (0,x1.2,[]) Z Z ?_ ?_ ?_ ?_
 ·exact ⟨Nat.zero_le _,Z,(λr hr=>by cases hr),hc1.mono (by simp)⟩
 ·exact b6G
 ·exact b3e
 intro z hinv
 obtain ⟨hz1,hz2,hz3,hz⟩:=hinv
 refine vm2 ?_
 refine zcd (λh1=>?_) (λh1=>?_)
 ·refine zgo ?_
  refine a7 Z (d6 3 [0] Z Z Z (p9 hz J (10)) Z (RowsIn.cons Z RowsIn.nil) Z (λ_=>Z) Z (λx2 ⟨hv2,hc2⟩=>?_))
  refine zgo ?_
  refine a7 Z (d6 3 [0] Z Z Z (p9 hc2 J (1+x1.1)) Z (RowsIn.cons Z RowsIn.nil) Z (λ_=>Z) Z (λx3 ⟨hv3,hc3⟩=>?_))
  refine vm3 ?_
  refine c11 ?_
  refine c8J ?_
  refine ⟨(z.1+1,x3.2,z.2.2++[⟨x2.1,x3.1⟩]),?_,?_,⟨⟨_,Z,by (first | rfl | (congr 2;simp;omega))⟩,Z,⟨⟨_,Z,by (first | rfl | (congr 2;simp;omega))⟩,Z,trivial⟩⟩,⟨⟨_,Z,by (first | rfl | (exact congrArg (Row.row _ _) (by rw [List.map_append];rfl)))⟩,Z,Z,⟨⟨_,Z,by (first | rfl | (exact congrArg (Row.row _ _) (by rw [List.map_append];rfl)))⟩,Z,Z,trivial⟩⟩,Z,Z,Z⟩
  ·exact ⟨by show z.1+1<=8;omega,by show (z.2.2++[_]).length=z.1+1;simp;omega,b9M hz3 ⟨by dsimp only;omega,by dsimp only;omega⟩,hc3.mono m7⟩
  (show 8 - (z.1+1) < 8 - z.1;omega)
 have hok:okRts z.2.2 (1+x1.1)=true:=c58 hz3 J J
 have cN:=a7I z.2.2 (1+x1.1) J
 rw [b53 hok] at cN
 dsimp only at cN
 have hM0:MaG (b3Z z.2.2 (1+x1.1).toNat):=c59 (by rw [Int.toNat_of_nonneg J];exact hok)
 generalize b3Z z.2.2 (1+x1.1).toNat=m0 at cN hM0
 have h0e:=hM0.en
 have h0a:=hM0.ra
 refine vm3 ?_
 refine d4 7 Z Z Z (ArgsOK.of Z) cN Z Z ?_
 refine vm3 ?_
 refine b4q ?_
 refine zgo ?_
 refine i7 [0,2,6] [1] (λ(u:Nat×Cur×List Bool×List Bool)=>[(8,.v (.int .i64 (u.1:Int)))]) (λ(u:Nat×Cur×List Bool×List Bool)=>[(0,some (.box [.lst 1 (u.2.1.c.map B4),.v (.int .i64 u.2.1.a),.v (.int .u64 u.2.1.s)])),(3,some (.row 132 2 (m0.rs.map q9))),(4,some (.row 4 1 (u.2.2.1.map m8))),(5,some (.row 4 1 (u.2.2.2.map m8))),(6,some (.nest 74 4 (m0.cp.map (r6 104 76)) [])),(7,some (.box [.own 3,.own 4,.own 5,.own 6]))]) (λ(u:Nat×Cur×List Bool×List Bool)=>u.1<=8/\u.2.2.1.length=8/\u.2.2.2.length=8/\okC (n+40+4 * u.1) u.2.1) (λ(u:Nat×Cur×List Bool×List Bool)=>8 - u.1) (0,z.2.1,m0.en,m0.ra) Z Z ?_ ?_ ?_ ?_
 ·exact ⟨Nat.zero_le _,hM0.en,hM0.ra,hz.mono m7⟩
 ·exact b19
 ·exact c6U
 intro u hinv
 obtain ⟨hu1,hu2,hu3,hu⟩:=hinv
 refine vm2 ?_
 refine zcd (λh2=>?_) (λh2=>?_)
 ·refine zgn ?_
  refine s9 (o7 (s9 (l2 8 [1,3,5,6,7] mixed a8 Z Z (λr0=>?_) (λ_ h=>h))))
  refine a06 ?_
  refine b7 (rs:=[4]) a8 Z (AllB.cons ?_ AllB.nil)
  refine g9 [1,3,5,6,7] Z Z (d6 8 [0] Z Z Z (a4B hu J (4)) Z (RowsIn.cons Z RowsIn.nil) Z (λ_=>Z) Z (λx4 ⟨hv4,hc4⟩=>b4 ⟨Z,?_⟩))
  refine zsa 5 ?_
  refine b7 (rs:=[6]) a8 Z (AllB.cons ?_ AllB.nil)
  refine g9 [1,3,5,6,7] Z Z (b5 Z Z (c7 G Z Z Z Z Z J T6) (b4 ⟨Z,?_⟩))
  refine b7 (rs:=[7]) a8 Z (AllB.cons ?_ AllB.nil)
  first | refine f9 [1,3,5,6,7] Z Z (l8 G Z Z Z Z Z (A7 J J) Z Z Z Z Z (Nat.le_of_ble_eq_true Z) Z (b4 ⟨Z,?_⟩)) | refine f9 [1,3,5,6,7] Z Z (l8 G Z Z Z Z Z (A1 J J) Z Z Z Z Z (Nat.le_of_ble_eq_true Z) Z (b4 ⟨Z,?_⟩))
  refine F3 ?_
  refine l2 7 [1,3,4,6,7] mixed a8 Z Z (λr0=>?_) (λ_ h=>h)
  refine a06 ?_
  refine b7 (rs:=[4]) a8 Z (AllB.cons ?_ AllB.nil)
  refine g9 [1,3,4,6,7] Z Z (d6 8 [0] Z Z Z (a4B hc4 J (2)) Z (RowsIn.cons Z RowsIn.nil) Z (λ_=>Z) Z (λx5 ⟨hv5,hc5⟩=>b4 ⟨Z,?_⟩))
  refine b7 (rs:=[5]) a8 Z (AllB.cons ?_ AllB.nil)
  refine g9 [1,3,4,6,7] Z Z (b5 Z Z (c7 G Z Z Z Z Z J T6) (b4 ⟨Z,?_⟩))
  refine b7 (rs:=[6]) a8 Z (AllB.cons ?_ AllB.nil)
  first | refine f9 [1,3,4,6,7] Z Z (l8 G Z Z Z Z Z (A7 J J) Z Z Z Z Z (Nat.le_of_ble_eq_true Z) Z (b4 ⟨Z,?_⟩)) | refine f9 [1,3,4,6,7] Z Z (l8 G Z Z Z Z Z (A1 J J) Z Z Z Z Z (Nat.le_of_ble_eq_true Z) Z (b4 ⟨Z,?_⟩))
  refine F3 ?_
  refine zgo ?_
  refine ⟨(u.1+1,x5.2,u.2.2.1.set u.1 (!x4.1),u.2.2.2.set u.1 x5.1),?_,?_,⟨⟨_,Z,by (first | rfl | (congr 2;simp;omega))⟩,Z,trivial⟩,⟨⟨_,Z,by (first | rfl | (exact congrArg (Row.row _ _) a4x))⟩,Z,Z,⟨⟨_,Z,by (first | rfl | (exact congrArg (Row.row _ _) a4x))⟩,Z,Z,⟨⟨_,Z,by (first | rfl | (exact congrArg (Row.row _ _) a4x))⟩,Z,Z,⟨⟨_,Z,by (first | rfl | (exact congrArg (Row.row _ _) a4x))⟩,Z,Z,⟨⟨_,Z,by (first | rfl | (exact congrArg (Row.row _ _) a4x))⟩,Z,Z,⟨⟨_,Z,by (first | rfl | (exact congrArg (Row.row _ _) a4x))⟩,Z,Z,trivial⟩⟩⟩⟩⟩⟩,Z,Z,Z⟩
  ·exact ⟨by show u.1+1<=8;omega,by show (u.2.2.1.set _ _).length=8;rw [List.length_set];exact hu2,by show (u.2.2.2.set _ _).length=8;rw [List.length_set];exact hu3,hc5.mono m7⟩
  (show 8 - (u.1+1) < 8 - u.1;omega)
 refine zgo ?_
 refine a7 Z (d6 8 [0] Z Z Z (p9 hu J (14)) Z (RowsIn.cons Z RowsIn.nil) Z (λ_=>Z) Z (λx6 ⟨hv6,hc6⟩=>?_))
 refine zgo ?_
 refine i7 [0,2,6] [1] (λ(v:Nat×Cur×Mach)=>[(9,.v (.int .i64 (x6.1 - v.1)))]) (λ(v:Nat×Cur×Mach)=>[(0,some (.box [.lst 1 (v.2.1.c.map B4),.v (.int .i64 v.2.1.a),.v (.int .u64 v.2.1.s)])),(3,some (.row 132 2 (v.2.2.rs.map q9))),(4,some (.row 4 1 (v.2.2.en.map m8))),(5,some (.row 4 1 (v.2.2.ra.map m8))),(6,some (.nest 74 4 (v.2.2.cp.map (r6 104 76)) [])),(7,some (.box [.own 3,.own 4,.own 5,.own 6]))]) (λ(v:Nat×Cur×Mach)=>(v.1:Int)<=x6.1/\MaG v.2.2/\okC (n+100+20 * v.1) v.2.1) (λ(v:Nat×Cur×Mach)=>x6.1.toNat - v.1) (0,x6.2,⟨m0.rs,u.2.2.1,u.2.2.2,m0.cp⟩) Z Z ?_ ?_ ?_ ?_
 ·exact ⟨hv6.1,hM0.lines hu2 hu3,hc6.mono m7⟩
 ·exact b19
 ·exact c6U
 intro v hinv
 obtain ⟨hv1,hV,hv⟩:=hinv
 have hVn:=hV.n
 have hVr:=hV.rn
 have hVa:=hV.ra
 have hVs:=hV.small
 refine vm2 ?_
 refine zcd (λh3=>?_) (λh3=>?_)
 ·refine zgo ?_
  refine a7 Z (d6 8 [0,3,4,5,6] Z Z Z (a30 hv J v.2.2 J) Z (RowsIn.cons Z (RowsIn.cons Z (RowsIn.cons Z (RowsIn.cons Z (RowsIn.cons Z RowsIn.nil))))) Z (λ_=>Z) Z (λx7 ⟨hv7,hc7⟩=>?_))
  refine p6 ?_
  refine d7 G 9 Z Z Z Z Z ?_
  refine zcl (a22 v.2.2 x7.1 J) ?_
  refine zcd (λh4=>?_) (λh4=>?_)
  ·have hst:=h4
   refine s9 ?_
   by_cases hno:b00 v.2.2 x7.1
   ·refine vm3 ?_
    refine d4 13 Z Z Z (ArgsOK.of Z) (a16 v.2.2 x7.1.k x7.1.q x7.1.c x7.1.v hV hst hno) Z Z ?_
    refine vm3 ?_
    refine d7 G 14 Z Z Z Z Z ?_
    refine zwf ?_
    exact c84
   refine vm3 ?_
   refine d4 13 Z Z Z (ArgsOK.of Z) (a4I v.2.2 x7.1.k x7.1.q x7.1.c x7.1.v hV hst hno) Z Z ?_
   refine vm3 ?_
   refine d7 G 14 Z Z Z Z Z ?_
   refine zcd (λh5=>?_) (λh5=>?_)
   ·refine zgn ?_
    refine a2m ?_
    refine r9 (Gh.sub 9 3 A4 Z Z Z) (r9 (Gh.sub 10 4 A4 Z Z Z) (r9 (Gh.sub 11 5 A4 Z Z Z) (r9 (Gh.sub 12 6 A4 Z Z Z) (b4 ⟨(v.1+1,x7.2,(stM v.2.2 x7.1).1),?_,?_,⟨⟨_,Z,by (first | rfl | exact congrArg (λv=>AV.v (.int .i64 v)) b95)⟩,Z,trivial⟩,⟨⟨_,Z,by rfl⟩,Z,Z,⟨⟨_,Z,by rfl⟩,Z,Z,⟨⟨_,Z,by rfl⟩,Z,Z,⟨⟨_,Z,by rfl⟩,Z,Z,⟨⟨_,Z,by rfl⟩,Z,Z,⟨⟨_,Z,by rfl⟩,Z,Z,trivial⟩⟩⟩⟩⟩⟩,Z,Z,Z⟩))))
    ·exact c0h
    (show x6.1.toNat - (v.1+1) < x6.1.toNat - v.1;omega)
   refine zgo ?_
   refine ⟨(v.1+1,x7.2,v.2.2),?_,?_,⟨⟨_,Z,by (first | rfl | exact congrArg (λv=>AV.v (.int .i64 v)) b95)⟩,Z,trivial⟩,⟨⟨_,Z,by rfl⟩,Z,Z,⟨⟨_,Z,by rfl⟩,Z,Z,⟨⟨_,Z,by rfl⟩,Z,Z,⟨⟨_,Z,by rfl⟩,Z,Z,⟨⟨_,Z,by rfl⟩,Z,Z,⟨⟨_,Z,by rfl⟩,Z,Z,trivial⟩⟩⟩⟩⟩⟩,Z,Z,Z⟩
   ·exact c0h
   (show x6.1.toNat - (v.1+1) < x6.1.toNat - v.1;omega)
  exact c84
 refine zgo ?_
 refine a7 Z (d6 8 [0] Z Z Z (p9 hv J (24)) Z (RowsIn.cons Z RowsIn.nil) Z (λ_=>Z) Z (λx8 ⟨hv8,hc8⟩=>?_))
 refine zcd (λh6=>?_) (λh6=>?_)
 ·refine l2 12 [1,4,5,6,7] mixed a8 Z Z (λr0=>?_) (λ_ h=>h)
  refine b7F ?_
  refine zsa 7 ?_
  refine b7 (rs:=[3,5]) a8 Z (AllB.cons ?_ (AllB.cons ?_ AllB.nil))
  ·refine g9 [1,4,5,6,7] Z Z (d6 8 [0] Z Z Z (p9 hc8 J (8)) Z (RowsIn.cons Z RowsIn.nil) Z (λ_=>Z) Z (λx9 ⟨hv9,hc9⟩=>b4 ⟨Z,?_⟩))
   refine b7 (rs:=[5]) a8 Z (AllB.cons ?_ AllB.nil)
   refine g9 [1,4,5,6,7] Z Z (m5 G 9 Z Z Z Z Z Z Z Z (b4 ⟨Z,?_⟩))
   refine b7 (rs:=[6]) a8 Z (AllB.cons ?_ AllB.nil)
   refine g9 [1,4,5,6,7] Z Z (d6 9 [0,8] Z Z Z (I4 hc9 J [3,16] (3) (16) (by decide) (by decide)) Z (RowsIn.cons Z (RowsIn.cons Z RowsIn.nil)) Z (λ_=>Z) Z (λx10 ⟨hv10,hc10⟩=>b4 ⟨Z,?_⟩))
   refine b7 (rs:=[8]) a8 Z (AllB.cons ?_ AllB.nil)
   refine g9 [1,4,5,6,7] Z Z (d6 9 [0] Z Z Z (p9 hc10 J (3)) Z (RowsIn.cons Z RowsIn.nil) Z (λ_=>Z) Z (λx11 ⟨hv11,hc11⟩=>b4 ⟨Z,?_⟩))
   refine zsa 9 ?_
   refine b7 (rs:=[10]) a8 Z (AllB.cons ?_ AllB.nil)
   refine g9 [1,4,5,6,7] Z Z (b5 Z Z (c7 G Z Z Z Z Z J T6) (b4 ⟨Z,?_⟩))
   refine b7 (rs:=[11]) a8 Z (AllB.cons ?_ AllB.nil)
   first | refine f9 [1,4,5,6,7] Z Z (l8 G Z Z Z Z Z (A7 J J) Z Z Z Z Z (Nat.le_of_ble_eq_true Z) Z (b4 ⟨Z,?_⟩)) | refine f9 [1,4,5,6,7] Z Z (l8 G Z Z Z Z Z (A1 J J) Z Z Z Z Z (Nat.le_of_ble_eq_true Z) Z (b4 ⟨Z,?_⟩))
   refine F3 ?_
   refine zgo ?_
   refine d8 (A2 ((⟨v.2.2.rs.set x9.1.toNat ⟨x10.1,x11.1⟩,v.2.2.en,v.2.2.ra,v.2.2.cp⟩,x11.2)) (v6 Z Z Z Z (b3 (c8 Z ?_) (b3 (c8 Z ?_) (b3 (c8 Z ?_) (b3 (A8 Z ?_) d9)))) Z (AftOK.stays Z ?_ Z AftOK.nil)) (⟨?_,?_⟩))
   all_goals (first | rfl | exact hc11.mono J | (dsimp only;rw [List.map_set];rfl) | (rw [List.map_append];rfl) | exact hV.dr | exact hV.dr.setR | exact hV.dr.addA hV.ra | exact hV.dr.setC j7 | exact hV.dr.addC hV.n.2 j7 | (exact congrArg (λz=>Row.nest _ _ z []) a4x))
  refine g9 [1,4,5,6,7] Z Z (m5 G 9 Z Z Z Z Z Z Z Z (b4 ⟨Z,?_⟩))
  refine b7 (rs:=[3]) a8 Z (AllB.cons ?_ AllB.nil)
  refine g9 [1,4,5,6,7] Z Z (d6 9 [0] Z Z Z (p9 hc8 J (8)) Z (RowsIn.cons Z RowsIn.nil) Z (λ_=>Z) Z (λx12 ⟨hv12,hc12⟩=>b4 ⟨Z,?_⟩))
  refine b7 (rs:=[6]) a8 Z (AllB.cons ?_ AllB.nil)
  refine g9 [1,4,5,6,7] Z Z (d6 9 [0,8] Z Z Z (I4 hc12 J [3,16] (3) (16) (by decide) (by decide)) Z (RowsIn.cons Z (RowsIn.cons Z RowsIn.nil)) Z (λ_=>Z) Z (λx13 ⟨hv13,hc13⟩=>b4 ⟨Z,?_⟩))
  refine b7 (rs:=[8]) a8 Z (AllB.cons ?_ AllB.nil)
  refine g9 [1,4,5,6,7] Z Z (d6 9 [0] Z Z Z (p9 hc13 J (3)) Z (RowsIn.cons Z RowsIn.nil) Z (λ_=>Z) Z (λx14 ⟨hv14,hc14⟩=>b4 ⟨Z,?_⟩))
  refine zsa 9 ?_
  refine b7 (rs:=[10]) a8 Z (AllB.cons ?_ AllB.nil)
  refine g9 [1,4,5,6,7] Z Z (b5 Z Z (c7 G Z Z Z Z Z J T6) (b4 ⟨Z,?_⟩))
  refine b7 (rs:=[11]) a8 Z (AllB.cons ?_ AllB.nil)
  first | refine f9 [1,4,5,6,7] Z Z (l8 G Z Z Z Z Z (A7 J J) Z Z Z Z Z (Nat.le_of_ble_eq_true Z) Z (b4 ⟨Z,?_⟩)) | refine f9 [1,4,5,6,7] Z Z (l8 G Z Z Z Z Z (A1 J J) Z Z Z Z Z (Nat.le_of_ble_eq_true Z) Z (b4 ⟨Z,?_⟩))
  refine F3 ?_
  refine zgo ?_
  refine d8 (A2 ((⟨v.2.2.rs.set x12.1.toNat ⟨x13.1,x14.1⟩,v.2.2.en,v.2.2.ra,v.2.2.cp⟩,x14.2)) (v6 Z Z Z Z (b3 (c8 Z ?_) (b3 (c8 Z ?_) (b3 (c8 Z ?_) (b3 (A8 Z ?_) d9)))) Z (AftOK.stays Z ?_ Z AftOK.nil)) (⟨?_,?_⟩))
  all_goals (first | rfl | exact hc14.mono J | (dsimp only;rw [List.map_set];rfl) | (rw [List.map_append];rfl) | exact hV.dr | exact hV.dr.setR | exact hV.dr.addA hV.ra | exact hV.dr.setC j7 | exact hV.dr.addC hV.n.2 j7 | (exact congrArg (λz=>Row.nest _ _ z []) a4x))
 refine zcd (λh7=>?_) (λh7=>?_)
 ·refine vm3 ?_
  refine m5 G 9 Z Z Z Z Z Z Z Z ?_
  refine p6 ?_
  refine I0 (Gh.forget (id:=7) (k:=2) Z Z)<|I0 (Gh.keep [0,1,3,4,5,6,7,8] Z)<|l1 G A4 rfl rfl rfl rfl rfl rfl rfl rfl rfl M8 rfl rfl ?_
  refine zgo ?_
  refine d8 (A2 ((⟨v.2.2.rs,v.2.2.en,v.2.2.ra++[false],v.2.2.cp⟩,x8.2)) (v6 Z Z Z Z (b3 (c8 Z ?_) (b3 (c8 Z ?_) (b3 (c8 Z ?_) (b3 (A8 Z ?_) d9)))) Z (AftOK.stays Z ?_ Z AftOK.nil)) (⟨?_,?_⟩))
  all_goals exact c3o
 refine zcd (λh8=>?_) (λh8=>?_)
 ·refine l2 6 [1,3,4,5,7] mixed a8 Z Z (λr0=>?_) (λ_ h=>h)
  refine zsa 0 ?_
  refine zsa 1 ?_
  refine zsa 2 ?_
  refine b7 (rs:=[3]) a8 Z (AllB.cons ?_ AllB.nil)
  refine g9 [1,3,4,5,7] Z Z (d6 11 [0] Z Z Z (a1x hc8 J) Z (RowsIn.cons Z RowsIn.nil) Z (λ_=>Z) Z (λx15 ⟨hv15,hc15⟩=>b4 ⟨Z,?_⟩))
  refine b7 (rs:=[4]) a8 Z (AllB.cons ?_ AllB.nil)
  refine g9 [1,3,4,5,7] Z Z (b5 Z Z (u5 G Z Z Z Z Z J T6) (b4 ⟨Z,?_⟩))
  refine b7 (rs:=[5]) a8 Z (AllB.cons ?_ AllB.nil)
  first | refine f9 [1,3,4,5,7] Z Z (r8 G Z Z Z Z Z (A7 J J) Z Z (.v Z (.own Z (.own Z (.own Z .nil)))) Z Z Z (Nat.le_of_ble_eq_true Z) (λq h=>by cases h) Z (b4 ⟨Z,?_⟩)) | refine f9 [1,3,4,5,7] Z Z (r8 G Z Z Z Z Z (a3x N0 Z) Z Z (.v Z (.own Z (.own Z (.own Z .nil)))) Z Z Z (Nat.le_of_ble_eq_true Z) (λq h=>by cases h) Z (b4 ⟨Z,?_⟩))
  refine F3 ?_
  refine zgo ?_
  refine d8 (A2 ((⟨v.2.2.rs,v.2.2.en,v.2.2.ra,v.2.2.cp.set 0 x15.1⟩,x15.2)) (v6 Z Z Z Z (b3 (c8 Z ?_) (b3 (c8 Z ?_) (b3 (c8 Z ?_) (b3 (A8 Z ?_) d9)))) Z (AftOK.stays Z ?_ Z AftOK.nil)) (⟨?_,?_⟩))
  all_goals (first | rfl | exact hc15.mono J | (dsimp only;rw [List.map_set];rfl) | (rw [List.map_append];rfl) | exact hV.dr | exact hV.dr.setR | exact hV.dr.addA hV.ra | exact hV.dr.setC j7 | exact hV.dr.addC hV.n.2 j7 | (exact congrArg (λz=>Row.nest _ _ z []) a4x))
 refine zcd (λh9=>?_) (λh9=>?_)
 ·refine T4 8 [1,3,4,5,6,7] [5,7] mixed a8 Z Z (λr0=>?_) (λ_ h=>h)
  refine v1 0 [1,5,6,7] Z a8 a8 a8 Z Z Z Z (d3 G Z Z Z Z) (v1 1 [5,6,7] Z a8 a8 a8 Z Z Z Z (f7 G Z Z Z Z Z Z Z) (v1 2 [3,4,5,6,7] Z a8 a8 a8 Z Z Z Z (b9 Z Z) (w6 3 a8 (B7 [1,3,4,5,6,7] Z Z (d6 11 [0] Z Z Z (a1x hc8 J) Z (RowsIn.cons Z RowsIn.nil) Z (λ_=>Z) Z (λx16 ⟨hv16,hc16⟩=>b4 ⟨Z,?_⟩))))))
  refine w6 4 a8 (B7 [1,3,4,5,6,7] Z Z (B2 G 12 Z Z Z Z Z Z Z Z (.v Z (.own Z (.own Z (.own Z .nil)))) Z Z Z Z (b4 ⟨Z,?_⟩)))
  refine w6 5 a8 (a6i Z Z a8 (I0 (Gh.forget (id:=7) (k:=3) Z Z)<|I0 (Gh.keep [0,1,3,4,5,6,7,11] Z)<|a1n (tx:=107) 13 rfl rfl rfl rfl rfl<|F8 G X9 rfl rfl rfl rfl rfl rfl rfl rfl rfl rfl M8 rfl rfl (b4 ?_)))
  refine c6H ?_
  refine d8 (A2 ((⟨v.2.2.rs,v.2.2.en,v.2.2.ra,v.2.2.cp++[x16.1]⟩,x16.2)) (v6 Z Z Z Z (b3 (c8 Z ?_) (b3 (c8 Z ?_) (b3 (c8 Z ?_) (b3 (A8 Z ?_) d9)))) Z (AftOK.stays Z ?_ Z AftOK.nil)) (⟨?_,?_⟩))
  all_goals (first | rfl | exact hc16.mono J | (dsimp only;rw [List.map_set];rfl) | (rw [List.map_append];rfl) | exact hV.dr | exact hV.dr.setR | exact hV.dr.addA hV.ra | exact hV.dr.setC j7 | exact hV.dr.addC hV.n.2 j7 | (exact congrArg (λz=>Row.nest _ _ z []) a4x))
 refine zgo ?_
 refine d8 (A2 ((v.2.2,x8.2)) (v6 Z Z Z Z (b3 (c8 Z ?_) (b3 (c8 Z ?_) (b3 (c8 Z ?_) (b3 (A8 Z ?_) d9)))) Z (AftOK.stays Z ?_ Z AftOK.nil)) (⟨?_,?_⟩))
 all_goals exact c3o
theorem C8 {x:Cur} {n:Int} (h:okC n x) (hn:n<=860000000000) (m:Mach) (lg:Lg) (hm:m.cp.length<=1048576):CtrX (α:=ByteArray×Cur) Tryz.prog 28 [.ptr 0 0,.agg [.own 1,.own 2,.own 3,.own 4,.v (.string lg.d),.v (.string lg.p),.v (.int .i64 lg.n)]] [.box [.lst 1 (x.c.map B4),.v (.int .i64 x.a),.v (.int .u64 x.s)],.row 132 2 (m.rs.map q9),.row 4 1 (m.en.map m8),.row 4 1 (m.ra.map m8),.nest 74 4 (m.cp.map (r6 104 76)) []] (λy=>(y.1.size<=60)/\okC (n+20) y.2) (λy=>.one (.v (.string y.1))) (λy=>[some (.box [.lst 1 (y.2.c.map B4),.v (.int .i64 y.2.a),.v (.int .u64 y.2.s)]),some (.row 132 2 (m.rs.map q9)),some (.row 4 1 (m.en.map m8)),some (.row 4 1 (m.ra.map m8)),some (.nest 74 4 (m.cp.map (r6 104 76)) [])]):=by
 refine CtrX.of (n:=63) (k:=5) G Tryz.func28 Z Y Z Z Z Z (λ_=>Z) Z Z (λw0 _ hpin=>?_)
 refine c1 (λK1 hK1=>?_)
 refine b6 (a7 Z (B3 6 Z Z Z Z Z Z Z (a7 Z (b5 Z Z (b8 Z Z) (b4 (hK1 _ ?_))))))
 clear hK1 K1
 refine c1 (λK2 hK2=>?_)
 refine b6 (a7 Z (b5 Z Z (b9 Z Z) (a7 Z ?_)))
 refine d6 6 [0] Z Z Z (p9 h J (8)) Z (RowsIn.cons Z RowsIn.nil) Z (λ_=>Z) Z (λx1 ⟨hv1,hc1⟩=>?_)
 have hn1:=w8 (n:=x1.1) J J
 refine a7 Z (b5 Z Z (j4 Z (ArgsOK.of Z) (u7 x1.1 J J) Z) (a7 Z (b5 Z Z (b8 Z Z) (b4 (hK2 _ ?_)))))
 clear hK2 K2
 refine c1 (λK3 hK3=>?_)
 refine b6 (a7 Z (b5 Z Z (b9 Z Z) (a7 Z (b5 Z Z (d3 G Z Z Z Z) (a7 Z (b5 Z Z (d3 G Z Z Z Z) (a7 Z (b5 Z Z (f7 G Z Z Z Z Z Z Z) (a7 Z ?_)))))))))
 first | refine b5 Z Z (E1 G Z Z Z Z (List.length_map _)) ?_ | refine b5 Z Z (K0 G Z Z Z Z) ?_
 refine a7 Z (b5 Z Z (j4 Z (ArgsOK.of Z) (a5M _ _) Z) (a7 Z ?_))
 refine d6 6 [0] Z Z Z (p9 hc1 J _) Z (RowsIn.cons Z RowsIn.nil) Z (λ_=>Z) Z (λx2 ⟨hv2,hc2⟩=>?_)
 have hn2:=w8 (n:=x2.1) J J
 refine a7 Z (b5 Z Z (j4 Z (ArgsOK.of Z) (u7 x2.1 J J) Z) (a7 Z (b5 Z Z (b8 Z Z) (b4 (hK3 _ ?_)))))
 clear hK3 K3
 refine c1 (λK4 hK4=>?_)
 refine c1 (λK5 hK5=>?_)
 refine b6 (a7 Z (b5 Z Z (b9 Z Z) (a7 Z ?_)))
 refine d6 6 [0] Z Z Z (p9 hc2 J (12)) Z (RowsIn.cons Z RowsIn.nil) Z (λ_=>Z) Z (λx3 ⟨hv3,hc3⟩=>?_)
 refine b4 (hK5 _ ?_)
 clear hK5 K5
 refine o7 ?_
 refine c1 (λK6 hK6=>?_)
 refine c1 (λK7 hK7=>?_)
 refine b6 (a7 Z (b5 Z Z (t8 Z Z Z Z) (a7 Z (b5 Z Z (b8 Z Z) (b4 (hK7 _ ?_))))))
 clear hK7 K7
 refine l4 Z (λh1=>?_) (λh1=>?_)
 ·try rw [h1]
  try simp only [rfb] at h1
  refine p8 (hK6 _ ?_)
  clear hK6 K6
  refine J4 Z ?_
  refine c1 (λK8 hK8=>?_)
  refine b6 (a7 Z (b5 Z Z (b9 Z Z) (a7 Z (b5 Z Z (s6 Z Z Z (by (try simp only [ByteArray.size_append,i8,List.size_toArray,List.length_cons,List.length_nil]);omega)) (a7 Z (b5 Z Z (b8 Z Z) (b4 (hK8 _ ?_))))))))
  clear hK8 K8
  exact c9d
 ·try rw [h1]
  try simp only [rfb] at h1
  refine b6 (a7 Z (b5 Z Z (t8 Z Z Z Z) (a7 Z (b5 Z Z (b8 Z Z) (b4 (hK6 _ ?_))))))
  clear hK6 K6
  refine l4 Z (λh2=>?_) (λh2=>?_)
  ·try rw [h2]
   try simp only [rfb] at h2
   refine c1 (λK9 hK9=>?_)
   refine b6 (a7 Z (b5 Z Z (b9 Z Z) (a7 Z (b5 Z Z (s6 Z Z Z (by (try simp only [ByteArray.size_append,i8,List.size_toArray,List.length_cons,List.length_nil]);omega)) (a7 Z (b5 Z Z (b8 Z Z) (b4 (hK9 _ ?_))))))))
   clear hK9 K9
   exact c9d
  ·try rw [h2]
   try simp only [rfb] at h2
   refine c1 (λK10 hK10=>?_)
   refine b6 (a7 Z (b5 Z Z (t8 Z Z Z Z) (a7 Z (b5 Z Z (b8 Z Z) (b4 (hK10 _ ?_))))))
   clear hK10 K10
   refine l4 Z (λh3=>?_) (λh3=>?_)
   ·try rw [h3]
    try simp only [rfb] at h3
    refine c1 (λK11 hK11=>?_)
    refine b6 (a7 Z (b5 Z Z (b9 Z Z) (a7 Z (b5 Z Z (s6 Z Z Z (by (try simp only [ByteArray.size_append,i8,List.size_toArray,List.length_cons,List.length_nil]);omega)) (a7 Z (b5 Z Z (b8 Z Z) (b4 (hK11 _ ?_))))))))
    clear hK11 K11
    refine d8 (A2 (((⟨#[101,110,97,98,108,101,32]⟩:ByteArray)++s5 x1.1,x3.2)) (n9 Z (j8 ?_) Z (AftOK.stays Z ?_ Z (AftOK.stays Z ?_ Z (AftOK.stays Z ?_ Z (AftOK.stays Z ?_ Z (AftOK.stays Z ?_ Z AftOK.nil)))))) (⟨?_,?_⟩))
    all_goals clear hK4 K4
    all_goals (first | rfl | trivial | exact hc3.mono J | (show ByteArray.size _<=60;(try simp only [ByteArray.size_append,i8,List.size_toArray,List.length_cons,List.length_nil]);omega))
   ·try rw [h3]
    try simp only [rfb] at h3
    refine c1 (λK12 hK12=>?_)
    refine b6 (a7 Z (b5 Z Z (t8 Z Z Z Z) (a7 Z (b5 Z Z (b8 Z Z) (b4 (hK12 _ ?_))))))
    clear hK12 K12
    refine l4 Z (λh4=>?_) (λh4=>?_)
    ·try rw [h4]
     try simp only [rfb] at h4
     refine c1 (λK13 hK13=>?_)
     refine b6 (a7 Z (b5 Z Z (b9 Z Z) (a7 Z (m5 G 7 Z Z Z Z Z Z Z Z (a7 Z ?_)))))
     refine d6 7 [0,6] Z Z Z (b4y hc3 J [⟨#[100,105,115,97,98,108,101,32]⟩,⟨#[101,110,97,98,108,101,32]⟩,⟨#[101,110,97,98,108,101,32]⟩] (by decide)) Z (RowsIn.cons Z (RowsIn.cons Z RowsIn.nil)) Z (λ_=>Z) Z (λx4 ⟨hv4,hc4⟩=>?_)
     have hs4:=a0G (n:=10) hv4 (by decide)
     refine a7 Z (b5 Z Z (b9 Z Z) (a7 Z (b5 Z Z (s6 Z Z Z (by (try simp only [ByteArray.size_append,i8,List.size_toArray,List.length_cons,List.length_nil]);omega)) (a7 Z (b5 Z Z (b8 Z Z) (b4 (hK13 _ ?_)))))))
     clear hK13 K13
     refine d8 (A2 ((x4.1++s5 x1.1,x4.2)) (n9 Z (j8 ?_) Z (AftOK.stays Z ?_ Z (AftOK.stays Z ?_ Z (AftOK.stays Z ?_ Z (AftOK.stays Z ?_ Z (AftOK.stays Z ?_ Z AftOK.nil)))))) (⟨?_,?_⟩))
     all_goals clear hK4 K4
     all_goals (first | rfl | trivial | exact hc4.mono J | (show ByteArray.size _<=60;(try simp only [ByteArray.size_append,i8,List.size_toArray,List.length_cons,List.length_nil]);omega))
    ·try rw [h4]
     try simp only [rfb] at h4
     refine c1 (λK14 hK14=>?_)
     refine c1 (λK15 hK15=>?_)
     refine b6 (a7 Z (b5 Z Z (t8 Z Z Z Z) (a7 Z (b5 Z Z (b8 Z Z) (b4 (hK15 _ ?_))))))
     clear hK15 K15
     refine l4 Z (λh5=>?_) (λh5=>?_)
     ·try rw [h5]
      try simp only [rfb] at h5
      refine p8 (hK14 _ ?_)
      clear hK14 K14
      refine J4 Z ?_
      refine c1 (λK16 hK16=>?_)
      refine b6 (a7 Z (b5 Z Z (b8 Z Z) (b4 (hK16 _ ?_))))
      clear hK16 K16
      exact c9f
     ·try rw [h5]
      try simp only [rfb] at h5
      refine b6 (a7 Z (b5 Z Z (t8 Z Z Z Z) (a7 Z (b5 Z Z (b8 Z Z) (b4 (hK14 _ ?_))))))
      clear hK14 K14
      refine l4 Z (λh6=>?_) (λh6=>?_)
      ·try rw [h6]
       try simp only [rfb] at h6
       refine c1 (λK17 hK17=>?_)
       refine b6 (a7 Z (b5 Z Z (b8 Z Z) (b4 (hK17 _ ?_))))
       clear hK17 K17
       exact c9f
      ·try rw [h6]
       try simp only [rfb] at h6
       refine c1 (λK18 hK18=>?_)
       refine c1 (λK19 hK19=>?_)
       refine b6 (a7 Z (b5 Z Z (t8 Z Z Z Z) (a7 Z (b5 Z Z (b8 Z Z) (b4 (hK19 _ ?_))))))
       clear hK19 K19
       refine l4 Z (λh7=>?_) (λh7=>?_)
       ·try rw [h7]
        try simp only [rfb] at h7
        refine p8 (hK18 _ ?_)
        clear hK18 K18
        refine J4 Z ?_
        refine c1 (λK20 hK20=>?_)
        refine b6 (a7 Z (b5 Z Z (b9 Z Z) (a7 Z (b5 Z Z (s6 Z Z Z (by (try simp only [ByteArray.size_append,i8,List.size_toArray,List.length_cons,List.length_nil]);omega)) (a7 Z (b5 Z Z (b8 Z Z) (b4 (hK20 _ ?_))))))))
        clear hK20 K20
        exact c9e
       ·try rw [h7]
        try simp only [rfb] at h7
        refine b6 (a7 Z (b5 Z Z (t8 Z Z Z Z) (a7 Z (b5 Z Z (b8 Z Z) (b4 (hK18 _ ?_))))))
        clear hK18 K18
        refine l4 Z (λh8=>?_) (λh8=>?_)
        ·try rw [h8]
         try simp only [rfb] at h8
         refine c1 (λK21 hK21=>?_)
         refine b6 (a7 Z (b5 Z Z (b9 Z Z) (a7 Z (b5 Z Z (s6 Z Z Z (by (try simp only [ByteArray.size_append,i8,List.size_toArray,List.length_cons,List.length_nil]);omega)) (a7 Z (b5 Z Z (b8 Z Z) (b4 (hK21 _ ?_))))))))
         clear hK21 K21
         exact c9e
        ·try rw [h8]
         try simp only [rfb] at h8
         refine c1 (λK22 hK22=>?_)
         refine b6 (a7 Z (b5 Z Z (t8 Z Z Z Z) (a7 Z (b5 Z Z (b8 Z Z) (b4 (hK22 _ ?_))))))
         clear hK22 K22
         refine l4 Z (λh9=>?_) (λh9=>?_)
         ·try rw [h9]
          try simp only [rfb] at h9
          refine c1 (λK23 hK23=>?_)
          refine b6 (a7 Z (b5 Z Z (b9 Z Z) (a7 Z (b5 Z Z (s6 Z Z Z (by (try simp only [ByteArray.size_append,i8,List.size_toArray,List.length_cons,List.length_nil]);omega)) (a7 Z (b5 Z Z (b8 Z Z) (b4 (hK23 _ ?_))))))))
          clear hK23 K23
          refine d8 (A2 (((⟨#[108,101,97,118,101,32]⟩:ByteArray)++s5 x2.1,x3.2)) (n9 Z (j8 ?_) Z (AftOK.stays Z ?_ Z (AftOK.stays Z ?_ Z (AftOK.stays Z ?_ Z (AftOK.stays Z ?_ Z (AftOK.stays Z ?_ Z AftOK.nil)))))) (⟨?_,?_⟩))
          all_goals clear hK4 K4
          all_goals (first | rfl | trivial | exact hc3.mono J | (show ByteArray.size _<=60;(try simp only [ByteArray.size_append,i8,List.size_toArray,List.length_cons,List.length_nil]);omega))
         ·try rw [h9]
          try simp only [rfb] at h9
          refine c1 (λK24 hK24=>?_)
          refine b6 (a7 Z (b5 Z Z (t8 Z Z Z Z) (a7 Z (b5 Z Z (b8 Z Z) (b4 (hK24 _ ?_))))))
          clear hK24 K24
          refine l4 Z (λh10=>?_) (λh10=>?_)
          ·try rw [h10]
           try simp only [rfb] at h10
           refine c1 (λK25 hK25=>?_)
           refine b6 (a7 Z (b5 Z Z (b9 Z Z) (a7 Z (m5 G 7 Z Z Z Z Z Z Z Z (a7 Z ?_)))))
           refine d6 7 [0,6] Z Z Z (b4y hc3 J [⟨#[112,101,110,100,105,110,103,32]⟩,⟨#[115,116,97,99,107,32]⟩,⟨#[110,101,120,116,32]⟩,⟨#[115,108,111,116,115,32]⟩] (by decide)) Z (RowsIn.cons Z (RowsIn.cons Z RowsIn.nil)) Z (λ_=>Z) Z (λx5 ⟨hv5,hc5⟩=>?_)
           have hs5:=a0G (n:=10) hv5 (by decide)
           refine a7 Z (b5 Z Z (b9 Z Z) (a7 Z (b5 Z Z (s6 Z Z Z (by (try simp only [ByteArray.size_append,i8,List.size_toArray,List.length_cons,List.length_nil]);omega)) (a7 Z (b5 Z Z (b8 Z Z) (b4 (hK25 _ ?_)))))))
           clear hK25 K25
           refine d8 (A2 ((x5.1++s5 x2.1,x5.2)) (n9 Z (j8 ?_) Z (AftOK.stays Z ?_ Z (AftOK.stays Z ?_ Z (AftOK.stays Z ?_ Z (AftOK.stays Z ?_ Z (AftOK.stays Z ?_ Z AftOK.nil)))))) (⟨?_,?_⟩))
           all_goals clear hK4 K4
           all_goals (first | rfl | trivial | exact hc5.mono J | (show ByteArray.size _<=60;(try simp only [ByteArray.size_append,i8,List.size_toArray,List.length_cons,List.length_nil]);omega))
          ·try rw [h10]
           try simp only [rfb] at h10
           refine c1 (λK26 hK26=>?_)
           refine b6 (a7 Z (b5 Z Z (t8 Z Z Z Z) (a7 Z (b5 Z Z (b8 Z Z) (b4 (hK26 _ ?_))))))
           clear hK26 K26
           refine l4 Z (λh11=>?_) (λh11=>?_)
           ·try rw [h11]
            try simp only [rfb] at h11
            refine c1 (λK27 hK27=>?_)
            refine b6 (a7 Z (b5 Z Z (b9 Z Z) (a7 Z (m5 G 7 Z Z Z Z Z Z Z Z (a7 Z ?_)))))
            refine d6 7 [0,6] Z Z Z (b4y hc3 J [⟨#[114,97,105,115,101,100]⟩,⟨#[105,100,108,101]⟩,⟨#[109,97,115,107,32,48,32,49,54]⟩,⟨#[109,97,115,107,32,48,32,52]⟩,⟨#[109,97,115,107,32,49,32,56]⟩] (by decide)) Z (RowsIn.cons Z (RowsIn.cons Z RowsIn.nil)) Z (λ_=>Z) Z (λx6 ⟨hv6,hc6⟩=>?_)
            have hs6:=a0G (n:=10) hv6 (by decide)
            refine a7 Z (b5 Z Z (b8 Z Z) (b4 (hK27 _ ?_)))
            clear hK27 K27
            refine d8 (A2 ((x6.1,x6.2)) (n9 Z (j8 ?_) Z (AftOK.stays Z ?_ Z (AftOK.stays Z ?_ Z (AftOK.stays Z ?_ Z (AftOK.stays Z ?_ Z (AftOK.stays Z ?_ Z AftOK.nil)))))) (⟨?_,?_⟩))
            all_goals clear hK4 K4
            all_goals (first | rfl | trivial | exact hc6.mono J | (show ByteArray.size _<=60;(try simp only [ByteArray.size_append,i8,List.size_toArray,List.length_cons,List.length_nil]);omega))
           ·try rw [h11]
            try simp only [rfb] at h11
            refine p8 (hK4 _ ?_)
            clear hK4 K4
            refine c1 (λK28 hK28=>?_)
            refine b6 (a7 Z (b5 Z Z (b9 Z Z) (a7 Z (m5 G 7 Z Z Z Z Z Z Z Z (a7 Z ?_)))))
            refine d6 7 [0,6] Z Z Z (b4y hc3 J [⟨#[]⟩,⟨#[119,104,97,116]⟩,⟨#[114,97,105,115,101]⟩,⟨#[114,97,105,115,101,32,56]⟩,⟨#[116,97,107,101,32,50]⟩,⟨#[109,97,115,107,32,48]⟩,⟨#[109,97,115,107,32,48,32,49,55]⟩,⟨#[115,121,110,99,32,49]⟩,⟨#[97,64,98]⟩,⟨#[114,97,105,115,101,32,45,49]⟩,⟨#[115,108,111,116,115,32,50]⟩,⟨#[105,100,108,101,32,48,32,48]⟩] (by decide)) Z (RowsIn.cons Z (RowsIn.cons Z RowsIn.nil)) Z (λ_=>Z) Z (λx7 ⟨hv7,hc7⟩=>?_)
            have hs7:=a0G (n:=10) hv7 (by decide)
            refine a7 Z (b5 Z Z (b8 Z Z) (b4 (hK28 _ ?_)))
            clear hK28 K28
            refine d8 (A2 ((x7.1,x7.2)) (n9 Z (j8 ?_) Z (AftOK.stays Z ?_ Z (AftOK.stays Z ?_ Z (AftOK.stays Z ?_ Z (AftOK.stays Z ?_ Z (AftOK.stays Z ?_ Z AftOK.nil)))))) (⟨?_,?_⟩))
            all_goals (first | rfl | trivial | exact hc7.mono J | (show ByteArray.size _<=60;(try simp only [ByteArray.size_append,i8,List.size_toArray,List.length_cons,List.length_nil]);omega))
end Go.Proofs.YtdhckhjphmjniaaGreatDoor
