/- Texts merged into one: M20, C1, Q2, M22, M25, M24. -/
import Derived.Test.YtpfhomblkgmkkaaGreatDoorPFnExactExecuteCommandF
set_option maxHeartbeats 4000000
set_option linter.unusedSimpArgs false
set_option linter.unusedVariables false
set_option maxRecDepth 20000
namespace Go.Proofs.YtpfhomblkgmkkaaGreatDoor
open Go Go.Rf
theorem b0e (xs:List Slot) (l:Int) (h0:xs.length<=9223372036854775807) (hl:0<=l/\l<=1048576):Ctr Tryz.prog 187 [.lst 3 (xs.map e9),.v (.int .i64 l)] (.one (.v (.int .i64 (szL xs.length l)))):=by
 refine Ctr.of (n:=12) G Tryz.func187 Z a8 Z Z Z (λw0=>?_)
 exact b9G
theorem a7v (xs:List Wtr) (l:Int) (h0:xs.length<=9223372036854775807) (hl:0<=l/\l<=1048576):Ctr Tryz.prog 188 [.lst 2 (xs.map e7),.v (.int .i64 l)] (.one (.v (.int .i64 (szL xs.length l)))):=by
 refine Ctr.of (n:=12) G Tryz.func188 Z a8 Z Z Z (λw0=>?_)
 exact b9G
theorem b0f (q:Que) (l:Int) (h0:q.sl.length<=9223372036854775807) (hw:q.wa.length<=9223372036854775807) (hl:0<=l/\l<=1048576):Ctr Tryz.prog 135 [.agg [.lst 3 (q.sl.map e9),.lst 2 (q.wa.map e7)],.v (.int .i64 l)] (.one (.v (.int .i64 (szQ q l)))):=by
 refine Ctr.of (n:=18) G Tryz.func135 Z a8 Z Z Z (λw0=>?_)
 refine j5 0 Z (λ_=>Z) (λu0=>?_)
 refine vm3 ?_
 refine zcl (b0e q.sl l h0 hl) ?_
 refine zcd (λh1=>?_) (λh1=>?_)
 ·exact c6f
 refine zcl (a7v q.wa _ hw (a3f hl J)) ?_
 refine zcd (λh2=>?_) (λh2=>?_)
 ·exact c6f
 exact c6f
theorem a5e (x:Ifc) (l:Int) (hb:BigI x) (hl:0<=l/\l<=1048576):Ctr Tryz.prog 90 [.agg [.v (.int .i64 x.ma),.lst 1 (x.st.map Rf.n7),.lst 3 (x.qu.sl.map e9),.lst 2 (x.qu.wa.map e7)],.v (.int .i64 l)] (.one (.v (.int .i64 (if l - szI x < 0 then -1 else l - szI x)))):=by
 refine Ctr.of (n:=18) G Tryz.func90 Z a8 Z Z Z (λw0=>?_)
 refine j5 0 Z (λ_=>Z) (λu0=>?_)
 refine vm3 ?_
 refine zcl (b0C x.st l hb.st hl) ?_
 refine zcd (λh1=>?_) (λh1=>?_)
 ·exact c6b
 refine zcl (b0f x.qu _ hb.sl hb.wa (a3f hl J)) ?_
 refine zcd (λh2=>?_) (λh2=>?_)
 ·exact c6b
 exact c6b
theorem a4l (xs:List Ifc) (l:Int) (h0:xs.length<=9223372036854775807) (hz:∀i,i < xs.length→BigI (xs.getD i default)) (hl:0<=l/\l<=1048576):Ctr Tryz.prog 52 [.nst none 4 (xs.map (l8 169 182)),.v (.int .i64 l)] (.one (.v (.int .i64 (b0w xs l)))):=by
 refine Ctr.of (n:=27) G Tryz.func52 Z a8 Z Z Z (λw0=>?_)
 refine zgn ?_
 refine a2G ?_
 refine vm2 ?_
 refine C8 ?_
 refine j9 Z (λh1=>?_) (λh1=>?_)
 ·try rw [h1]
  try simp only [rfb] at h1
  exact c8h
 try rw [h1]
 try simp only [rfb] at h1
 refine C8 ?_
 refine r4 (e6 [0] [] (λ(i:Nat)=>[(1,.v (.int .i64 (l - xs.length - sumI xs i))),(5,.v (.int .i64 (i:Int)))]) (λ(i:Nat)=>[]) (λ(i:Nat)=>i<=xs.length/\0<=l - xs.length - sumI xs i) (λ(i:Nat)=>xs.length - i) 0 Z Z ?_ ?_ ?_ ?_)
 ·(refine ⟨Nat.zero_le _,?_⟩;simp only [sumI];omega)
 ·exact ⟨⟨_,Z,by (first | rfl | (simp only [sumI];congr 2;omega))⟩,Z,⟨⟨_,Z,by (first | rfl | (simp only [sumI];congr 2;omega))⟩,Z,trivial⟩⟩
 ·exact trivial
 intro i hinv
 have hln:=@a33 xs i
 refine vm4 ?_
 refine zgn ?_
 refine j9 Z (λh2=>?_) (λh2=>?_)
 ·try rw [h2]
  try simp only [rfb] at h2
  refine a2H ?_
  refine n9 (b8 ?_)
  iterate 5 refine zst ?_
  refine vm5 ?_
  refine b5 Z Z (f7 Z (ArgsOK.of Z) (a5e _ _ (hz i J) J) Z) ?_
  refine C8 ?_
  refine j9 Z (λh3=>?_) (λh3=>?_)
  ·try rw [h3]
   try simp only [rfb] at h3
   exact c8h
  try rw [h3]
  try simp only [rfb] at h3
  refine zgn ?_
  refine U7 ?_
  refine ⟨(i+1),?_,?_,⟨⟨_,Z,by (first | rfl | (congr 2;rw [I5];rw [if_neg (by split at h3<;>omega)];omega))⟩,Z,⟨⟨_,Z,by (first | rfl | (congr 2;rw [I5];rw [if_neg (by split at h3<;>omega)];omega))⟩,Z,trivial⟩⟩,trivial,Z,Z,Z⟩
  ·(refine ⟨by omega,?_⟩;rw [I5];split at h3<;>omega)
  omega
 try rw [h2]
 try simp only [rfb] at h2
 refine zgn ?_
 refine a1P ?_
 all_goals exact c2u
theorem a7w (m:Mach) (l:Int) (hb:BigM m) (hl:0<=l/\l<=1048576):Ctr Tryz.prog 25 [.agg [.lst 2 (m.rs.map m4),.lst 1 (m.en.map j4),.lst 1 (m.ra.map j4),.nst none 4 (m.cp.map (l8 169 182))],.v (.int .i64 l)] (.one (.v (.int .i64 (a7a m l)))):=by
 refine Ctr.of (n:=30) G Tryz.func25 Z a8 Z Z Z (λw0=>?_)
 refine j5 0 Z (λ_=>Z) (λu0=>?_)
 refine vm3 ?_
 refine zcl (a8i m.rs l hb.rs hl) ?_
 refine zcd (λh1=>?_) (λh1=>?_)
 ·exact b9F
 refine zcl (a3x m.en _ hb.en (a3f hl J)) ?_
 refine zcd (λh2=>?_) (λh2=>?_)
 ·exact b9F
 refine zcl (a3x m.ra _ hb.ra (a3f (a3f hl J) J)) ?_
 refine zcd (λh3=>?_) (λh3=>?_)
 ·exact b9F
 refine zcl (a4l m.cp _ hb.cp hb.all (a3f (a3f (a3f hl J) J) J)) ?_
 refine zcd (λh4=>?_) (λh4=>?_)
 ·exact b9F
 exact b9F
theorem b0P (x:Slot):Ctr Tryz.prog 246 [.v (a2x x)] (.one (.v (a2x x))):=by
 refine Ctr.of (n:=14) G Tryz.func246 Z a8 Z Z Z (λw0=>?_)
 exact c1z
theorem b0g (xs:List Slot) (hn:xs.length<=1048576):Ctr Tryz.prog 198 [.lst 3 (xs.map e9)] (.one (.fr 169 3 (xs.map e9))):=by
 refine Ctr.of (n:=23) G Tryz.func198 Z a8 Z Z Z (λw0=>?_)
 refine b9w ?_
 refine e6 [0,3] [] (λ(i:Nat)=>[(4,.v (.int .i64 (i:Int)))]) (λ(i:Nat)=>[(0,some (.row 169 3 (a2E e9 (e9 zSl) xs i)))]) (λ(i:Nat)=>i<=xs.length) (λ(i:Nat)=>xs.length - i) 0 Z Z ?_ ?_ ?_ ?_
 ·exact B2
 ·exact u6
 ·exact b1J
 intro i hinv
 refine vm4 ?_
 refine zcd (λh1=>?_) (λh1=>?_)
 ·refine zcl (b0P _) ?_
  exact c1u
 refine zfo ?_
 all_goals exact b9n
theorem a8A (x:Wtr):Ctr Tryz.prog 247 [.v (a0T x)] (.one (.v (a0T x))):=by
 refine Ctr.of (n:=11) G Tryz.func247 Z a8 Z Z Z (λw0=>?_)
 exact c1z
theorem a7x (xs:List Wtr) (hn:xs.length<=1048576):Ctr Tryz.prog 199 [.lst 2 (xs.map e7)] (.one (.fr 182 2 (xs.map e7))):=by
 refine Ctr.of (n:=23) G Tryz.func199 Z a8 Z Z Z (λw0=>?_)
 refine b9w ?_
 refine e6 [0,3] [] (λ(i:Nat)=>[(4,.v (.int .i64 (i:Int)))]) (λ(i:Nat)=>[(0,some (.row 182 2 (a2E e7 (e7 ⟨0,0⟩) xs i)))]) (λ(i:Nat)=>i<=xs.length) (λ(i:Nat)=>xs.length - i) 0 Z Z ?_ ?_ ?_ ?_
 ·exact B2
 ·exact u6
 ·exact b1J
 intro i hinv
 refine vm4 ?_
 refine zcd (λh1=>?_) (λh1=>?_)
 ·refine zcl (a8A _) ?_
  exact c1u
 refine zfo ?_
 all_goals exact b9n
theorem b0h (q:Que) (hl:q.sl.length<=1048576) (hw:q.wa.length<=1048576):Ctr Tryz.prog 151 [.agg [.lst 3 (q.sl.map e9),.lst 2 (q.wa.map e7)]] (.shp true [some 2] [.fr 169 3 (q.sl.map e9),.fr 182 2 (q.wa.map e7)]):=by
 refine Ctr.of (n:=13) G Tryz.func151 Z a8 Z Z Z (λw0=>?_)
 refine j5 0 Z (λ_=>Z) (λu0=>?_)
 refine N3 ?_
 refine zgo ?_
 refine a7k ?_
 refine p8 ?_
 refine c8 4 Z Z Z (ArgsOK.of Z) (b0g q.sl hl) Z Z ?_
 refine p8 ?_
 refine c8 5 Z Z Z (ArgsOK.of Z) (a7x q.wa hw) Z Z ?_
 refine zgo ?_
 refine f6 (m8 Z Z Z Z (b4 (d7 Z ?_) (b4 (d7 Z ?_) f8)))
 all_goals (rfl)
theorem a5f (x:Ifc) (hn:x.st.length<=1048576) (hl:x.qu.sl.length<=1048576) (hw:x.qu.wa.length<=1048576):Ctr Tryz.prog 103 [.agg [.v (.int .i64 x.ma),.lst 1 (x.st.map Rf.n7),.lst 3 (x.qu.sl.map e9),.lst 2 (x.qu.wa.map e7)]] (.shp true [some 4] [.v (.int .i64 x.ma),.fr 3 1 (x.st.map Rf.n7),.fr 169 3 (x.qu.sl.map e9),.fr 182 2 (x.qu.wa.map e7)]):=by
 refine Ctr.of (n:=16) G Tryz.func103 Z a8 Z Z Z (λw0=>?_)
 refine j5 0 Z (λ_=>Z) (λu0=>?_)
 refine N3 ?_
 refine zgo ?_
 refine a7k ?_
 refine p8 ?_
 refine c8 4 Z Z Z (ArgsOK.of Z) (b0D x.st hn) Z Z ?_
 refine p8 ?_
 refine c8 6 Z Z Z (ArgsOK.of Z) (b0h x.qu hl hw) Z Z ?_
 refine zgo ?_
 exact c57
theorem a4m (xs:List Ifc) (hn:xs.length<=1048576) (hz:sumI xs xs.length<=1048576):Ctr Tryz.prog 63 [.nst none 4 (xs.map (l8 169 182))] (.one (.ne 135 4 (xs.map (l8 169 182)))):=by
 refine Ctr.of (n:=23) G Tryz.func63 Z a8 Z Z Z (λw0=>?_)
 refine zgn ?_
 refine a45 ?_
 refine b5a (n:=xs.length) G 1 Z Z Z Z Z Z Z (by first | rfl | simp) (by first | rfl | simp) J J<|a0s (Gh.nest (id:=0) (yss:=List.replicate (xs.length) [.v (.int .i64 0),.l 3 1 [],.l 169 3 [],.l 182 2 []]) Z (by simp) (a77 (.v (.s (.s (.s .nil)))))) ?_
 refine zgo ?_
 refine e6 [0,3] [] (λ(i:Nat)=>[(4,.v (.int .i64 (i:Int)))]) (λ(i:Nat)=>[(0,some (.nest 135 4 (a2E (l8 169 182) ((l8 169 182) noI) xs i) []))]) (λ(i:Nat)=>i<=xs.length) (λ(i:Nat)=>xs.length - i) 0 Z Z ?_ ?_ ?_ ?_
 ·exact B2
 ·exact u6
 ·exact b1J
 intro i hinv
 refine vm4 ?_
 refine zcd (λh1=>?_) (λh1=>?_)
 ·have hs1:=a3l (xs:=xs) (i:=i) (n:=xs.length) J
  have hs2:szI (xs.getD i default)=(xs.getD i default).st.length+(xs.getD i default).qu.sl.length+(xs.getD i default).qu.wa.length:=rfl
  refine p8 ?_
  refine c8 4 Z Z Z (ArgsOK.of Z) (a5f (xs.getD i default) J J J) Z Z ?_
  refine vm5 ?_
  refine b5 Z Z (p9 G Z Z Z Z Z J (by rw [b27 J];omega)) ?_
  refine vm5 ?_
  refine p4 G Z Z Z Z Z (b28 J) Z Z (.v Z (.own Z (.own Z (.own Z .nil)))) Z Z Z (Nat.le_of_ble_eq_true Z) (λq h=>by cases h) (b29 J) ?_
  refine zgo ?_
  refine ⟨(i+1),?_,?_,⟨⟨_,Z,by rfl⟩,Z,trivial⟩,⟨⟨_,Z,by rfl⟩,Z,Z,trivial⟩,Z,Z,Z⟩
  ·omega
  omega
 refine zgo ?_
 refine f6 (D0 Z (C7 Z ?_))
 all_goals exact b9n
theorem a7y (m:Mach) (hs:SmallM m):Ctr Tryz.prog 31 [.agg [.lst 2 (m.rs.map m4),.lst 1 (m.en.map j4),.lst 1 (m.ra.map j4),.nst none 4 (m.cp.map (l8 169 182))]] (.shp true [some 4] [.fr 83 2 (m.rs.map m4),.fr 4 1 (m.en.map j4),.fr 4 1 (m.ra.map j4),.ne 135 4 (m.cp.map (l8 169 182))]):=by
 refine Ctr.of (n:=21) G Tryz.func31 Z a8 Z Z Z (λw0=>?_)
 refine j5 0 Z (λ_=>Z) (λu0=>?_)
 refine N3 ?_
 refine zgo ?_
 refine a7k ?_
 refine p8 ?_
 refine c8 4 Z Z Z (ArgsOK.of Z) (a8j m.rs hs.rs) Z Z ?_
 refine p8 ?_
 refine c8 5 Z Z Z (ArgsOK.of Z) (a3y m.en hs.en) Z Z ?_
 refine p8 ?_
 refine c8 6 Z Z Z (ArgsOK.of Z) (a3y m.ra hs.ra) Z Z ?_
 refine p8 ?_
 refine c8 7 Z Z Z (ArgsOK.of Z) (a4m m.cp hs.cp hs.sum) Z Z ?_
 refine zgo ?_
 refine f6 (m8 Z Z Z Z (b4 (d7 Z ?_) (b4 (d7 Z ?_) (b4 (d7 Z ?_) (b4 (C7 Z ?_) f8)))))
 all_goals (rfl)
theorem b0i (m:Mach) (x:Lg) (hs:SmallM m) (hx:x.d.size+x.p.size<=1048576):Ctr Tryz.prog 27 [.agg [.lst 2 (m.rs.map m4),.lst 1 (m.en.map j4),.lst 1 (m.ra.map j4),.nst none 4 (m.cp.map (l8 169 182)),.v (.string x.d),.v (.string x.p),.v (.int .i64 x.n)]] (.one (.v (.bool (a7c m x)))):=by
 refine Ctr.of (n:=11) G Tryz.func27 Z a8 Z Z Z (λw0=>?_)
 refine j5 0 Z (λ_=>Z) (λu0=>?_)
 refine vm3 ?_
 refine zcl (a3E m hs) ?_
 refine zcd (λh1=>?_) (λh1=>?_)
 ·refine zcl (a4E x hx) ?_
  exact b56
 exact b56
theorem a2K (m:Mach) (x:Lg) (hs:SmallM m) (hx:x.d.size+x.p.size<=1048576):Ctr Tryz.prog 32 [.agg [.lst 2 (m.rs.map m4),.lst 1 (m.en.map j4),.lst 1 (m.ra.map j4),.nst none 4 (m.cp.map (l8 169 182)),.v (.string x.d),.v (.string x.p),.v (.int .i64 x.n)]] (.one (.v (.bool (a7c m x)))):=by
 refine Ctr.of (n:=11) G Tryz.func32 Z a8 Z Z Z (λw0=>?_)
 refine j5 0 Z (λ_=>Z) (λu0=>?_)
 refine vm3 ?_
 refine zcl (U9 m hs) ?_
 refine zcd (λh1=>?_) (λh1=>?_)
 ·refine zcl (a05 x hx) ?_
  exact b56
 exact b56
theorem a7z (m:Mach) (x:Lg) (l:Int) (hb:BigM m) (h0:x.d.size<=9223372036854775807/\x.p.size<=9223372036854775807) (hl:0<=l/\l<=1048576):Ctr Tryz.prog 6 [.agg [.lst 2 (m.rs.map m4),.lst 1 (m.en.map j4),.lst 1 (m.ra.map j4),.nst none 4 (m.cp.map (l8 169 182)),.v (.string x.d),.v (.string x.p),.v (.int .i64 x.n)],.v (.int .i64 l)] (.one (.v (.int .i64 (b8T m x l)))):=by
 refine Ctr.of (n:=18) G Tryz.func6 Z Y Z Z Z (λw0=>?_)
 refine j5 0 Z (λ_=>Z) (λu0=>?_)
 refine zgo ?_
 refine a7 Z (A3 1 Z Z Z Z Z Z Z ?_)
 refine zcl (a7w m l hb hl) ?_
 refine zcd (λh1=>?_) (λh1=>?_)
 ·exact c6c
 refine zgo ?_
 refine a7 Z (b5 Z Z (f7 Z (ArgsOK.of Z) (b2V x _ h0 (b5O hl J)) Z) ?_)
 refine zcd (λh2=>?_) (λh2=>?_)
 ·exact c6c
 exact c6c
theorem I6 (m:Mach) (x:Lg) (hs:SmallM m) (hx:x.d.size+x.p.size<=1048576):Ctr Tryz.prog 8 [.agg [.lst 2 (m.rs.map m4),.lst 1 (m.en.map j4),.lst 1 (m.ra.map j4),.nst none 4 (m.cp.map (l8 169 182)),.v (.string x.d),.v (.string x.p),.v (.int .i64 x.n)]] (.shp true [some 7] [.fr 83 2 (m.rs.map m4),.fr 4 1 (m.en.map j4),.fr 4 1 (m.ra.map j4),.ne 135 4 (m.cp.map (l8 169 182)),.v (.string x.d),.v (.string x.p),.v (.int .i64 x.n)]):=by
 refine Ctr.of (n:=13) G Tryz.func8 Z a8 Z Z Z (λw0=>?_)
 refine j5 0 Z (λ_=>Z) (λu0=>?_)
 refine N3 ?_
 refine zgo ?_
 refine a7k ?_
 refine p8 ?_
 refine c8 7 Z Z Z (ArgsOK.of Z) (a7y m hs) Z Z ?_
 refine zcl (b2U x) ?_
 refine zgo ?_
 exact c23
theorem I7 (m:Mach) (x:Lg) (n:Mach) (y:Lg) (hb:BigM m):Ctr Tryz.prog 10 [.agg [.lst 2 (m.rs.map m4),.lst 1 (m.en.map j4),.lst 1 (m.ra.map j4),.nst none 4 (m.cp.map (l8 169 182)),.v (.string x.d),.v (.string x.p),.v (.int .i64 x.n)],.agg [.lst 2 (n.rs.map m4),.lst 1 (n.en.map j4),.lst 1 (n.ra.map j4),.nst none 4 (n.cp.map (l8 169 182)),.v (.string y.d),.v (.string y.p),.v (.int .i64 y.n)]] (.one (.v (.bool (c02 m x n y)))):=by
 refine Ctr.of (n:=17) G Tryz.func10 Z a8 Z Z Z (λw0=>?_)
 refine j5 0 Z (λ_=>Z) (λu0=>?_)
 refine j5 1 Z (λ_=>Z) (λu1=>?_)
 refine a2r ?_
 refine zcl (a7q m n hb) ?_
 refine zcd (λh1=>?_) (λh1=>?_)
 ·exact b9Q
 refine zcl (b2T x y) ?_
 refine zcd (λh2=>?_) (λh2=>?_)
 ·exact b9Q
 exact b9Q
theorem a8B (m:Mach) (hs:SmallM m):Ctr Tryz.prog 53 [.agg [.lst 2 (m.rs.map m4),.lst 1 (m.en.map j4),.lst 1 (m.ra.map j4),.nst none 4 (m.cp.map (l8 169 182))]] (.shp true [some 4] [.fr 83 2 (m.rs.map m4),.fr 4 1 (m.en.map j4),.fr 4 1 (m.ra.map j4),.ne 135 4 (m.cp.map (l8 169 182))]):=by
 have z0:=hs.rs
 have z1:=hs.en
 have z2:=hs.ra
 have z3:=hs.cp
 refine Ctr.of (n:=38) G Tryz.func53 Z a8 Z Z Z (λw0=>?_)
 refine j5 0 Z (λ_=>Z) (λu0=>?_)
 refine N3 ?_
 refine zgn ?_
 refine n9 (l3 16 [0,1] mixed a8 Z Z (λr0=>?_) (λ_ h=>h))
 refine zsa 1 ?_
 refine zsa 2 ?_
 refine zsa 5 ?_
 refine zsa 6 ?_
 refine zsa 9 ?_
 refine zsa 10 ?_
 refine x5 (N:=7) Z (r7 (fuel:=5) [⟨0,5,2,false,.row 83 2 []⟩,⟨4,9,3,false,.row 4 1 []⟩,⟨8,13,4,false,.row 4 1 []⟩,⟨12,17,5,false,.row 135 4 []⟩,⟨14,3,6,true,.box (avR [.slice none 0 0,.slice none 0 0,.slice none 0 0,.slice none 0 0] [])⟩] (AllVOK.cons (VOK.lit G Z Z Z Z Z) (AllVOK.cons (VOK.lit G Z Z Z Z Z) (AllVOK.cons (VOK.lit G Z Z Z Z Z) (AllVOK.cons (VOK.lit G Z Z Z Z Z) (AllVOK.cons (VOK.boxS G Z Z Z Z Z) (AllVOK.nil)))))) (λhok=>?_))
 refine m6 [(3,[0])] a8 a8 (λe he=>hok e he) a8 (AllVS.cons ?_ AllVS.nil)
 refine VStep.mk1 [0,1] 5 (.own 2) 2 (.row 83 2 []) [⟨4,9,3,false,.row 4 1 []⟩,⟨8,13,4,false,.row 4 1 []⟩,⟨12,17,5,false,.row 135 4 []⟩,⟨14,3,6,true,.box (avR [.slice none 0 0,.slice none 0 0,.slice none 0 0,.slice none 0 0] [])⟩] Z Z Z Z Z (λb1 _ hbn=>j3 G O9 Z Z Z Z Z Z Z Z Z R4 Z Z (b6 Z)) a8 a8 a8 a8 (m6 [(7,[4])] a8 a8 (λe he=>hok e (vin (is:=[0]) Z he)) a8 (AllVS.cons ?_ AllVS.nil))
 refine VStep.mk1 [0,1] 9 (.own 3) 3 (.row 4 1 []) [⟨8,13,4,false,.row 4 1 []⟩,⟨12,17,5,false,.row 135 4 []⟩,⟨14,3,6,true,.box (avR [.slice none 0 0,.slice none 0 0,.slice none 0 0,.slice none 0 0] [])⟩] Z Z Z Z Z (λb1 _ hbn=>j3 G O9 Z Z Z Z Z Z Z Z Z R4 Z Z (b6 Z)) a8 a8 a8 a8 (m6 [(11,[8])] a8 a8 (λe he=>hok e (vin (is:=[0,4]) Z he)) a8 (AllVS.cons ?_ AllVS.nil))
 refine VStep.mk1 [0,1] 13 (.own 4) 4 (.row 4 1 []) [⟨12,17,5,false,.row 135 4 []⟩,⟨14,3,6,true,.box (avR [.slice none 0 0,.slice none 0 0,.slice none 0 0,.slice none 0 0] [])⟩] Z Z Z Z Z (λb1 _ hbn=>j3 G O9 Z Z Z Z Z Z Z Z Z R4 Z Z (b6 Z)) a8 a8 a8 a8 (m6 [(13,[12])] a8 a8 (λe he=>hok e (vin (is:=[0,4,8]) Z he)) a8 (AllVS.cons ?_ AllVS.nil))
 refine VStep.mk1 [0,1] 17 (.own 5) 5 (.row 135 4 []) [⟨14,3,6,true,.box (avR [.slice none 0 0,.slice none 0 0,.slice none 0 0,.slice none 0 0] [])⟩] Z Z Z Z Z (λb1 _ hbn=>b5 Z Z (w6 G Z Z Z Z) (b6 Z)) a8 a8 a8 a8 (m6 [(15,[14])] a8 a8 (λe he=>hok e (vin (is:=[0,4,8,12]) Z he)) a8 (AllVS.cons ?_ AllVS.nil))
 refine c5P ?_
 clear hok
 refine c5Z ?_
 refine e6 [1,2,3] [0,1,2,3,4,6] (λ(k:Nat)=>[(4,.v (.int .i64 (k:Int)))]) (λ(k:Nat)=>[(5,some (.nest 135 4 ((m.cp.take k).map (l8 169 182)) []))]) (λ(k:Nat)=>k<=m.cp.length) (λ(k:Nat)=>m.cp.length - k) 0 Z Z ?_ ?_ ?_ ?_
 ·exact B2
 ·exact a8g
 ·exact a0J
 intro k hk
 have hkl:((m.cp.take k).map (l8 169 182)).length=k:=b9u
 refine vm4 ?_
 refine zcd (λh1=>?_) (λh1=>?_)
 ·have g0:=hs.allI (i:=k) J
  unfold szI at g0
  exact c7Q
 obtain rfl:k=m.cp.length:=J
 refine zgo ?_
 refine f6 (m8 Z Z Z Z (b4 (d7 Z ?_) (b4 (d7 Z ?_) (b4 (d7 Z ?_) (b4 (C7 Z ?_) f8)))))
 all_goals exact b9q
theorem a4n (m:Mach) (hs:SmallM m):Ctr Tryz.prog 66 [.agg [.lst 2 (m.rs.map m4),.lst 1 (m.en.map j4),.lst 1 (m.ra.map j4),.nst none 4 (m.cp.map (l8 169 182))]] (.shp true [some 4] [.fr 83 2 (m.rs.map m4),.fr 4 1 (m.en.map j4),.fr 4 1 (m.ra.map j4),.ne 135 4 (m.cp.map (l8 169 182))]):=by
 have z0:=hs.rs
 have z1:=hs.en
 have z2:=hs.ra
 have z3:=hs.cp
 refine Ctr.of (n:=36) G Tryz.func66 Z a8 Z Z Z (λw0=>?_)
 refine j5 0 Z (λ_=>Z) (λu0=>?_)
 refine N3 ?_
 refine zgn ?_
 refine n9 (l3 16 [0,1] mixed a8 Z Z (λr0=>?_) (λ_ h=>h))
 refine zsa 1 ?_
 refine zsa 2 ?_
 refine zsa 5 ?_
 refine zsa 6 ?_
 refine zsa 9 ?_
 refine zsa 10 ?_
 refine x5 (N:=7) Z (r7 (fuel:=5) [⟨0,6,2,false,.row 83 2 []⟩,⟨4,10,3,false,.row 4 1 []⟩,⟨8,14,4,false,.row 4 1 []⟩,⟨12,18,5,false,.row 135 4 []⟩,⟨14,3,6,true,.box (avR [.slice none 0 0,.slice none 0 0,.slice none 0 0,.slice none 0 0] [])⟩] (AllVOK.cons (VOK.lit G Z Z Z Z Z) (AllVOK.cons (VOK.lit G Z Z Z Z Z) (AllVOK.cons (VOK.lit G Z Z Z Z Z) (AllVOK.cons (VOK.lit G Z Z Z Z Z) (AllVOK.cons (VOK.boxS G Z Z Z Z Z) (AllVOK.nil)))))) (λhok=>?_))
 refine m6 [(3,[0])] a8 a8 (λe he=>hok e he) a8 (AllVS.cons ?_ AllVS.nil)
 refine VStep.mk1 [0,1] 6 (.own 2) 2 (.row 83 2 []) [⟨4,10,3,false,.row 4 1 []⟩,⟨8,14,4,false,.row 4 1 []⟩,⟨12,18,5,false,.row 135 4 []⟩,⟨14,3,6,true,.box (avR [.slice none 0 0,.slice none 0 0,.slice none 0 0,.slice none 0 0] [])⟩] Z Z Z Z Z (λb1 _ hbn=>j3 G O9 Z Z Z Z Z Z Z Z Z R4 Z Z (b6 Z)) a8 a8 a8 a8 (m6 [(7,[4])] a8 a8 (λe he=>hok e (vin (is:=[0]) Z he)) a8 (AllVS.cons ?_ AllVS.nil))
 refine VStep.mk1 [0,1] 10 (.own 3) 3 (.row 4 1 []) [⟨8,14,4,false,.row 4 1 []⟩,⟨12,18,5,false,.row 135 4 []⟩,⟨14,3,6,true,.box (avR [.slice none 0 0,.slice none 0 0,.slice none 0 0,.slice none 0 0] [])⟩] Z Z Z Z Z (λb1 _ hbn=>j3 G O9 Z Z Z Z Z Z Z Z Z R4 Z Z (b6 Z)) a8 a8 a8 a8 (m6 [(11,[8])] a8 a8 (λe he=>hok e (vin (is:=[0,4]) Z he)) a8 (AllVS.cons ?_ AllVS.nil))
 refine VStep.mk1 [0,1] 14 (.own 4) 4 (.row 4 1 []) [⟨12,18,5,false,.row 135 4 []⟩,⟨14,3,6,true,.box (avR [.slice none 0 0,.slice none 0 0,.slice none 0 0,.slice none 0 0] [])⟩] Z Z Z Z Z (λb1 _ hbn=>j3 G O9 Z Z Z Z Z Z Z Z Z R4 Z Z (b6 Z)) a8 a8 a8 a8 (m6 [(13,[12])] a8 a8 (λe he=>hok e (vin (is:=[0,4,8]) Z he)) a8 (AllVS.cons ?_ AllVS.nil))
 refine VStep.mk1 [0,1] 18 (.own 5) 5 (.row 135 4 []) [⟨14,3,6,true,.box (avR [.slice none 0 0,.slice none 0 0,.slice none 0 0,.slice none 0 0] [])⟩] Z Z Z Z Z (λb1 _ hbn=>b5 Z Z (w6 G Z Z Z Z) (b6 Z)) a8 a8 a8 a8 (m6 [(15,[14])] a8 a8 (λe he=>hok e (vin (is:=[0,4,8,12]) Z he)) a8 (AllVS.cons ?_ AllVS.nil))
 refine c5P ?_
 clear hok
 refine c5Z ?_
 refine e6 [2,3,21,22] [1,2,3,4,6] (λ(k:Nat)=>[(23,.v (.int .i64 (k:Int)))]) (λ(k:Nat)=>[(5,some (.nest 135 4 ((m.cp.take k).map (l8 169 182)) []))]) (λ(k:Nat)=>k<=m.cp.length) (λ(k:Nat)=>m.cp.length - k) 0 Z Z ?_ ?_ ?_ ?_
 ·exact B2
 ·exact a8g
 ·exact a0J
 intro k hk
 have hkl:((m.cp.take k).map (l8 169 182)).length=k:=b9u
 refine vm4 ?_
 refine zcd (λh1=>?_) (λh1=>?_)
 ·have g0:=hs.allI (i:=k) J
  unfold szI at g0
  refine p8 ?_
  refine b43 ?_
  refine vm5 ?_
  refine a6o 26 Z (λ_=>Z) λv26=>m3 G Z Z Z Z Z Z Z Z Z Z Z ?_
  refine zgo ?_
  apply x7 [2,3,21,22,23] [1,2,3,4,6,12] 13 8 [1,2,3,4,7] mixed a8 Z Z (λ_ h=>znk h)
  ·intro r0
   refine zsa 0 ?_
   refine zsa 2 ?_
   refine b7 (rs:=[1,3]) a8 Z (AllB.cons ?_ (AllB.cons ?_ AllB.nil))
   ·refine g9 [1,2,3,4,7] Z Z ?_
    refine U6 ?_
    refine b7 (rs:=[3]) a8 Z (AllB.cons ?_ AllB.nil)
    refine g9 [1,2,3,4,7] Z Z (c8 11 Z Z Z (ArgsOK.of Z) (A0 (m.cp.getD k default) J J J) Z Z (b6 ⟨Z,?_⟩))
    exact c35
   refine g9 [1,2,3,4,7] Z Z (c8 11 Z Z Z (ArgsOK.of Z) (A0 (m.cp.getD k default) J J J) Z Z (b6 ⟨Z,?_⟩))
   refine b7 (rs:=[1,4]) a8 Z (AllB.cons ?_ (AllB.cons ?_ AllB.nil))
   ·refine g9 [1,2,3,4,7] Z Z ?_
    refine U6 ?_
    exact c35
   refine g9 [1,2,3,4,7] Z Z (A8 G 12 Z Z Z Z Z Z Z Z (.v Z (.own Z (.own Z (.own Z .nil)))) Z Z Z Z (b6 ⟨Z,?_⟩))
   refine b7 (rs:=[1]) a8 Z (AllB.cons ?_ AllB.nil)
   refine g9 [1,2,3,4,7] Z Z ?_
   refine U6 ?_
   exact c3C
  refine b8 ?_
  refine a3v ?_
  refine a0s (Gh.sub 12 5 np Z Z Z) (b6 ⟨(k+1),?_,?_,⟨⟨_,Z,by rfl⟩,Z,trivial⟩,⟨⟨_,Z,by (exact congrArg (λz=>Row.nest _ _ z []) (b1o J Z))⟩,Z,Z,trivial⟩,Z,Z,Z⟩)
  ·omega
  omega
 obtain rfl:k=m.cp.length:=J
 refine zgo ?_
 refine f6 (m8 Z Z Z Z (b4 (d7 Z ?_) (b4 (d7 Z ?_) (b4 (d7 Z ?_) (b4 (C7 Z ?_) f8)))))
 all_goals exact b9q
theorem s5 (m:Mach) (x:Lg) (hs:SmallM m) (hx:x.d.size+x.p.size<=1048576):Ctr Tryz.prog 26 [.agg [.lst 2 (m.rs.map m4),.lst 1 (m.en.map j4),.lst 1 (m.ra.map j4),.nst none 4 (m.cp.map (l8 169 182)),.v (.string x.d),.v (.string x.p),.v (.int .i64 x.n)]] (.shp true [some 7] [.fr 83 2 (m.rs.map m4),.fr 4 1 (m.en.map j4),.fr 4 1 (m.ra.map j4),.ne 135 4 (m.cp.map (l8 169 182)),.v (.string x.d),.v (.string x.p),.v (.int .i64 x.n)]):=by
 refine Ctr.of (n:=9) G Tryz.func26 Z a8 Z Z Z (λw0=>?_)
 refine j5 0 Z (λ_=>Z) (λu0=>?_)
 refine N3 ?_
 refine zgn ?_
 refine n9 (l3 7 [0] mixed a8 Z Z (λr0=>?_) (λ_ h=>h))
 refine zsa 0 ?_
 refine zsa 1 ?_
 refine zsa 3 ?_
 refine zsa 4 ?_
 refine b7 (rs:=[2]) a8 Z (AllB.cons ?_ AllB.nil)
 refine g9 [0] Z Z (c8 6 Z Z Z (ArgsOK.of Z) (a8B m hs) Z Z (b6 ⟨Z,?_⟩))
 exact c8e
theorem a01 (m:Mach) (x:Lg) (hs:SmallM m) (hx:x.d.size+x.p.size<=1048576):Ctr Tryz.prog 33 [.agg [.lst 2 (m.rs.map m4),.lst 1 (m.en.map j4),.lst 1 (m.ra.map j4),.nst none 4 (m.cp.map (l8 169 182)),.v (.string x.d),.v (.string x.p),.v (.int .i64 x.n)]] (.shp true [some 7] [.fr 83 2 (m.rs.map m4),.fr 4 1 (m.en.map j4),.fr 4 1 (m.ra.map j4),.ne 135 4 (m.cp.map (l8 169 182)),.v (.string x.d),.v (.string x.p),.v (.int .i64 x.n)]):=by
 refine Ctr.of (n:=9) G Tryz.func33 Z a8 Z Z Z (λw0=>?_)
 refine j5 0 Z (λ_=>Z) (λu0=>?_)
 refine N3 ?_
 refine zgn ?_
 refine n9 (l3 7 [0] mixed a8 Z Z (λr0=>?_) (λ_ h=>h))
 refine zsa 0 ?_
 refine zsa 1 ?_
 refine zsa 3 ?_
 refine zsa 4 ?_
 refine b7 (rs:=[2]) a8 Z (AllB.cons ?_ AllB.nil)
 refine g9 [0] Z Z (c8 6 Z Z Z (ArgsOK.of Z) (a4n m hs) Z Z (b6 ⟨Z,?_⟩))
 exact c8e
theorem b0j (sl:List Slot) (irq:Int) (hF:SlF sl) (h0:0<=r9 sl irq) (ha:P3 (sl.getD (r9 sl irq).toNat default)=true):Ctr Tryz.prog 284 [.lst 3 (sl.map e9),.v (.int .i64 irq)] (.many [.fr 169 3 ((edS sl irq).map e9),.v (.bool true)]):=by
 have hl4:=hF.len
 have hf:=@a2l sl irq
 have haa:=u5.mp ha
 refine Ctr.of (n:=39) G Tryz.func284 Z a8 Z Z Z (λw0=>?_)
 refine zcl (B7 sl irq J) ?_
 refine zcd (λh1=>?_) (λh1=>?_)
 ·exact b6e
 refine zcl (a2B _) ?_
 refine zcd (λh2=>?_) (λh2=>?_)
 ·exact b6e
 refine a6x ?_
 refine zcd (λh3=>?_) (λh3=>?_)
 ·exact c3T
 exact c3T
theorem b2W (sl:List Slot) (irq:Int) (hF:SlF sl) (h0:0<=r9 sl irq) (ha:P3 (sl.getD (r9 sl irq).toNat default)=true):Ctr Tryz.prog 294 [.lst 3 (sl.map e9),.v (.int .i64 irq)] (.many [.fr 169 3 ((edS sl irq).map e9),.v (.bool true)]):=by
 have hl4:=hF.len
 have hf:=@a2l sl irq
 have haa:=u5.mp ha
 refine Ctr.of (n:=41) G Tryz.func294 Z a8 Z Z Z (λw0=>?_)
 refine zcl (F0 sl irq J) ?_
 refine zcd (λh1=>?_) (λh1=>?_)
 ·exact b6e
 refine zcd (λh2=>?_) (λh2=>?_)
 ·exact b6e
 refine zcd (λh3=>?_) (λh3=>?_)
 ·refine p8 ?_
  refine c8 1 Z Z Z (ArgsOK.of Z) (F2 sl _ ⟨_,_,_⟩ J J) Z Z ?_
  exact c52
 refine a6x ?_
 refine p8 ?_
 refine c8 2 Z Z Z (ArgsOK.of Z) (F2 sl _ ⟨_,_,_⟩ J J) Z Z ?_
 exact c52
theorem a8C (q:Que) (irq:Int) (hF:QF q) (h0:0<=r9 q.sl irq) (ha:P3 (q.sl.getD (r9 q.sl irq).toNat default)=true):Ctr Tryz.prog 228 [.agg [.lst 3 (q.sl.map e9),.lst 2 (q.wa.map e7)],.v (.int .i64 irq)] (.shp false [some 2,none] [.fr 169 3 ((a68 q irq).sl.map e9),.fr 182 2 ((a68 q irq).wa.map e7) true,.v (.bool true)]):=by
 have hl4:=hF.sl.len
 have hwn:=hF.wn
 have hQ:=a8S hF h0
 refine Ctr.of (n:=23) G Tryz.func228 Z a8 Z Z Z (λw0=>?_)
 refine j5 0 Z (λ_=>Z) (λu0=>?_)
 refine d3 (λK1 hK1=>?_)
 refine b0y ?_
 refine b0x ?_
 refine c1q ?_
 refine hK1 _ ?_
 clear hK1 K1
 refine d3 (λK2 hK2=>?_)
 refine b9v ?_
 refine c8 3 Z Z Z (ArgsOK.of Z) (b0j q.sl irq hF.sl h0 ha) Z Z ?_
 refine vm5 ?_
 refine c5T ?_
 refine hK2 _ ?_
 clear hK2 K2
 refine d3 (λK3 hK3=>?_)
 refine d3 (λK4 hK4=>?_)
 refine b8 ?_
 refine vm5 ?_
 refine b5 Z Z (c7 Z Z) ?_
 refine vm5 ?_
 refine b5 Z Z (a2S Z Z) (b6 (hK4 _ ?_))
 clear hK4 K4
 refine j9 Z (λh1=>?_) (λh1=>?_)
 ·exact c8f
 ·try rw [h1]
  try simp only [rfb] at h1
  refine s4 (hK3 _ ?_)
  clear hK3 K3
  refine d3 (λK6 hK6=>?_)
  refine c5S ?_
  refine c8 5 Z Z Z (ArgsOK.of Z) (a0B _ hQ) Z Z ?_
  exact c24
theorem b2X (q:Que) (irq:Int) (hF:QF q) (h0:0<=r9 q.sl irq) (ha:P3 (q.sl.getD (r9 q.sl irq).toNat default)=true):Ctr Tryz.prog 245 [.agg [.lst 3 (q.sl.map e9),.lst 2 (q.wa.map e7)],.v (.int .i64 irq)] (.shp false [some 2,none] [.fr 169 3 ((a68 q irq).sl.map e9),.fr 182 2 ((a68 q irq).wa.map e7),.v (.bool true)]):=by
 have hl4:=hF.sl.len
 have hwn:=hF.wn
 have hQ:=a8S hF h0
 refine Ctr.of (n:=23) G Tryz.func245 Z a8 Z Z Z (λw0=>?_)
 refine j5 0 Z (λ_=>Z) (λu0=>?_)
 refine d3 (λK1 hK1=>?_)
 refine b0y ?_
 refine b0x ?_
 refine c1q ?_
 refine hK1 _ ?_
 clear hK1 K1
 refine d3 (λK2 hK2=>?_)
 refine b9v ?_
 refine c8 3 Z Z Z (ArgsOK.of Z) (b2W q.sl irq hF.sl h0 ha) Z Z ?_
 refine vm5 ?_
 refine c5T ?_
 refine hK2 _ ?_
 clear hK2 K2
 refine d3 (λK3 hK3=>?_)
 refine d3 (λK4 hK4=>?_)
 refine b8 ?_
 refine vm5 ?_
 refine b5 Z Z (c7 Z Z) ?_
 refine vm5 ?_
 refine b5 Z Z (a2S Z Z) (b6 (hK4 _ ?_))
 clear hK4 K4
 refine j9 Z (λh1=>?_) (λh1=>?_)
 ·exact c8f
 ·try rw [h1]
  try simp only [rfb] at h1
  refine s4 (hK3 _ ?_)
  clear hK3 K3
  refine d3 (λK6 hK6=>?_)
  refine c5S ?_
  refine c8 5 Z Z Z (ArgsOK.of Z) (G1 _ hQ) Z Z ?_
  exact c24
theorem a8D (x:Ifc) (hG:IfG x) (hn:x.st.length≠0):Ctr Tryz.prog 178 [.agg [.v (.int .i64 x.ma),.lst 1 (x.st.map Rf.n7),.lst 3 (x.qu.sl.map e9),.lst 2 (x.qu.wa.map e7)]] (.shp false [some 4,none,none] [.v (.int .i64 x.ma),.fr 3 1 ((x.st.take (x.st.length - 1)).map Rf.n7),.fr 169 3 ((a68 x.qu (H5 x)).sl.map e9),.fr 182 2 ((a68 x.qu (H5 x)).wa.map e7) true,.v (.int .i64 (H5 x)),.v (.bool true)]):=by
 have hl4:=hG.f.qu.sl.len
 have hwn:=hG.f.qu.wn
 have hsn:=hG.f.sn
 obtain ⟨hla,hlb⟩:=c2b hG hn
 have hls:=b1E hn
 have htn:((x.st.length:Int) - 1).toNat=x.st.length - 1:=J
 refine Ctr.of (n:=40) G Tryz.func178 Z a8 Z Z Z (λw0=>?_)
 refine j5 0 Z (λ_=>Z) (λu0=>?_)
 refine N3 ?_
 refine zcd (λh1=>?_) (λh1=>?_)
 ·exfalso;omega
 refine zgn ?_
 refine n9 (l3 14 [0,1] mixed a8 Z Z (λr0=>?_) (λ_ h=>h))
 refine a0A ?_
 refine b0z ?_
 refine x5 (N:=3) Z (r7 (fuel:=6) [⟨11,6,2,true,.box (avR [.slice none 0 0,.slice none 0 0] [])⟩] (AllVOK.cons (VOK.boxS G Z Z Z Z Z) (AllVOK.nil)) (λhok=>?_))
 refine m6 [(7,[])] a8 a8 (λe he=>hok e he) a8 (AllVS.cons ?_ AllVS.nil)
 refine VStep.mk0 [0,1] Z Z (λb1 _ hbn=>c8 5 Z Z Z (ArgsOK.of Z) (a8C x.qu _ hG.f.qu (by rw [hls];exact hla) (by rw [hls];exact hlb)) Z Z (b6 Z)) a8 a8 a8 a8 (s7 8 Z a8 Z Z Z Z (c7 Z Z) a8 a8 a8 (s7 9 Z a8 Z Z Z Z (j7 Z Z Z) a8 a8 a8 (s7 10 Z a8 Z Z Z Z (j7 Z Z Z) a8 a8 a8 (m6 [(12,[11])] a8 a8 (λe he=>hok e he) a8 (AllVS.cons ?_ AllVS.nil)))))
 refine VStep.mk1 [0,1] 6 (.ptr 2 0) 2 (.box (avR [.slice none 0 0,.slice none 0 0] [])) [] Z Z Z Z Z (λb1 _ hbn=>m3 G Z Z Z Z Z Z Z Z Z Z Z (b6 Z)) a8 a8 a8 a8 (D1 ?_)
 clear hok
 refine zsa 13 ?_
 refine J1 ?_
 refine n9 (l3 17 [0,2,3,4] mixed a8 Z Z (λr0=>?_) (λ_ h=>h))
 refine a0A ?_
 refine zsa 4 ?_
 first | refine d5 5 Z a8 a8 Z Z Z Z (E8 G Z Z Z Z Z J J J) ?_ | refine d5 5 Z a8 a8 Z Z Z Z (E8 G Z Z Z Z Z J a4x a4x) ?_
 refine zsa 7 ?_
 refine zsa 9 ?_
 refine zsa 10 ?_
 refine zsa 11 ?_
 refine zsa 12 ?_
 refine zsa 13 ?_
 refine b7 (rs:=[6]) a8 Z (AllB.cons ?_ AllB.nil)
 refine g9 [0,2,3,4] Z Z (c8 6 Z Z Z (ArgsOK.of (congrArg some (congrArg (λz=>[AV.lst 1 z]) b3Y))) (z7 (x.st.take (x.st.length - 1)) (by rw [List.length_take];omega)) Z Z (b6 ⟨Z,?_⟩))
 refine b7 (rs:=[8]) a8 Z (AllB.cons ?_ AllB.nil)
 refine b35 ?_
 refine b7 (rs:=[14]) a8 Z (AllB.cons ?_ AllB.nil)
 refine b35 ?_
 refine zsa 15 ?_
 refine zsa 16 ?_
 refine J1 ?_
 refine f6 (m8 Z Z Z Z (b4 (l4 ?_) (b4 (d7 Z ?_) (b4 (d7 Z ?_) (b4 (d7 Z ?_) (b4 (l4 ?_) (b4 (l4 ?_) f8)))))))
 all_goals (first | rfl | (rw [hls];done))
theorem a8E (x:Ifc) (hG:IfG x) (hn:x.st.length≠0):Ctr Tryz.prog 197 [.agg [.v (.int .i64 x.ma),.lst 1 (x.st.map Rf.n7),.lst 3 (x.qu.sl.map e9),.lst 2 (x.qu.wa.map e7)]] (.shp false [some 4,none] [.v (.int .i64 x.ma),.fr 3 1 ((x.st.take (x.st.length - 1)).map Rf.n7),.fr 169 3 ((a68 x.qu (H5 x)).sl.map e9),.fr 182 2 ((a68 x.qu (H5 x)).wa.map e7),.v (.int .i64 (H5 x))]):=by
 have hl4:=hG.f.qu.sl.len
 have hwn:=hG.f.qu.wn
 have hsn:=hG.f.sn
 obtain ⟨hla,hlb⟩:=c2b hG hn
 have hls:=b1E hn
 have htn:((x.st.length:Int) - 1).toNat=x.st.length - 1:=J
 refine Ctr.of (n:=41) G Tryz.func197 Z a8 Z Z Z (λw0=>?_)
 refine j5 0 Z (λ_=>Z) (λu0=>?_)
 refine N3 ?_
 refine zcd (λh1=>?_) (λh1=>?_)
 ·exfalso;omega
 refine zgn ?_
 refine n9 (l3 15 [0,1] mixed a8 Z Z (λr0=>?_) (λ_ h=>h))
 refine c7M ?_
 refine zsa 6 ?_
 refine zsa 7 ?_
 refine x5 (N:=3) Z (r7 (fuel:=6) [⟨12,5,2,true,.box (avR [.slice none 0 0,.slice none 0 0] [])⟩] (AllVOK.cons (VOK.boxS G Z Z Z Z Z) (AllVOK.nil)) (λhok=>?_))
 refine m6 [(8,[])] a8 a8 (λe he=>hok e he) a8 (AllVS.cons ?_ AllVS.nil)
 refine VStep.mk0 [0,1] Z Z (λb1 _ hbn=>c8 5 Z Z Z (ArgsOK.of Z) (b2X x.qu _ hG.f.qu (by rw [hls];exact hla) (by rw [hls];exact hlb)) Z Z (b6 Z)) a8 a8 a8 a8 (s7 9 Z a8 Z Z Z Z (c7 Z Z) a8 a8 a8 (s7 10 Z a8 Z Z Z Z (j7 Z Z Z) a8 a8 a8 (s7 11 Z a8 Z Z Z Z (j7 Z Z Z) a8 a8 a8 (m6 [(13,[12])] a8 a8 (λe he=>hok e he) a8 (AllVS.cons ?_ AllVS.nil)))))
 refine c7H ?_
 clear hok
 refine zsa 14 ?_
 refine J1 ?_
 refine n9 (l3 18 [0,2,3,4] mixed a8 Z Z (λr0=>?_) (λ_ h=>h))
 refine c7M ?_
 first | refine d5 6 Z a8 a8 Z Z Z Z (E8 G Z Z Z Z Z J J J) ?_ | refine d5 6 Z a8 a8 Z Z Z Z (E8 G Z Z Z Z Z J a4x a4x) ?_
 refine zsa 8 ?_
 refine zsa 10 ?_
 refine zsa 11 ?_
 refine zsa 12 ?_
 first | refine d5 13 Z a8 a8 Z Z Z Z (v7 Z Z Z Z J J) ?_ | refine d5 13 Z a8 a8 Z Z Z Z (A2 Z Z Z Z) ?_
 refine zsa 14 ?_
 refine zsa 15 ?_
 refine b7 (rs:=[7]) a8 Z (AllB.cons ?_ AllB.nil)
 refine g9 [0,2,3,4] Z Z (c8 6 Z Z Z (ArgsOK.of (congrArg some (congrArg (λz=>[AV.lst 1 z]) b3Y))) (E3 (x.st.take (x.st.length - 1)) (by rw [List.length_take];omega)) Z Z (b6 ⟨Z,?_⟩))
 refine b7 (rs:=[9]) a8 Z (AllB.cons ?_ AllB.nil)
 refine b35 ?_
 refine b7 (rs:=[16]) a8 Z (AllB.cons ?_ AllB.nil)
 refine b35 ?_
 refine zsa 17 ?_
 refine J1 ?_
 refine f6 (m8 Z Z Z Z (b4 (l4 ?_) (b4 (d7 Z ?_) (b4 (d7 Z ?_) (b4 (d7 Z ?_) (b4 (l4 ?_) f8))))))
 all_goals (first | rfl | (rw [hls];done))
theorem a5g (x:Ifc) (hn:x.st.length=0):Ctr Tryz.prog 178 [.agg [.v (.int .i64 x.ma),.lst 1 (x.st.map Rf.n7),.lst 3 (x.qu.sl.map e9),.lst 2 (x.qu.wa.map e7)]] (.shp false [some 4,none,none] [.v (.int .i64 0),.fr 3 1 (([]:List Int).map Rf.n7),.fr 169 3 ((⟨[],[]⟩:Que).sl.map e9),.fr 182 2 ((⟨[],[]⟩:Que).wa.map e7) true,.v (.int .i64 0),.v (.bool false)]):=by
 refine Ctr.of (n:=40) G Tryz.func178 Z a8 Z Z Z (λw0=>?_)
 refine j5 0 Z (λ_=>Z) (λu0=>?_)
 refine N3 ?_
 refine zcd (λh1=>?_) (λh1=>?_)
 ·refine zgo ?_
  refine f6 (m8 Z Z Z Z (b4 (l4 ?_) (b4 (M8 ?_) (b4 (M8 ?_) (b4 (M8 ?_) (b4 (l4 ?_) (b4 (l4 ?_) f8)))))))
  all_goals (rfl)
 exfalso;omega
theorem a4o (x:Ifc) (hG:IfG x):Ctr Tryz.prog 178 [.agg [.v (.int .i64 x.ma),.lst 1 (x.st.map Rf.n7),.lst 3 (x.qu.sl.map e9),.lst 2 (x.qu.wa.map e7)]] (.shp false [some 4,none,none] [.v (.int .i64 (X5 x).1.ma),.fr 3 1 ((X5 x).1.st.map Rf.n7),.fr 169 3 ((X5 x).1.qu.sl.map e9),.fr 182 2 ((X5 x).1.qu.wa.map e7) true,.v (.int .i64 (X5 x).2.1),.v (.bool (X5 x).2.2)]):=by
 by_cases h:x.st.length=0
 ·rw [b5R h];exact a5g x h
 rw [b5S h];exact a8D x hG h
theorem a5h (m:Mach) (sk sq sc sv:Int) (hM:MaG m) (hv:H1 m.cp.length ⟨sk,sq,sc,sv⟩=true):Ctr Tryz.prog 120 [.agg [.lst 2 (m.rs.map m4),.lst 1 (m.en.map j4),.lst 1 (m.ra.map j4),.nst none 4 (m.cp.map (l8 169 182))],.v (.agg ⟨[.int .i64 sk,.int .i64 sq,.int .i64 sc,.int .i64 sv]⟩)] (.shp false [some 4,none,none] [.fr 83 2 ((stM m ⟨sk,sq,sc,sv⟩).1.rs.map m4),.fr 4 1 ((stM m ⟨sk,sq,sc,sv⟩).1.en.map j4),.fr 4 1 ((stM m ⟨sk,sq,sc,sv⟩).1.ra.map j4),.ne 135 4 ((stM m ⟨sk,sq,sc,sv⟩).1.cp.map (F4 169 182)),.v (.int .i64 (stM m ⟨sk,sq,sc,sv⟩).2.1),.v (.bool (stM m ⟨sk,sq,sc,sv⟩).2.2)]):=by
 have f1:=hM.n
 have f2:=hM.en
 have f3:=hM.ra
 have f4:=hM.rn
 refine Ctr.of (n:=90) G Tryz.func120 Z a8 Z Z Z (λw0=>?_)
 refine j5 0 Z (λ_=>Z) (λu0=>?_)
 refine a2r ?_
 refine a7k ?_
 refine p8 ?_
 refine c8 7 Z Z Z (ArgsOK.of Z) (a6D m hM) Z Z ?_
 refine vm5 ?_
 refine b43 ?_
 refine zgn ?_
 refine n9 (n9 (C4 (Gh.nestF (id:=6) _ Z flM) ?_))
 refine zcd (λh1=>?_) (λh1=>?_)
 ·have hq:=c0t hv J
  obtain ⟨q,rfl⟩:∃q:Nat,sq=q:=⟨sq.toNat,by omega⟩
  have hS:=sm1 (m:=m) (sc:=sc) (sv:=sv) (q:=q) h1
  refine c1h ?_
  refine zgn ?_
  refine n9 ?_
  first | refine C4 (Gh.nestF (id:=6) _ Z (S5 (x:=(R3 (m.cp.getD c default)).1) (.cons .s (.cons .s (.cons .s (.cons .t .nil)))))) ?_ | refine C4 (Gh.nestF (id:=6) _ Z (S5 (x:=(X5 (m.cp.getD c default)).1) (.cons .s (.cons .s (.cons .s (.cons .t .nil)))))) ?_ | refine C4 (Gh.nestF (id:=6) _ Z (S5 (x:=⟨sv,(m.cp.getD c default).st,(m.cp.getD c default).qu⟩) (.cons .s (.cons .s (.cons .s (.cons .s .nil)))))) ?_ | skip
  refine zgo ?_
  refine f6 (m8 Z Z Z Z (b4 (d7 Z ?_) (b4 (d7 Z ?_) (b4 (d7 Z ?_) (b4 (C7 Z ?_) (b4 (l4 ?_) (b4 (l4 ?_) f8)))))))
  all_goals exact b68
 refine zcd (λh2=>?_) (λh2=>?_)
 ·have hS:=sm2 (m:=m) (sq:=sq) (sc:=sc) (sv:=sv) h2
  refine p8 ?_
  refine c06 (n:=63) Z Z Z Tryz.func176 Z a8 Z Z Z Z ?_
  apply Exists.intro
  apply Exists.intro
  apply And.intro
  ·intro b hen hpin
   refine p8 ?_
   refine b5 Z Z (N8 Z Z) ?_
   refine zgo ?_
   refine e6 [0,8,9] [0,1,2,3,4,7] (λ(i:Nat)=>[(10,.v (.int .i64 (i:Int)))]) (λ(i:Nat)=>[(5,some (.row 4 1 ((a8d m i).map j4))),(6,some (.nest 135 4 ((a09 m i).map (F4 169 182)) []))]) (λ(i:Nat)=>i<=8) (λ(i:Nat)=>8 - i) 0 Z Z ?_ ?_ ?_ ?_
   ·exact Nat.zero_le _
   ·exact ⟨⟨_,Z,by rfl⟩,Z,trivial⟩
   ·exact ⟨⟨_,Z,by rfl⟩,Z,Z,⟨⟨_,Z,by rfl⟩,Z,Z,trivial⟩⟩
   intro i hi
   have hrl:=@a6q m i
   have hcl:=@J6 m i
   have htg:=λh=>hM.tg (i:=i) h
   refine vm4 ?_
   refine zcd (λh101=>?_) (λh101=>?_)
   ·obtain ⟨hta,htb,htc⟩:=htg J
    obtain ⟨hst,hIG⟩:=a6r hM (i:=i) (k:=tgM m i) J htb
    have htd:tgM m i < m.cp.length:=htb
    refine vm7 ?_
    first | refine b5 Z Z (d8 G Z Z Z Z (a14 J) Z) ?_ | refine b5 Z Z (d8 G Z Z Z Z (x9 J J) Z) ?_
    refine vm5 ?_
    refine d6 G 9 Z Z Z Z Z ?_
    refine zgd ?_
    refine zgo ?_
    refine j6 Z (s1 Z Z (N8 Z Z) ?_)
    refine zgo ?_
    refine j6 Z ?_
    first | refine s1 Z Z (p9 G Z Z Z Z Z J a6w) ?_ | refine s1 Z Z (p9 G Z Z Z Z Z J G0) ?_
    refine zgn ?_
    refine n9 (C4 (Gh.open (id:=6) (i:=(tgM m i)) (k:=1) 10 Z Z (c5n J) Z Z) ?_)
    refine p8 ?_
    refine b5 Z Z (N8 Z Z) ?_
    refine vm7 ?_
    refine c7N ?_
    refine zcd (λh102=>?_) (λh102=>?_)
    ·refine zgo ?_
     refine a0I ?_
     refine b5 Z Z (N8 Z Z) ?_
     refine zgo ?_
     refine a0I ?_
     first | refine b5 Z Z (b9 G Z Z Z Z Z J B1) ?_ | refine b5 Z Z (b9 G Z Z Z Z Z J J) ?_
     refine a0I ?_
     refine c7N ?_
     refine zcd (λh103=>?_) (λh103=>?_)
     ·rw [a8W (Nat.le_refl _)] at h103
      refine zgo ?_
      refine a0I ?_
      refine b5 Z Z (a6L Z Z) ?_
      refine a0I ?_
      refine b9y ?_
      refine a0I ?_
      refine b5 Z Z (a7D G Z Z Z Z Z (w9.2 ⟨_,(Y2 G0 Z),Z⟩) (.own (by first | exact List.Mem.head _ | simp) .nil)) ?_
      refine zcl (a0K ((a09 m i).getD (tgM m i) default).st _ (by have:=hIG.f.sn;omega)) ?_
      refine zcd (λh104=>?_) (λh104=>?_)
      ·rw [hst] at h104
       have hcn:=b8W (m:=m) (i:=i) h102 h103 h104
       refine p8 ?_
       refine b5 Z Z (N8 Z Z) ?_
       refine c7J ?_
       refine C4 (Gh.open (id:=6) (i:=(tgM m i)) (k:=2) 11 Z Z (Y2 G0 Z) Z Z) (C4 (Gh.open (id:=6) (i:=(tgM m i)) (k:=3) 12 Z Z (Y2 G0 Z) Z Z) (l3 10 [0,1,2,3,4,5,7,8,9,10,11] mixed a8 Z Z (λr0=>?_) (λ_ h=>h)))
       refine zsa 0 ?_
       refine zsa 1 ?_
       refine b0z ?_
       refine b7 (rs:=[2]) a8 Z (AllB.cons ?_ AllB.nil)
       refine g9 [0,1,2,3,4,5,7,8,9,10,11] Z Z (b5 Z Z (a6L Z Z) (b6 ⟨Z,?_⟩))
       refine b7 (rs:=[3]) a8 Z (AllB.cons ?_ AllB.nil)
       refine g9 [0,1,2,3,4,5,7,8,9,10,11] Z Z (b5 Z Z (M6 G Z Z Z Z (Y2 G0 Z) Z (.v (.own a6v (.own a6v (.own a6v .nil))))) (b6 ⟨Z,?_⟩))
       refine b7 (rs:=[7]) a8 Z (AllB.cons ?_ AllB.nil)
       refine g9 [0,1,2,3,4,5,7,8,9,10,11] Z Z (c8 15 Z Z Z (ArgsOK.of Z) (a8p ((a09 m i).getD (tgM m i) default) _ _ hIG.f J htc) Z Z (b6 ⟨Z,?_⟩))
       refine a3c (Gh.detach (id:=6) Z) (a3c (Gh.detach (id:=6) Z) (a3c (Gh.detach (id:=6) Z) (b7 (rs:=[8]) a8 Z (AllB.cons ?_ AllB.nil))))
       refine g9 [0,1,2,3,4,5,7,8,9,10,11] Z Z (b5 Z Z (a6L Z Z) (b6 ⟨Z,?_⟩))
       refine b7 (rs:=[9]) a8 Z (AllB.cons ?_ AllB.nil)
       refine g9 [0,1,2,3,4,5,7,8,9,10,11] Z Z (p4 G Z Z Z Z Z (Y2 G0 Z) Z Z (.v Z (.own Z (.own Z (.own Z .nil)))) Z Z Z (Nat.le_of_ble_eq_true Z) (λq h=>by cases h) Z (b6 ⟨Z,?_⟩))
       refine J1 ?_
       refine zgo ?_
       refine ⟨(i+1),?_,?_,⟨⟨_,Z,by rfl⟩,Z,trivial⟩,⟨⟨_,Z,by (first | (rw [a1b hcn];done) | (rw [a1d hcn];exact congrArg (λz=>Row.nest _ _ z []) (X4 J Z)) | (rw [a1a hcn,List.map_set];rfl) | (rw [a1c hcn];exact congrArg (λz=>Row.nest _ _ z []) a4w))⟩,Z,Z,⟨⟨_,Z,by (first | (rw [a1b hcn];done) | (rw [a1d hcn];exact congrArg (λz=>Row.nest _ _ z []) (X4 J Z)) | (rw [a1a hcn,List.map_set];rfl) | (rw [a1c hcn];exact congrArg (λz=>Row.nest _ _ z []) a4w))⟩,Z,Z,trivial⟩⟩,Z,Z,Z⟩
       ·omega
       omega
      rw [hst] at h104
      have hcn:=b8Z (m:=m) (i:=i) h104
      refine c5U ?_
      refine ⟨(i+1),?_,?_,⟨⟨_,Z,by rfl⟩,Z,trivial⟩,⟨⟨_,Z,by (first | (rw [a1b hcn];done) | (rw [a1d hcn];exact congrArg (λz=>Row.nest _ _ z []) (X4 J Z)) | (rw [a1a hcn,List.map_set];rfl) | (rw [a1c hcn];exact congrArg (λz=>Row.nest _ _ z []) a4w))⟩,Z,Z,⟨⟨_,Z,by (first | (rw [a1b hcn];done) | (rw [a1d hcn];exact congrArg (λz=>Row.nest _ _ z []) (X4 J Z)) | (rw [a1a hcn,List.map_set];rfl) | (rw [a1c hcn];exact congrArg (λz=>Row.nest _ _ z []) a4w))⟩,Z,Z,trivial⟩⟩,Z,Z,Z⟩
      ·omega
      omega
     rw [a8W (Nat.le_refl _)] at h103
     have hcn:=b8Y (m:=m) (i:=i) h103
     refine zwf ?_
     refine c5U ?_
     refine ⟨(i+1),?_,?_,⟨⟨_,Z,by rfl⟩,Z,trivial⟩,⟨⟨_,Z,by (first | (rw [a1b hcn];done) | (rw [a1d hcn];exact congrArg (λz=>Row.nest _ _ z []) (X4 J Z)) | (rw [a1a hcn,List.map_set];rfl) | (rw [a1c hcn];exact congrArg (λz=>Row.nest _ _ z []) a4w))⟩,Z,Z,⟨⟨_,Z,by (first | (rw [a1b hcn];done) | (rw [a1d hcn];exact congrArg (λz=>Row.nest _ _ z []) (X4 J Z)) | (rw [a1a hcn,List.map_set];rfl) | (rw [a1c hcn];exact congrArg (λz=>Row.nest _ _ z []) a4w))⟩,Z,Z,trivial⟩⟩,Z,Z,Z⟩
     ·omega
     omega
    have hcn:=b8X (m:=m) (i:=i) h102
    refine zwf ?_
    refine c5U ?_
    refine ⟨(i+1),?_,?_,⟨⟨_,Z,by rfl⟩,Z,trivial⟩,⟨⟨_,Z,by (first | (rw [a1b hcn];done) | (rw [a1d hcn];exact congrArg (λz=>Row.nest _ _ z []) (X4 J Z)) | (rw [a1a hcn,List.map_set];rfl) | (rw [a1c hcn];exact congrArg (λz=>Row.nest _ _ z []) a4w))⟩,Z,Z,⟨⟨_,Z,by (first | (rw [a1b hcn];done) | (rw [a1d hcn];exact congrArg (λz=>Row.nest _ _ z []) (X4 J Z)) | (rw [a1a hcn,List.map_set];rfl) | (rw [a1c hcn];exact congrArg (λz=>Row.nest _ _ z []) a4w))⟩,Z,Z,trivial⟩⟩,Z,Z,Z⟩
    ·omega
    omega
   obtain rfl:i=8:=J
   exact X9 ⟨.inl Z,Z,Z⟩
  refine ⟨Z,?_⟩
  refine zgn ?_
  refine n9 ?_
  first | refine C4 (Gh.nestF (id:=6) _ Z (S5 (x:=(R3 (m.cp.getD c default)).1) (.cons .s (.cons .s (.cons .s (.cons .t .nil)))))) ?_ | refine C4 (Gh.nestF (id:=6) _ Z (S5 (x:=(X5 (m.cp.getD c default)).1) (.cons .s (.cons .s (.cons .s (.cons .t .nil)))))) ?_ | refine C4 (Gh.nestF (id:=6) _ Z (S5 (x:=⟨sv,(m.cp.getD c default).st,(m.cp.getD c default).qu⟩) (.cons .s (.cons .s (.cons .s (.cons .s .nil)))))) ?_ | skip
  refine zgo ?_
  refine f6 (m8 Z Z Z Z (b4 (d7 Z ?_) (b4 (d7 Z ?_) (b4 (d7 Z ?_) (b4 (C7 Z ?_) (b4 (l4 ?_) (b4 (l4 ?_) f8)))))))
  all_goals exact b68
 refine zcd (λh3=>?_) (λh3=>?_)
 ·have hc:=b2a hv J
  obtain ⟨c,rfl⟩:∃c:Nat,sc=c:=⟨sc.toNat,by omega⟩
  obtain ⟨g1,g2,g3⟩:=hM.lens (k:=c) J
  have hIG:=hM.ok c J
  have hS:=c8A (m:=m) (sq:=sq) (sv:=sv) (c:=c) h3
  refine l3 19 [0,1,2,3,4,5,7] mixed a8 Z Z (λr0=>?_) (λ_ h=>h)
  refine a0A ?_
  refine b0z ?_
  refine zsa 7 ?_
  refine zsa 8 ?_
  refine zsa 9 ?_
  refine b7 (rs:=[10]) a8 Z (AllB.cons ?_ AllB.nil)
  refine g9 [0,1,2,3,4,5,7] Z Z (c8 11 Z Z Z (ArgsOK.of Z) (a93 (m.cp.getD c default) hIG.f) Z Z (b6 ⟨Z,?_⟩))
  refine zsa 11 ?_
  refine zsa 12 ?_
  refine zsa 13 ?_
  refine zsa 14 ?_
  refine b7 (rs:=[15]) a8 Z (AllB.cons ?_ AllB.nil)
  first | refine f9 [0,1,2,3,4,5,7] Z Z (b5 Z Z (p9 G Z Z Z Z Z J a6w) (b6 ⟨Z,?_⟩)) | refine f9 [0,1,2,3,4,5,7] Z Z (b5 Z Z (p9 G Z Z Z Z Z J G0) (b6 ⟨Z,?_⟩)) | refine f9 [0,1,2,3,4,5,7] Z Z (b5 Z Z (p9 G Z Z Z Z Z J J) (b6 ⟨Z,?_⟩))
  refine b7 (rs:=[16]) a8 Z (AllB.cons ?_ AllB.nil)
  first | refine f9 [0,1,2,3,4,5,7] Z Z (p4 G Z Z Z Z Z (x9 J J) Z Z (.v Z (.own Z (.own Z (.own Z .nil)))) Z Z Z (Nat.le_of_ble_eq_true Z) (λq h=>by cases h) Z (b6 ⟨Z,?_⟩)) | refine f9 [0,1,2,3,4,5,7] Z Z (p4 G Z Z Z Z Z (V5 J J) Z Z (.v Z (.own Z (.own Z (.own Z .nil)))) Z Z Z (Nat.le_of_ble_eq_true Z) (λq h=>by cases h) Z (b6 ⟨Z,?_⟩)) | refine f9 [0,1,2,3,4,5,7] Z Z (p4 G Z Z Z Z Z (Y2 G0 Z) Z Z (.v Z (.own Z (.own Z (.own Z .nil)))) Z Z Z (Nat.le_of_ble_eq_true Z) (λq h=>by cases h) Z (b6 ⟨Z,?_⟩))
  refine zsa 17 ?_
  refine zsa 18 ?_
  refine J1 ?_
  refine n9 ?_
  first | refine C4 (Gh.nestF (id:=6) _ Z (S5 (x:=(R3 (m.cp.getD c default)).1) (.cons .s (.cons .s (.cons .s (.cons .t .nil)))))) ?_ | refine C4 (Gh.nestF (id:=6) _ Z (S5 (x:=(X5 (m.cp.getD c default)).1) (.cons .s (.cons .s (.cons .s (.cons .t .nil)))))) ?_ | refine C4 (Gh.nestF (id:=6) _ Z (S5 (x:=⟨sv,(m.cp.getD c default).st,(m.cp.getD c default).qu⟩) (.cons .s (.cons .s (.cons .s (.cons .s .nil)))))) ?_ | skip
  refine zgo ?_
  refine f6 (m8 Z Z Z Z (b4 (d7 Z ?_) (b4 (d7 Z ?_) (b4 (d7 Z ?_) (b4 (C7 Z ?_) (b4 (l4 ?_) (b4 (l4 ?_) f8)))))))
  all_goals exact b68
 refine zcd (λh4=>?_) (λh4=>?_)
 ·have hc:=b2a hv J
  obtain ⟨c,rfl⟩:∃c:Nat,sc=c:=⟨sc.toNat,by omega⟩
  obtain ⟨g1,g2,g3⟩:=hM.lens (k:=c) J
  have hIG:=hM.ok c J
  have hS:=c8B (m:=m) (sq:=sq) (sv:=sv) (c:=c) h4
  refine l3 19 [0,1,2,3,4,5,7] mixed a8 Z Z (λr0=>?_) (λ_ h=>h)
  refine a0A ?_
  refine b0z ?_
  refine zsa 7 ?_
  refine zsa 8 ?_
  refine zsa 9 ?_
  refine b7 (rs:=[10]) a8 Z (AllB.cons ?_ AllB.nil)
  refine g9 [0,1,2,3,4,5,7] Z Z (c8 11 Z Z Z (ArgsOK.of Z) (a4o (m.cp.getD c default) hIG) Z Z (b6 ⟨Z,?_⟩))
  refine zsa 11 ?_
  refine zsa 12 ?_
  refine zsa 13 ?_
  refine zsa 14 ?_
  refine b7 (rs:=[15]) a8 Z (AllB.cons ?_ AllB.nil)
  first | refine f9 [0,1,2,3,4,5,7] Z Z (b5 Z Z (p9 G Z Z Z Z Z J a6w) (b6 ⟨Z,?_⟩)) | refine f9 [0,1,2,3,4,5,7] Z Z (b5 Z Z (p9 G Z Z Z Z Z J G0) (b6 ⟨Z,?_⟩)) | refine f9 [0,1,2,3,4,5,7] Z Z (b5 Z Z (p9 G Z Z Z Z Z J J) (b6 ⟨Z,?_⟩))
  refine b7 (rs:=[16]) a8 Z (AllB.cons ?_ AllB.nil)
  first | refine f9 [0,1,2,3,4,5,7] Z Z (p4 G Z Z Z Z Z (x9 J J) Z Z (.v Z (.own Z (.own Z (.own Z .nil)))) Z Z Z (Nat.le_of_ble_eq_true Z) (λq h=>by cases h) Z (b6 ⟨Z,?_⟩)) | refine f9 [0,1,2,3,4,5,7] Z Z (p4 G Z Z Z Z Z (V5 J J) Z Z (.v Z (.own Z (.own Z (.own Z .nil)))) Z Z Z (Nat.le_of_ble_eq_true Z) (λq h=>by cases h) Z (b6 ⟨Z,?_⟩)) | refine f9 [0,1,2,3,4,5,7] Z Z (p4 G Z Z Z Z Z (Y2 G0 Z) Z Z (.v Z (.own Z (.own Z (.own Z .nil)))) Z Z Z (Nat.le_of_ble_eq_true Z) (λq h=>by cases h) Z (b6 ⟨Z,?_⟩))
  refine zsa 17 ?_
  refine zsa 18 ?_
  refine J1 ?_
  refine n9 ?_
  first | refine C4 (Gh.nestF (id:=6) _ Z (S5 (x:=(R3 (m.cp.getD c default)).1) (.cons .s (.cons .s (.cons .s (.cons .t .nil)))))) ?_ | refine C4 (Gh.nestF (id:=6) _ Z (S5 (x:=(X5 (m.cp.getD c default)).1) (.cons .s (.cons .s (.cons .s (.cons .t .nil)))))) ?_ | refine C4 (Gh.nestF (id:=6) _ Z (S5 (x:=⟨sv,(m.cp.getD c default).st,(m.cp.getD c default).qu⟩) (.cons .s (.cons .s (.cons .s (.cons .s .nil)))))) ?_ | skip
  refine zgo ?_
  refine f6 (m8 Z Z Z Z (b4 (d7 Z ?_) (b4 (d7 Z ?_) (b4 (d7 Z ?_) (b4 (C7 Z ?_) (b4 (l4 ?_) (b4 (l4 ?_) f8)))))))
  all_goals exact b68
 refine zcd (λh5=>?_) (λh5=>?_)
 ·have hc:=b2a hv J
  obtain ⟨c,rfl⟩:∃c:Nat,sc=c:=⟨sc.toNat,by omega⟩
  obtain ⟨g1,g2,g3⟩:=hM.lens (k:=c) J
  have hIG:=hM.ok c J
  have hS:=sm5 (m:=m) (sq:=sq) (sv:=sv) (c:=c) h5
  refine c1g ?_
  refine b9y ?_
  refine vm5 ?_
  first | refine p4 G Z Z Z Z Z (x9 J J) Z Z (.v Z .nil) Z Z Z (Nat.le_of_ble_eq_true Z) (λq h=>by cases h) Z ?_ | refine p4 G Z Z Z Z Z (V5 J J) Z Z (.v Z .nil) Z Z Z (Nat.le_of_ble_eq_true Z) (λq h=>by cases h) Z ?_ | refine p4 G Z Z Z Z Z (Y2 G0 Z) Z Z (.v Z .nil) Z Z Z (Nat.le_of_ble_eq_true Z) (λq h=>by cases h) Z ?_
  refine zgn ?_
  refine n9 ?_
  first | refine C4 (Gh.nestF (id:=6) _ Z (S5 (x:=(R3 (m.cp.getD c default)).1) (.cons .s (.cons .s (.cons .s (.cons .t .nil)))))) ?_ | refine C4 (Gh.nestF (id:=6) _ Z (S5 (x:=(X5 (m.cp.getD c default)).1) (.cons .s (.cons .s (.cons .s (.cons .t .nil)))))) ?_ | refine C4 (Gh.nestF (id:=6) _ Z (S5 (x:=⟨sv,(m.cp.getD c default).st,(m.cp.getD c default).qu⟩) (.cons .s (.cons .s (.cons .s (.cons .s .nil)))))) ?_ | skip
  refine zgo ?_
  refine f6 (m8 Z Z Z Z (b4 (d7 Z ?_) (b4 (d7 Z ?_) (b4 (d7 Z ?_) (b4 (C7 Z ?_) (b4 (l4 ?_) (b4 (l4 ?_) f8)))))))
  all_goals exact b68
 refine zcd (λh6=>?_) (λh6=>?_)
 ·have hq:=c0t hv J
  obtain ⟨q,rfl⟩:∃q:Nat,sq=q:=⟨sq.toNat,by omega⟩
  have hS:=sm6 (m:=m) (sk:=sk) (sc:=sc) (sv:=sv) (q:=q) h6
  refine c1h ?_
  refine zgn ?_
  refine n9 ?_
  first | refine C4 (Gh.nestF (id:=6) _ Z (S5 (x:=(R3 (m.cp.getD c default)).1) (.cons .s (.cons .s (.cons .s (.cons .t .nil)))))) ?_ | refine C4 (Gh.nestF (id:=6) _ Z (S5 (x:=(X5 (m.cp.getD c default)).1) (.cons .s (.cons .s (.cons .s (.cons .t .nil)))))) ?_ | refine C4 (Gh.nestF (id:=6) _ Z (S5 (x:=⟨sv,(m.cp.getD c default).st,(m.cp.getD c default).qu⟩) (.cons .s (.cons .s (.cons .s (.cons .s .nil)))))) ?_ | skip
  refine zgo ?_
  refine f6 (m8 Z Z Z Z (b4 (d7 Z ?_) (b4 (d7 Z ?_) (b4 (d7 Z ?_) (b4 (C7 Z ?_) (b4 (l4 ?_) (b4 (l4 ?_) f8)))))))
  all_goals exact b68
 exact absurd (c6K hv) J
theorem b0k (m:Mach) (hM:MaG m):Ctr Tryz.prog 195 [.agg [.lst 2 (m.rs.map m4),.lst 1 (m.en.map j4),.lst 1 (m.ra.map j4),.nst none 4 (m.cp.map (l8 169 182))]] (.shp true [some 4] [.fr 83 2 ((b4U m).rs.map m4),.fr 4 1 ((b4U m).en.map j4),.fr 4 1 ((b4U m).ra.map j4),.ne 135 4 ((b4U m).cp.map (l8 169 182))]):=by
 have f1:=hM.n
 have f2:=hM.en
 have f3:=hM.ra
 have f4:=hM.rn
 refine Ctr.of (n:=63) G Tryz.func195 Z a8 Z Z Z (λw0=>?_)
 refine j5 0 Z (λ_=>Z) (λu0=>?_)
 refine N3 ?_
 refine p8 ?_
 refine c8 6 Z Z Z (ArgsOK.of Z) (a1h m hM) Z Z ?_
 refine vm5 ?_
 refine d6 G 7 Z Z Z Z Z ?_
 refine zgo ?_
 refine e6 [1,2,3] [0,1,2,3,6] (λ(i:Nat)=>[(4,.v (.int .i64 (i:Int)))]) (λ(i:Nat)=>[(4,some (.row 4 1 ((a8d m i).map j4))),(5,some (.nest 135 4 ((a09 m i).map (l8 169 182)) []))]) (λ(i:Nat)=>i<=8) (λ(i:Nat)=>8 - i) 0 Z Z ?_ ?_ ?_ ?_
 ·exact B2
 ·exact a8g
 ·exact b58
 intro i hi
 have hrl:=@a6q m i
 have hcl:=@J6 m i
 have htg:=λh=>hM.tg (i:=i) h
 refine vm4 ?_
 refine zcd (λh1=>?_) (λh1=>?_)
 ·obtain ⟨hta,htb,htc⟩:=htg J
  obtain ⟨hst,hIG⟩:=a6r hM (i:=i) (k:=tgM m i) J htb
  have htd:tgM m i < m.cp.length:=htb
  refine zcd (λh2=>?_) (λh2=>?_)
  ·refine zcd (λh3=>?_) (λh3=>?_)
   ·refine zgo ?_
    refine a0I ?_
    refine b41 ?_
    refine a0I ?_
    refine b5 Z Z (D9 G Z Z Z Z) ?_
    refine zcl (a2v (m.cp.getD (tgM m i) default).st _ (by have:=(hM.ok _ htd).f.sn;omega)) ?_
    refine zcd (λh4=>?_) (λh4=>?_)
    ·have hcn:=b8W (m:=m) (i:=i) h2 h3 h4
     refine c7J ?_
     refine C4 (Gh.open (id:=5) (i:=(tgM m i)) (k:=1) 8 Z Z (c5n J) Z Z) (C4 (Gh.open (id:=5) (i:=(tgM m i)) (k:=2) 9 Z Z (Y2 G0 Z) Z Z) (C4 (Gh.open (id:=5) (i:=(tgM m i)) (k:=3) 10 Z Z (Y2 G0 Z) Z Z) (l3 18 [0,1,2,3,4,6,7,8,9] mixed a8 Z Z (λr0=>?_) (λ_ h=>h))))
     refine a0A ?_
     refine zsa 4 ?_
     refine zsa 5 ?_
     refine zsa 8 ?_
     refine zsa 9 ?_
     refine zsa 10 ?_
     refine zsa 11 ?_
     refine zsa 12 ?_
     refine zsa 13 ?_
     refine zsa 14 ?_
     refine b7 (rs:=[6]) a8 Z (AllB.cons ?_ AllB.nil)
     first | refine f9 [0,1,2,3,4,6,7,8,9] Z Z (b5 Z Z (p9 G Z Z Z Z Z J a6w) (b6 ⟨Z,?_⟩)) | refine f9 [0,1,2,3,4,6,7,8,9] Z Z (b5 Z Z (p9 G Z Z Z Z Z J G0) (b6 ⟨Z,?_⟩))
     refine b7 (rs:=[7]) a8 Z (AllB.cons ?_ AllB.nil)
     refine g9 [0,1,2,3,4,6,7,8,9] Z Z (b5 Z Z (M6 G Z Z Z Z (Y2 G0 Z) Z (.v (.own a6v (.own a6v (.own a6v .nil))))) (b6 ⟨Z,?_⟩))
     refine b7 (rs:=[15]) a8 Z (AllB.cons ?_ AllB.nil)
     refine g9 [0,1,2,3,4,6,7,8,9] Z Z (c8 13 Z Z Z (ArgsOK.of Z) (a8q ((a09 m i).getD (tgM m i) default) _ _ hIG.f J htc) Z Z (b6 ⟨Z,?_⟩))
     refine a3c (Gh.detach (id:=5) Z) (a3c (Gh.detach (id:=5) Z) (a3c (Gh.detach (id:=5) Z) (b7 (rs:=[16]) a8 Z (AllB.cons ?_ AllB.nil))))
     first | refine f9 [0,1,2,3,4,6,7,8,9] Z Z (b5 Z Z (p9 G Z Z Z Z Z J a6w) (b6 ⟨Z,?_⟩)) | refine f9 [0,1,2,3,4,6,7,8,9] Z Z (b5 Z Z (p9 G Z Z Z Z Z J G0) (b6 ⟨Z,?_⟩))
     refine b7 (rs:=[17]) a8 Z (AllB.cons ?_ AllB.nil)
     refine g9 [0,1,2,3,4,6,7,8,9] Z Z (p4 G Z Z Z Z Z (Y2 G0 Z) Z Z (.v Z (.own Z (.own Z (.own Z .nil)))) Z Z Z (Nat.le_of_ble_eq_true Z) (λq h=>by cases h) Z (b6 ⟨Z,?_⟩))
     refine J1 ?_
     exact c1t
    have hcn:=b8Z (m:=m) (i:=i) h4
    exact c1t
   have hcn:=b8Y (m:=m) (i:=i) h3
   refine zwf ?_
   exact c1t
  have hcn:=b8X (m:=m) (i:=i) h2
  refine zwf ?_
  exact c1t
 obtain rfl:i=8:=J
 refine zgo ?_
 refine f6 (m8 Z Z Z Z (b4 (d7 Z ?_) (b4 (d7 Z ?_) (b4 (d7 Z ?_) (b4 (C7 Z ?_) f8)))))
 all_goals (rfl)
end Go.Proofs.YtpfhomblkgmkkaaGreatDoor
