/- Texts merged into one: M20, C1, Q2, M22, M25, M24. -/
import Derived.Test.YtpfhomblkgmkkaaGreatDoorPFnExactRunScriptF
set_option maxHeartbeats 4000000
set_option linter.unusedSimpArgs false
set_option linter.unusedVariables false
set_option maxRecDepth 20000
namespace Go.Proofs.YtpfhomblkgmkkaaGreatDoor
open Go Go.Rf
theorem b0b (xs:List Slot) (l:Int) (h0:xs.length<=9223372036854775807) (hl:0<=l/\l<=1048576):Ctr Tryz.prog 187 [.lst 3 (xs.map e9),.v (.int .i64 l)] (.one (.v (.int .i64 (szL xs.length l)))):=by
 refine Ctr.of (n:=12) G Tryz.func187 Z a8 Z Z Z (λw0=>?_)
 exact b9F
theorem a7p (xs:List Wtr) (l:Int) (h0:xs.length<=9223372036854775807) (hl:0<=l/\l<=1048576):Ctr Tryz.prog 188 [.lst 2 (xs.map f7),.v (.int .i64 l)] (.one (.v (.int .i64 (szL xs.length l)))):=by
 refine Ctr.of (n:=12) G Tryz.func188 Z a8 Z Z Z (λw0=>?_)
 exact b9F
theorem b0c (q:Que) (l:Int) (h0:q.sl.length<=9223372036854775807) (hw:q.wa.length<=9223372036854775807) (hl:0<=l/\l<=1048576):Ctr Tryz.prog 135 [.agg [.lst 3 (q.sl.map e9),.lst 2 (q.wa.map f7)],.v (.int .i64 l)] (.one (.v (.int .i64 (szQ q l)))):=by
 refine Ctr.of (n:=18) G Tryz.func135 Z a8 Z Z Z (λw0=>?_)
 refine j5 0 Z (λ_=>Z) (λu0=>?_)
 refine vm3 ?_
 refine zcl (b0b q.sl l h0 hl) ?_
 refine zcd (λh1=>?_) (λh1=>?_)
 ·exact c6a
 refine zcl (a7p q.wa _ hw (a3e hl J)) ?_
 refine zcd (λh2=>?_) (λh2=>?_)
 ·exact c6a
 exact c6a
theorem a5a (x:Ifc) (l:Int) (hb:BigI x) (hl:0<=l/\l<=1048576):Ctr Tryz.prog 90 [.agg [.v (.int .i64 x.ma),.lst 1 (x.st.map Rf.n8),.lst 3 (x.qu.sl.map e9),.lst 2 (x.qu.wa.map f7)],.v (.int .i64 l)] (.one (.v (.int .i64 (if l - szI x < 0 then -1 else l - szI x)))):=by
 refine Ctr.of (n:=18) G Tryz.func90 Z a8 Z Z Z (λw0=>?_)
 refine j5 0 Z (λ_=>Z) (λu0=>?_)
 refine vm3 ?_
 refine zcl (b0w x.st l hb.st hl) ?_
 refine zcd (λh1=>?_) (λh1=>?_)
 ·exact c56
 refine zcl (b0c x.qu _ hb.sl hb.wa (a3e hl J)) ?_
 refine zcd (λh2=>?_) (λh2=>?_)
 ·exact c56
 exact c56
theorem a4g (xs:List Ifc) (l:Int) (h0:xs.length<=9223372036854775807) (hz:∀i,i < xs.length→BigI (xs.getD i default)) (hl:0<=l/\l<=1048576):Ctr Tryz.prog 52 [.nst none 4 (xs.map (l6 169 182)),.v (.int .i64 l)] (.one (.v (.int .i64 (b0s xs l)))):=by
 refine Ctr.of (n:=27) G Tryz.func52 Z a8 Z Z Z (λw0=>?_)
 refine zgn ?_
 refine p6 ?_
 refine a2v ?_
 refine vm2 ?_
 refine zgn ?_
 refine zgn ?_
 refine m6 Z (λh1=>?_) (λh1=>?_)
 ·try rw [h1]
  try simp only [rfb] at h1
  exact c8f
 try rw [h1]
 try simp only [rfb] at h1
 refine zgn ?_
 refine zgn ?_
 refine r4 (d9 [0] [] (λ(i:Nat)=>[(1,.v (.int .i64 (l - xs.length - sumI xs i))),(5,.v (.int .i64 (i:Int)))]) (λ(i:Nat)=>[]) (λ(i:Nat)=>i<=xs.length/\0<=l - xs.length - sumI xs i) (λ(i:Nat)=>xs.length - i) 0 Z Z ?_ ?_ ?_ ?_)
 ·(refine ⟨Nat.zero_le _,?_⟩;simp only [sumI];omega)
 ·exact ⟨⟨_,Z,by (first | rfl | (simp only [sumI];congr 2;omega))⟩,Z,⟨⟨_,Z,by (first | rfl | (simp only [sumI];congr 2;omega))⟩,Z,trivial⟩⟩
 ·exact trivial
 intro i hinv
 have hln:=@a30 xs i
 refine vm4 ?_
 refine zgn ?_
 refine m6 Z (λh2=>?_) (λh2=>?_)
 ·try rw [h2]
  try simp only [rfb] at h2
  refine a6r ?_
  refine a0d ?_
  iterate 5 refine zst ?_
  refine vm5 ?_
  refine b5 Z Z (f9 Z (ArgsOK.of Z) (a5a _ _ (hz i J) J) Z) ?_
  refine zgn ?_
  refine zgn ?_
  refine m6 Z (λh3=>?_) (λh3=>?_)
  ·try rw [h3]
   try simp only [rfb] at h3
   exact c8f
  try rw [h3]
  try simp only [rfb] at h3
  refine zgn ?_
  refine a2w ?_
  refine ⟨(i+1),?_,?_,⟨⟨_,Z,by (first | rfl | (congr 2;rw [I2];rw [if_neg (by split at h3<;>omega)];omega))⟩,Z,⟨⟨_,Z,by (first | rfl | (congr 2;rw [I2];rw [if_neg (by split at h3<;>omega)];omega))⟩,Z,trivial⟩⟩,trivial,Z,Z,Z⟩
  ·(refine ⟨by omega,?_⟩;rw [I2];split at h3<;>omega)
  omega
 try rw [h2]
 try simp only [rfb] at h2
 refine zgn ?_
 refine a42 ?_
 all_goals exact c2r
theorem a7q (m:Mach) (l:Int) (hb:BigM m) (hl:0<=l/\l<=1048576):Ctr Tryz.prog 25 [.agg [.lst 2 (m.rs.map l7),.lst 1 (m.en.map j6),.lst 1 (m.ra.map j6),.nst none 4 (m.cp.map (l6 169 182))],.v (.int .i64 l)] (.one (.v (.int .i64 (a9L m l)))):=by
 refine Ctr.of (n:=30) G Tryz.func25 Z a8 Z Z Z (λw0=>?_)
 refine j5 0 Z (λ_=>Z) (λu0=>?_)
 refine vm3 ?_
 refine zcl (a8d m.rs l hb.rs hl) ?_
 refine zcd (λh1=>?_) (λh1=>?_)
 ·exact b9E
 refine zcl (a3y m.en _ hb.en (a3e hl J)) ?_
 refine zcd (λh2=>?_) (λh2=>?_)
 ·exact b9E
 refine zcl (a3y m.ra _ hb.ra (a3e (a3e hl J) J)) ?_
 refine zcd (λh3=>?_) (λh3=>?_)
 ·exact b9E
 refine zcl (a4g m.cp _ hb.cp hb.all (a3e (a3e (a3e hl J) J) J)) ?_
 refine zcd (λh4=>?_) (λh4=>?_)
 ·exact b9E
 exact b9E
theorem b0J (x:Slot):Ctr Tryz.prog 246 [.v (a2D x)] (.one (.v (a2D x))):=by
 refine Ctr.of (n:=14) G Tryz.func246 Z a8 Z Z Z (λw0=>?_)
 exact c1B
theorem b0d (xs:List Slot) (hn:xs.length<=1048576):Ctr Tryz.prog 198 [.lst 3 (xs.map e9)] (.one (.fr 169 3 (xs.map e9))):=by
 refine Ctr.of (n:=23) G Tryz.func198 Z a8 Z Z Z (λw0=>?_)
 refine b9w ?_
 refine d9 [0,3] [] (λ(i:Nat)=>[(4,.v (.int .i64 (i:Int)))]) (λ(i:Nat)=>[(0,some (.row 169 3 (a2L e9 (e9 zSl) xs i)))]) (λ(i:Nat)=>i<=xs.length) (λ(i:Nat)=>xs.length - i) 0 Z Z ?_ ?_ ?_ ?_
 ·exact C7
 ·exact u3
 ·exact b1D
 intro i hinv
 refine vm4 ?_
 refine zcd (λh1=>?_) (λh1=>?_)
 ·refine zcl (b0J _) ?_
  exact c1w
 refine zfo ?_
 all_goals exact b9q
theorem a8v (x:Wtr):Ctr Tryz.prog 247 [.v (a0U x)] (.one (.v (a0U x))):=by
 refine Ctr.of (n:=11) G Tryz.func247 Z a8 Z Z Z (λw0=>?_)
 exact c1B
theorem a7r (xs:List Wtr) (hn:xs.length<=1048576):Ctr Tryz.prog 199 [.lst 2 (xs.map f7)] (.one (.fr 182 2 (xs.map f7))):=by
 refine Ctr.of (n:=23) G Tryz.func199 Z a8 Z Z Z (λw0=>?_)
 refine b9w ?_
 refine d9 [0,3] [] (λ(i:Nat)=>[(4,.v (.int .i64 (i:Int)))]) (λ(i:Nat)=>[(0,some (.row 182 2 (a2L f7 (f7 ⟨0,0⟩) xs i)))]) (λ(i:Nat)=>i<=xs.length) (λ(i:Nat)=>xs.length - i) 0 Z Z ?_ ?_ ?_ ?_
 ·exact C7
 ·exact u3
 ·exact b1D
 intro i hinv
 refine vm4 ?_
 refine zcd (λh1=>?_) (λh1=>?_)
 ·refine zcl (a8v _) ?_
  exact c1w
 refine zfo ?_
 all_goals exact b9q
theorem b0e (q:Que) (hl:q.sl.length<=1048576) (hw:q.wa.length<=1048576):Ctr Tryz.prog 151 [.agg [.lst 3 (q.sl.map e9),.lst 2 (q.wa.map f7)]] (.shp true [some 2] [.fr 169 3 (q.sl.map e9),.fr 182 2 (q.wa.map f7)]):=by
 refine Ctr.of (n:=13) G Tryz.func151 Z a8 Z Z Z (λw0=>?_)
 refine j5 0 Z (λ_=>Z) (λu0=>?_)
 refine N0 ?_
 refine zgo ?_
 refine a7e ?_
 refine n9 ?_
 refine c8 4 Z Z Z (ArgsOK.of Z) (b0d q.sl hl) Z Z ?_
 refine n9 ?_
 refine c8 5 Z Z Z (ArgsOK.of Z) (a7r q.wa hw) Z Z ?_
 refine zgo ?_
 refine e6 (m8 Z Z Z Z (b4 (d6 Z ?_) (b4 (d6 Z ?_) f6)))
 all_goals (rfl)
theorem a5b (x:Ifc) (hn:x.st.length<=1048576) (hl:x.qu.sl.length<=1048576) (hw:x.qu.wa.length<=1048576):Ctr Tryz.prog 103 [.agg [.v (.int .i64 x.ma),.lst 1 (x.st.map Rf.n8),.lst 3 (x.qu.sl.map e9),.lst 2 (x.qu.wa.map f7)]] (.shp true [some 4] [.v (.int .i64 x.ma),.fr 3 1 (x.st.map Rf.n8),.fr 169 3 (x.qu.sl.map e9),.fr 182 2 (x.qu.wa.map f7)]):=by
 refine Ctr.of (n:=16) G Tryz.func103 Z a8 Z Z Z (λw0=>?_)
 refine j5 0 Z (λ_=>Z) (λu0=>?_)
 refine N0 ?_
 refine zgo ?_
 refine a7e ?_
 refine n9 ?_
 refine c8 4 Z Z Z (ArgsOK.of Z) (b0x x.st hn) Z Z ?_
 refine n9 ?_
 refine c8 6 Z Z Z (ArgsOK.of Z) (b0e x.qu hl hw) Z Z ?_
 refine zgo ?_
 exact c50
theorem a4h (xs:List Ifc) (hn:xs.length<=1048576) (hz:sumI xs xs.length<=1048576):Ctr Tryz.prog 63 [.nst none 4 (xs.map (l6 169 182))] (.one (.ne 135 4 (xs.map (l6 169 182)))):=by
 refine Ctr.of (n:=23) G Tryz.func63 Z a8 Z Z Z (λw0=>?_)
 refine zgn ?_
 refine a0d ?_
 refine P0 ?_
 refine vm5 ?_
 refine b44 (n:=xs.length) G 1 Z Z Z Z Z Z Z (by first | rfl | simp) (by first | rfl | simp) J J<|G7 (Gh.nest (id:=0) (yss:=List.replicate (xs.length) [.v (.int .i64 0),.l 3 1 [],.l 169 3 [],.l 182 2 []]) Z (by simp) (a71 (.v (.s (.s (.s .nil)))))) ?_
 refine zgo ?_
 refine d9 [0,3] [] (λ(i:Nat)=>[(4,.v (.int .i64 (i:Int)))]) (λ(i:Nat)=>[(0,some (.nest 135 4 (a2L (l6 169 182) ((l6 169 182) noI) xs i) []))]) (λ(i:Nat)=>i<=xs.length) (λ(i:Nat)=>xs.length - i) 0 Z Z ?_ ?_ ?_ ?_
 ·exact C7
 ·exact u3
 ·exact b1D
 intro i hinv
 refine vm4 ?_
 refine zcd (λh1=>?_) (λh1=>?_)
 ·have hs1:=a9G (xs:=xs) (i:=i) (n:=xs.length) J
  have hs2:szI (xs.getD i default)=(xs.getD i default).st.length+(xs.getD i default).qu.sl.length+(xs.getD i default).qu.wa.length:=rfl
  refine n9 ?_
  refine c8 4 Z Z Z (ArgsOK.of Z) (a5b (xs.getD i default) J J J) Z Z ?_
  refine vm5 ?_
  refine b5 Z Z (q9 G Z Z Z Z Z J (by rw [b23 J];omega)) ?_
  refine vm5 ?_
  refine p5 G Z Z Z Z Z (b24 J) Z Z (.v Z (.own Z (.own Z (.own Z .nil)))) Z Z Z (Nat.le_of_ble_eq_true Z) (λq h=>by cases h) (b25 J) ?_
  refine zgo ?_
  refine ⟨(i+1),?_,?_,⟨⟨_,Z,by rfl⟩,Z,trivial⟩,⟨⟨_,Z,by rfl⟩,Z,Z,trivial⟩,Z,Z,Z⟩
  ·omega
  omega
 refine zgo ?_
 refine e6 (C9 Z (C6 Z ?_))
 all_goals exact b9q
theorem a7s (m:Mach) (hs:SmallM m):Ctr Tryz.prog 31 [.agg [.lst 2 (m.rs.map l7),.lst 1 (m.en.map j6),.lst 1 (m.ra.map j6),.nst none 4 (m.cp.map (l6 169 182))]] (.shp true [some 4] [.fr 83 2 (m.rs.map l7),.fr 4 1 (m.en.map j6),.fr 4 1 (m.ra.map j6),.ne 135 4 (m.cp.map (l6 169 182))]):=by
 refine Ctr.of (n:=21) G Tryz.func31 Z a8 Z Z Z (λw0=>?_)
 refine j5 0 Z (λ_=>Z) (λu0=>?_)
 refine N0 ?_
 refine zgo ?_
 refine a7e ?_
 refine n9 ?_
 refine c8 4 Z Z Z (ArgsOK.of Z) (a8e m.rs hs.rs) Z Z ?_
 refine n9 ?_
 refine c8 5 Z Z Z (ArgsOK.of Z) (a3z m.en hs.en) Z Z ?_
 refine n9 ?_
 refine c8 6 Z Z Z (ArgsOK.of Z) (a3z m.ra hs.ra) Z Z ?_
 refine n9 ?_
 refine c8 7 Z Z Z (ArgsOK.of Z) (a4h m.cp hs.cp hs.sum) Z Z ?_
 refine zgo ?_
 refine e6 (m8 Z Z Z Z (b4 (d6 Z ?_) (b4 (d6 Z ?_) (b4 (d6 Z ?_) (b4 (C6 Z ?_) f6)))))
 all_goals (rfl)
theorem a3I (m:Mach) (x:Lg) (hs:SmallM m) (hx:x.d.size+x.p.size<=1048576):Ctr Tryz.prog 27 [.agg [.lst 2 (m.rs.map l7),.lst 1 (m.en.map j6),.lst 1 (m.ra.map j6),.nst none 4 (m.cp.map (l6 169 182)),.v (.string x.d),.v (.string x.p),.v (.int .i64 x.n)]] (.one (.v (.bool (a3p m x)))):=by
 refine Ctr.of (n:=11) G Tryz.func27 Z a8 Z Z Z (λw0=>?_)
 refine j5 0 Z (λ_=>Z) (λu0=>?_)
 refine vm3 ?_
 refine zcl (a3F m hs) ?_
 refine zcd (λh1=>?_) (λh1=>?_)
 ·refine zcl (a4A x hx) ?_
  exact c1H
 exact c1H
theorem S7 (m:Mach) (x:Lg) (hs:SmallM m) (hx:x.d.size+x.p.size<=1048576):Ctr Tryz.prog 32 [.agg [.lst 2 (m.rs.map l7),.lst 1 (m.en.map j6),.lst 1 (m.ra.map j6),.nst none 4 (m.cp.map (l6 169 182)),.v (.string x.d),.v (.string x.p),.v (.int .i64 x.n)]] (.one (.v (.bool (a3p m x)))):=by
 refine Ctr.of (n:=11) G Tryz.func32 Z a8 Z Z Z (λw0=>?_)
 refine j5 0 Z (λ_=>Z) (λu0=>?_)
 refine vm3 ?_
 refine zcl (V2 m hs) ?_
 refine zcd (λh1=>?_) (λh1=>?_)
 ·refine zcl (a07 x hx) ?_
  exact c1H
 exact c1H
theorem a7t (m:Mach) (x:Lg) (l:Int) (hb:BigM m) (h0:x.d.size<=9223372036854775807/\x.p.size<=9223372036854775807) (hl:0<=l/\l<=1048576):Ctr Tryz.prog 6 [.agg [.lst 2 (m.rs.map l7),.lst 1 (m.en.map j6),.lst 1 (m.ra.map j6),.nst none 4 (m.cp.map (l6 169 182)),.v (.string x.d),.v (.string x.p),.v (.int .i64 x.n)],.v (.int .i64 l)] (.one (.v (.int .i64 (c05 m x l)))):=by
 refine Ctr.of (n:=18) G Tryz.func6 Z Y Z Z Z (λw0=>?_)
 refine j5 0 Z (λ_=>Z) (λu0=>?_)
 refine zgo ?_
 refine a7 Z (y9 1 Z Z Z Z Z Z Z ?_)
 refine zcl (a7q m l hb hl) ?_
 refine zcd (λh1=>?_) (λh1=>?_)
 ·exact c57
 refine zgo ?_
 refine a7 Z (b5 Z Z (f9 Z (ArgsOK.of Z) (b2R x _ h0 (b5J hl J)) Z) ?_)
 refine zcd (λh2=>?_) (λh2=>?_)
 ·exact c57
 exact c57
theorem I3 (m:Mach) (x:Lg) (hs:SmallM m) (hx:x.d.size+x.p.size<=1048576):Ctr Tryz.prog 8 [.agg [.lst 2 (m.rs.map l7),.lst 1 (m.en.map j6),.lst 1 (m.ra.map j6),.nst none 4 (m.cp.map (l6 169 182)),.v (.string x.d),.v (.string x.p),.v (.int .i64 x.n)]] (.shp true [some 7] [.fr 83 2 (m.rs.map l7),.fr 4 1 (m.en.map j6),.fr 4 1 (m.ra.map j6),.ne 135 4 (m.cp.map (l6 169 182)),.v (.string x.d),.v (.string x.p),.v (.int .i64 x.n)]):=by
 refine Ctr.of (n:=13) G Tryz.func8 Z a8 Z Z Z (λw0=>?_)
 refine j5 0 Z (λ_=>Z) (λu0=>?_)
 refine N0 ?_
 refine zgo ?_
 refine a7e ?_
 refine n9 ?_
 refine c8 7 Z Z Z (ArgsOK.of Z) (a7s m hs) Z Z ?_
 refine zcl (b2Q x) ?_
 refine zgo ?_
 exact c2Z
theorem a7u (m:Mach) (x:Lg) (n:Mach) (y:Lg) (hb:BigM m):Ctr Tryz.prog 10 [.agg [.lst 2 (m.rs.map l7),.lst 1 (m.en.map j6),.lst 1 (m.ra.map j6),.nst none 4 (m.cp.map (l6 169 182)),.v (.string x.d),.v (.string x.p),.v (.int .i64 x.n)],.agg [.lst 2 (n.rs.map l7),.lst 1 (n.en.map j6),.lst 1 (n.ra.map j6),.nst none 4 (n.cp.map (l6 169 182)),.v (.string y.d),.v (.string y.p),.v (.int .i64 y.n)]] (.one (.v (.bool (c06 m x n y)))):=by
 refine Ctr.of (n:=17) G Tryz.func10 Z a8 Z Z Z (λw0=>?_)
 refine j5 0 Z (λ_=>Z) (λu0=>?_)
 refine j5 1 Z (λ_=>Z) (λu1=>?_)
 refine a2u ?_
 refine zcl (a7k m n hb) ?_
 refine zcd (λh1=>?_) (λh1=>?_)
 ·exact b9Q
 refine zcl (b2P x y) ?_
 refine zcd (λh2=>?_) (λh2=>?_)
 ·exact b9Q
 exact b9Q
theorem a8w (m:Mach) (hs:SmallM m):Ctr Tryz.prog 53 [.agg [.lst 2 (m.rs.map l7),.lst 1 (m.en.map j6),.lst 1 (m.ra.map j6),.nst none 4 (m.cp.map (l6 169 182))]] (.shp true [some 4] [.fr 83 2 (m.rs.map l7),.fr 4 1 (m.en.map j6),.fr 4 1 (m.ra.map j6),.ne 135 4 (m.cp.map (l6 169 182))]):=by
 have z0:=hs.rs
 have z1:=hs.en
 have z2:=hs.ra
 have z3:=hs.cp
 refine Ctr.of (n:=38) G Tryz.func53 Z a8 Z Z Z (λw0=>?_)
 refine j5 0 Z (λ_=>Z) (λu0=>?_)
 refine N0 ?_
 refine zgn ?_
 refine p6 (j7 16 [0,1] mixed a8 Z Z (λr0=>?_) (λ_ h=>h))
 refine zsa 1 ?_
 refine zsa 2 ?_
 refine zsa 5 ?_
 refine zsa 6 ?_
 refine zsa 9 ?_
 refine zsa 10 ?_
 refine x5 (N:=7) Z (r7 (fuel:=5) [⟨0,5,2,false,.row 83 2 []⟩,⟨4,9,3,false,.row 4 1 []⟩,⟨8,13,4,false,.row 4 1 []⟩,⟨12,17,5,false,.row 135 4 []⟩,⟨14,3,6,true,.box (avR [.slice none 0 0,.slice none 0 0,.slice none 0 0,.slice none 0 0] [])⟩] (AllVOK.cons (VOK.lit G Z Z Z Z Z) (AllVOK.cons (VOK.lit G Z Z Z Z Z) (AllVOK.cons (VOK.lit G Z Z Z Z Z) (AllVOK.cons (VOK.lit G Z Z Z Z Z) (AllVOK.cons (VOK.boxS G Z Z Z Z Z) (AllVOK.nil)))))) (λhok=>?_))
 refine m5 [(3,[0])] a8 a8 (λe he=>hok e he) a8 (AllVS.cons ?_ AllVS.nil)
 refine VStep.mk1 [0,1] 5 (.own 2) 2 (.row 83 2 []) [⟨4,9,3,false,.row 4 1 []⟩,⟨8,13,4,false,.row 4 1 []⟩,⟨12,17,5,false,.row 135 4 []⟩,⟨14,3,6,true,.box (avR [.slice none 0 0,.slice none 0 0,.slice none 0 0,.slice none 0 0] [])⟩] Z Z Z Z Z (λb1 _ hbn=>j3 G O8 Z Z Z Z Z Z Z Z Z R2 Z Z (b6 Z)) a8 a8 a8 a8 (m5 [(7,[4])] a8 a8 (λe he=>hok e (vin (is:=[0]) Z he)) a8 (AllVS.cons ?_ AllVS.nil))
 refine VStep.mk1 [0,1] 9 (.own 3) 3 (.row 4 1 []) [⟨8,13,4,false,.row 4 1 []⟩,⟨12,17,5,false,.row 135 4 []⟩,⟨14,3,6,true,.box (avR [.slice none 0 0,.slice none 0 0,.slice none 0 0,.slice none 0 0] [])⟩] Z Z Z Z Z (λb1 _ hbn=>j3 G O8 Z Z Z Z Z Z Z Z Z R2 Z Z (b6 Z)) a8 a8 a8 a8 (m5 [(11,[8])] a8 a8 (λe he=>hok e (vin (is:=[0,4]) Z he)) a8 (AllVS.cons ?_ AllVS.nil))
 refine VStep.mk1 [0,1] 13 (.own 4) 4 (.row 4 1 []) [⟨12,17,5,false,.row 135 4 []⟩,⟨14,3,6,true,.box (avR [.slice none 0 0,.slice none 0 0,.slice none 0 0,.slice none 0 0] [])⟩] Z Z Z Z Z (λb1 _ hbn=>j3 G O8 Z Z Z Z Z Z Z Z Z R2 Z Z (b6 Z)) a8 a8 a8 a8 (m5 [(13,[12])] a8 a8 (λe he=>hok e (vin (is:=[0,4,8]) Z he)) a8 (AllVS.cons ?_ AllVS.nil))
 refine VStep.mk1 [0,1] 17 (.own 5) 5 (.row 135 4 []) [⟨14,3,6,true,.box (avR [.slice none 0 0,.slice none 0 0,.slice none 0 0,.slice none 0 0] [])⟩] Z Z Z Z Z (λb1 _ hbn=>b5 Z Z (w5 G Z Z Z Z) (b6 Z)) a8 a8 a8 a8 (m5 [(15,[14])] a8 a8 (λe he=>hok e (vin (is:=[0,4,8,12]) Z he)) a8 (AllVS.cons ?_ AllVS.nil))
 refine c5J ?_
 clear hok
 refine c5U ?_
 refine d9 [1,2,3] [0,1,2,3,4,6] (λ(k:Nat)=>[(4,.v (.int .i64 (k:Int)))]) (λ(k:Nat)=>[(5,some (.nest 135 4 ((m.cp.take k).map (l6 169 182)) []))]) (λ(k:Nat)=>k<=m.cp.length) (λ(k:Nat)=>m.cp.length - k) 0 Z Z ?_ ?_ ?_ ?_
 ·exact C7
 ·exact a8c
 ·exact a1k
 intro k hk
 have hkl:((m.cp.take k).map (l6 169 182)).length=k:=b9u
 refine vm4 ?_
 refine zcd (λh1=>?_) (λh1=>?_)
 ·have g0:=hs.allI (i:=k) J
  unfold szI at g0
  exact c7P
 obtain rfl:k=m.cp.length:=J
 refine zgo ?_
 refine e6 (m8 Z Z Z Z (b4 (d6 Z ?_) (b4 (d6 Z ?_) (b4 (d6 Z ?_) (b4 (C6 Z ?_) f6)))))
 all_goals exact c5I
theorem a4i (m:Mach) (hs:SmallM m):Ctr Tryz.prog 66 [.agg [.lst 2 (m.rs.map l7),.lst 1 (m.en.map j6),.lst 1 (m.ra.map j6),.nst none 4 (m.cp.map (l6 169 182))]] (.shp true [some 4] [.fr 83 2 (m.rs.map l7),.fr 4 1 (m.en.map j6),.fr 4 1 (m.ra.map j6),.ne 135 4 (m.cp.map (l6 169 182))]):=by
 have z0:=hs.rs
 have z1:=hs.en
 have z2:=hs.ra
 have z3:=hs.cp
 refine Ctr.of (n:=36) G Tryz.func66 Z a8 Z Z Z (λw0=>?_)
 refine j5 0 Z (λ_=>Z) (λu0=>?_)
 refine N0 ?_
 refine zgn ?_
 refine p6 (j7 16 [0,1] mixed a8 Z Z (λr0=>?_) (λ_ h=>h))
 refine zsa 1 ?_
 refine zsa 2 ?_
 refine zsa 5 ?_
 refine zsa 6 ?_
 refine zsa 9 ?_
 refine zsa 10 ?_
 refine x5 (N:=7) Z (r7 (fuel:=5) [⟨0,6,2,false,.row 83 2 []⟩,⟨4,10,3,false,.row 4 1 []⟩,⟨8,14,4,false,.row 4 1 []⟩,⟨12,18,5,false,.row 135 4 []⟩,⟨14,3,6,true,.box (avR [.slice none 0 0,.slice none 0 0,.slice none 0 0,.slice none 0 0] [])⟩] (AllVOK.cons (VOK.lit G Z Z Z Z Z) (AllVOK.cons (VOK.lit G Z Z Z Z Z) (AllVOK.cons (VOK.lit G Z Z Z Z Z) (AllVOK.cons (VOK.lit G Z Z Z Z Z) (AllVOK.cons (VOK.boxS G Z Z Z Z Z) (AllVOK.nil)))))) (λhok=>?_))
 refine m5 [(3,[0])] a8 a8 (λe he=>hok e he) a8 (AllVS.cons ?_ AllVS.nil)
 refine VStep.mk1 [0,1] 6 (.own 2) 2 (.row 83 2 []) [⟨4,10,3,false,.row 4 1 []⟩,⟨8,14,4,false,.row 4 1 []⟩,⟨12,18,5,false,.row 135 4 []⟩,⟨14,3,6,true,.box (avR [.slice none 0 0,.slice none 0 0,.slice none 0 0,.slice none 0 0] [])⟩] Z Z Z Z Z (λb1 _ hbn=>j3 G O8 Z Z Z Z Z Z Z Z Z R2 Z Z (b6 Z)) a8 a8 a8 a8 (m5 [(7,[4])] a8 a8 (λe he=>hok e (vin (is:=[0]) Z he)) a8 (AllVS.cons ?_ AllVS.nil))
 refine VStep.mk1 [0,1] 10 (.own 3) 3 (.row 4 1 []) [⟨8,14,4,false,.row 4 1 []⟩,⟨12,18,5,false,.row 135 4 []⟩,⟨14,3,6,true,.box (avR [.slice none 0 0,.slice none 0 0,.slice none 0 0,.slice none 0 0] [])⟩] Z Z Z Z Z (λb1 _ hbn=>j3 G O8 Z Z Z Z Z Z Z Z Z R2 Z Z (b6 Z)) a8 a8 a8 a8 (m5 [(11,[8])] a8 a8 (λe he=>hok e (vin (is:=[0,4]) Z he)) a8 (AllVS.cons ?_ AllVS.nil))
 refine VStep.mk1 [0,1] 14 (.own 4) 4 (.row 4 1 []) [⟨12,18,5,false,.row 135 4 []⟩,⟨14,3,6,true,.box (avR [.slice none 0 0,.slice none 0 0,.slice none 0 0,.slice none 0 0] [])⟩] Z Z Z Z Z (λb1 _ hbn=>j3 G O8 Z Z Z Z Z Z Z Z Z R2 Z Z (b6 Z)) a8 a8 a8 a8 (m5 [(13,[12])] a8 a8 (λe he=>hok e (vin (is:=[0,4,8]) Z he)) a8 (AllVS.cons ?_ AllVS.nil))
 refine VStep.mk1 [0,1] 18 (.own 5) 5 (.row 135 4 []) [⟨14,3,6,true,.box (avR [.slice none 0 0,.slice none 0 0,.slice none 0 0,.slice none 0 0] [])⟩] Z Z Z Z Z (λb1 _ hbn=>b5 Z Z (w5 G Z Z Z Z) (b6 Z)) a8 a8 a8 a8 (m5 [(15,[14])] a8 a8 (λe he=>hok e (vin (is:=[0,4,8,12]) Z he)) a8 (AllVS.cons ?_ AllVS.nil))
 refine c5J ?_
 clear hok
 refine c5U ?_
 refine d9 [2,3,21,22] [1,2,3,4,6] (λ(k:Nat)=>[(23,.v (.int .i64 (k:Int)))]) (λ(k:Nat)=>[(5,some (.nest 135 4 ((m.cp.take k).map (l6 169 182)) []))]) (λ(k:Nat)=>k<=m.cp.length) (λ(k:Nat)=>m.cp.length - k) 0 Z Z ?_ ?_ ?_ ?_
 ·exact C7
 ·exact a8c
 ·exact a1k
 intro k hk
 have hkl:((m.cp.take k).map (l6 169 182)).length=k:=b9u
 refine vm4 ?_
 refine zcd (λh1=>?_) (λh1=>?_)
 ·have g0:=hs.allI (i:=k) J
  unfold szI at g0
  refine n9 ?_
  refine b4W ?_
  refine vm5 ?_
  refine a6h 26 Z (λ_=>Z) λv26=>m4 G Z Z Z Z Z Z Z Z Z Z Z ?_
  refine zgo ?_
  apply x8 [2,3,21,22,23] [1,2,3,4,6,12] 13 8 [1,2,3,4,7] mixed a8 Z Z (λ_ h=>znk h)
  ·intro r0
   refine zsa 0 ?_
   refine zsa 2 ?_
   refine b7 (rs:=[1,3]) a8 Z (AllB.cons ?_ (AllB.cons ?_ AllB.nil))
   ·refine f8 [1,2,3,4,7] Z Z ?_
    refine J5 ?_
    refine b7 (rs:=[3]) a8 Z (AllB.cons ?_ AllB.nil)
    refine f8 [1,2,3,4,7] Z Z (c8 11 Z Z Z (ArgsOK.of Z) (A2 (m.cp.getD k default) J J J) Z Z (b6 ⟨Z,?_⟩))
    exact c3Z
   refine f8 [1,2,3,4,7] Z Z (c8 11 Z Z Z (ArgsOK.of Z) (A2 (m.cp.getD k default) J J J) Z Z (b6 ⟨Z,?_⟩))
   refine b7 (rs:=[1,4]) a8 Z (AllB.cons ?_ (AllB.cons ?_ AllB.nil))
   ·refine f8 [1,2,3,4,7] Z Z ?_
    refine J5 ?_
    exact c3Z
   refine f8 [1,2,3,4,7] Z Z (A8 G 12 Z Z Z Z Z Z Z Z (.v Z (.own Z (.own Z (.own Z .nil)))) Z Z Z Z (b6 ⟨Z,?_⟩))
   refine b7 (rs:=[1]) a8 Z (AllB.cons ?_ AllB.nil)
   refine f8 [1,2,3,4,7] Z Z ?_
   refine J5 ?_
   exact c3y
  refine b8 ?_
  refine P0 ?_
  refine G7 (Gh.sub 12 5 np Z Z Z) (b6 ⟨(k+1),?_,?_,⟨⟨_,Z,by rfl⟩,Z,trivial⟩,⟨⟨_,Z,by (exact congrArg (λz=>Row.nest _ _ z []) (b1i J Z))⟩,Z,Z,trivial⟩,Z,Z,Z⟩)
  ·omega
  omega
 obtain rfl:k=m.cp.length:=J
 refine zgo ?_
 refine e6 (m8 Z Z Z Z (b4 (d6 Z ?_) (b4 (d6 Z ?_) (b4 (d6 Z ?_) (b4 (C6 Z ?_) f6)))))
 all_goals exact c5I
theorem s5 (m:Mach) (x:Lg) (hs:SmallM m) (hx:x.d.size+x.p.size<=1048576):Ctr Tryz.prog 26 [.agg [.lst 2 (m.rs.map l7),.lst 1 (m.en.map j6),.lst 1 (m.ra.map j6),.nst none 4 (m.cp.map (l6 169 182)),.v (.string x.d),.v (.string x.p),.v (.int .i64 x.n)]] (.shp true [some 7] [.fr 83 2 (m.rs.map l7),.fr 4 1 (m.en.map j6),.fr 4 1 (m.ra.map j6),.ne 135 4 (m.cp.map (l6 169 182)),.v (.string x.d),.v (.string x.p),.v (.int .i64 x.n)]):=by
 refine Ctr.of (n:=9) G Tryz.func26 Z a8 Z Z Z (λw0=>?_)
 refine j5 0 Z (λ_=>Z) (λu0=>?_)
 refine N0 ?_
 refine zgn ?_
 refine p6 (j7 7 [0] mixed a8 Z Z (λr0=>?_) (λ_ h=>h))
 refine zsa 0 ?_
 refine zsa 1 ?_
 refine zsa 3 ?_
 refine zsa 4 ?_
 refine b7 (rs:=[2]) a8 Z (AllB.cons ?_ AllB.nil)
 refine f8 [0] Z Z (c8 6 Z Z Z (ArgsOK.of Z) (a8w m hs) Z Z (b6 ⟨Z,?_⟩))
 exact c8c
theorem a03 (m:Mach) (x:Lg) (hs:SmallM m) (hx:x.d.size+x.p.size<=1048576):Ctr Tryz.prog 33 [.agg [.lst 2 (m.rs.map l7),.lst 1 (m.en.map j6),.lst 1 (m.ra.map j6),.nst none 4 (m.cp.map (l6 169 182)),.v (.string x.d),.v (.string x.p),.v (.int .i64 x.n)]] (.shp true [some 7] [.fr 83 2 (m.rs.map l7),.fr 4 1 (m.en.map j6),.fr 4 1 (m.ra.map j6),.ne 135 4 (m.cp.map (l6 169 182)),.v (.string x.d),.v (.string x.p),.v (.int .i64 x.n)]):=by
 refine Ctr.of (n:=9) G Tryz.func33 Z a8 Z Z Z (λw0=>?_)
 refine j5 0 Z (λ_=>Z) (λu0=>?_)
 refine N0 ?_
 refine zgn ?_
 refine p6 (j7 7 [0] mixed a8 Z Z (λr0=>?_) (λ_ h=>h))
 refine zsa 0 ?_
 refine zsa 1 ?_
 refine zsa 3 ?_
 refine zsa 4 ?_
 refine b7 (rs:=[2]) a8 Z (AllB.cons ?_ AllB.nil)
 refine f8 [0] Z Z (c8 6 Z Z Z (ArgsOK.of Z) (a4i m hs) Z Z (b6 ⟨Z,?_⟩))
 exact c8c
theorem b0f (sl:List Slot) (irq:Int) (hF:SlF sl) (h0:0<=r9 sl irq) (ha:a0b (sl.getD (r9 sl irq).toNat default)=true):Ctr Tryz.prog 284 [.lst 3 (sl.map e9),.v (.int .i64 irq)] (.many [.fr 169 3 ((edS sl irq).map e9),.v (.bool true)]):=by
 have hl4:=hF.len
 have hf:=@a2o sl irq
 have haa:=u9.mp ha
 refine Ctr.of (n:=39) G Tryz.func284 Z a8 Z Z Z (λw0=>?_)
 refine zcl (B8 sl irq J) ?_
 refine zcd (λh1=>?_) (λh1=>?_)
 ·exact b57
 refine zcl (a2I _) ?_
 refine zcd (λh2=>?_) (λh2=>?_)
 ·exact b57
 refine a6q ?_
 refine zcd (λh3=>?_) (λh3=>?_)
 ·exact c3O
 exact c3O
theorem b2S (sl:List Slot) (irq:Int) (hF:SlF sl) (h0:0<=r9 sl irq) (ha:a0b (sl.getD (r9 sl irq).toNat default)=true):Ctr Tryz.prog 294 [.lst 3 (sl.map e9),.v (.int .i64 irq)] (.many [.fr 169 3 ((edS sl irq).map e9),.v (.bool true)]):=by
 have hl4:=hF.len
 have hf:=@a2o sl irq
 have haa:=u9.mp ha
 refine Ctr.of (n:=41) G Tryz.func294 Z a8 Z Z Z (λw0=>?_)
 refine zcl (E7 sl irq J) ?_
 refine zcd (λh1=>?_) (λh1=>?_)
 ·exact b57
 refine zcd (λh2=>?_) (λh2=>?_)
 ·exact b57
 refine zcd (λh3=>?_) (λh3=>?_)
 ·refine n9 ?_
  refine c8 1 Z Z Z (ArgsOK.of Z) (E8 sl _ ⟨_,_,_⟩ J J) Z Z ?_
  exact c5W
 refine a6q ?_
 refine n9 ?_
 refine c8 2 Z Z Z (ArgsOK.of Z) (E8 sl _ ⟨_,_,_⟩ J J) Z Z ?_
 exact c5W
theorem a8x (q:Que) (irq:Int) (hF:QF q) (h0:0<=r9 q.sl irq) (ha:a0b (q.sl.getD (r9 q.sl irq).toNat default)=true):Ctr Tryz.prog 228 [.agg [.lst 3 (q.sl.map e9),.lst 2 (q.wa.map f7)],.v (.int .i64 irq)] (.shp false [some 2,none] [.fr 169 3 ((a62 q irq).sl.map e9),.fr 182 2 ((a62 q irq).wa.map f7) true,.v (.bool true)]):=by
 have hl4:=hF.sl.len
 have hwn:=hF.wn
 have hQ:=a8O hF h0
 refine Ctr.of (n:=23) G Tryz.func228 Z a8 Z Z Z (λw0=>?_)
 refine j5 0 Z (λ_=>Z) (λu0=>?_)
 refine d3 (λK1 hK1=>?_)
 refine b3W ?_
 refine b0t ?_
 refine c1t ?_
 refine hK1 _ ?_
 clear hK1 K1
 refine d3 (λK2 hK2=>?_)
 refine b9v ?_
 refine c8 3 Z Z Z (ArgsOK.of Z) (b0f q.sl irq hF.sl h0 ha) Z Z ?_
 refine vm5 ?_
 refine c5P ?_
 refine hK2 _ ?_
 clear hK2 K2
 refine d3 (λK3 hK3=>?_)
 refine d3 (λK4 hK4=>?_)
 refine b8 ?_
 refine vm5 ?_
 refine b5 Z Z (c7 Z Z) ?_
 refine vm5 ?_
 refine b5 Z Z (a2T Z Z) (b6 (hK4 _ ?_))
 clear hK4 K4
 refine m6 Z (λh1=>?_) (λh1=>?_)
 ·exact c8d
 ·try rw [h1]
  try simp only [rfb] at h1
  refine s3 (hK3 _ ?_)
  clear hK3 K3
  refine d3 (λK6 hK6=>?_)
  refine c5O ?_
  refine c8 5 Z Z Z (ArgsOK.of Z) (a0D _ hQ) Z Z ?_
  exact c8i
theorem b2T (q:Que) (irq:Int) (hF:QF q) (h0:0<=r9 q.sl irq) (ha:a0b (q.sl.getD (r9 q.sl irq).toNat default)=true):Ctr Tryz.prog 245 [.agg [.lst 3 (q.sl.map e9),.lst 2 (q.wa.map f7)],.v (.int .i64 irq)] (.shp false [some 2,none] [.fr 169 3 ((a62 q irq).sl.map e9),.fr 182 2 ((a62 q irq).wa.map f7),.v (.bool true)]):=by
 have hl4:=hF.sl.len
 have hwn:=hF.wn
 have hQ:=a8O hF h0
 refine Ctr.of (n:=23) G Tryz.func245 Z a8 Z Z Z (λw0=>?_)
 refine j5 0 Z (λ_=>Z) (λu0=>?_)
 refine d3 (λK1 hK1=>?_)
 refine b3W ?_
 refine b0t ?_
 refine c1t ?_
 refine hK1 _ ?_
 clear hK1 K1
 refine d3 (λK2 hK2=>?_)
 refine b9v ?_
 refine c8 3 Z Z Z (ArgsOK.of Z) (b2S q.sl irq hF.sl h0 ha) Z Z ?_
 refine vm5 ?_
 refine c5P ?_
 refine hK2 _ ?_
 clear hK2 K2
 refine d3 (λK3 hK3=>?_)
 refine d3 (λK4 hK4=>?_)
 refine b8 ?_
 refine vm5 ?_
 refine b5 Z Z (c7 Z Z) ?_
 refine vm5 ?_
 refine b5 Z Z (a2T Z Z) (b6 (hK4 _ ?_))
 clear hK4 K4
 refine m6 Z (λh1=>?_) (λh1=>?_)
 ·exact c8d
 ·try rw [h1]
  try simp only [rfb] at h1
  refine s3 (hK3 _ ?_)
  clear hK3 K3
  refine d3 (λK6 hK6=>?_)
  refine c5O ?_
  refine c8 5 Z Z Z (ArgsOK.of Z) (F9 _ hQ) Z Z ?_
  exact c8i
theorem a8y (x:Ifc) (hG:IfG x) (hn:x.st.length≠0):Ctr Tryz.prog 178 [.agg [.v (.int .i64 x.ma),.lst 1 (x.st.map Rf.n8),.lst 3 (x.qu.sl.map e9),.lst 2 (x.qu.wa.map f7)]] (.shp false [some 4,none,none] [.v (.int .i64 x.ma),.fr 3 1 ((x.st.take (x.st.length - 1)).map Rf.n8),.fr 169 3 ((a62 x.qu (O6 x)).sl.map e9),.fr 182 2 ((a62 x.qu (O6 x)).wa.map f7) true,.v (.int .i64 (O6 x)),.v (.bool true)]):=by
 have hl4:=hG.f.qu.sl.len
 have hwn:=hG.f.qu.wn
 have hsn:=hG.f.sn
 obtain ⟨hla,hlb⟩:=c19 hG hn
 have hls:=b1y hn
 have htn:((x.st.length:Int) - 1).toNat=x.st.length - 1:=J
 refine Ctr.of (n:=40) G Tryz.func178 Z a8 Z Z Z (λw0=>?_)
 refine j5 0 Z (λ_=>Z) (λu0=>?_)
 refine N0 ?_
 refine zcd (λh1=>?_) (λh1=>?_)
 ·exfalso;omega
 refine zgn ?_
 refine p6 (j7 14 [0,1] mixed a8 Z Z (λr0=>?_) (λ_ h=>h))
 refine a0C ?_
 refine b0u ?_
 refine x5 (N:=3) Z (r7 (fuel:=6) [⟨11,6,2,true,.box (avR [.slice none 0 0,.slice none 0 0] [])⟩] (AllVOK.cons (VOK.boxS G Z Z Z Z Z) (AllVOK.nil)) (λhok=>?_))
 refine m5 [(7,[])] a8 a8 (λe he=>hok e he) a8 (AllVS.cons ?_ AllVS.nil)
 refine VStep.mk0 [0,1] Z Z (λb1 _ hbn=>c8 5 Z Z Z (ArgsOK.of Z) (a8x x.qu _ hG.f.qu (by rw [hls];exact hla) (by rw [hls];exact hlb)) Z Z (b6 Z)) a8 a8 a8 a8 (s8 8 Z a8 Z Z Z Z (c7 Z Z) a8 a8 a8 (s8 9 Z a8 Z Z Z Z (j8 Z Z Z) a8 a8 a8 (s8 10 Z a8 Z Z Z Z (j8 Z Z Z) a8 a8 a8 (m5 [(12,[11])] a8 a8 (λe he=>hok e he) a8 (AllVS.cons ?_ AllVS.nil)))))
 refine VStep.mk1 [0,1] 6 (.ptr 2 0) 2 (.box (avR [.slice none 0 0,.slice none 0 0] [])) [] Z Z Z Z Z (λb1 _ hbn=>m4 G Z Z Z Z Z Z Z Z Z Z Z (b6 Z)) a8 a8 a8 a8 (D0 ?_)
 clear hok
 refine zsa 13 ?_
 refine H4 ?_
 refine p6 (j7 17 [0,2,3,4] mixed a8 Z Z (λr0=>?_) (λ_ h=>h))
 refine a0C ?_
 refine zsa 4 ?_
 first | refine d4 5 Z a8 a8 Z Z Z Z (E5 G Z Z Z Z Z J J J) ?_ | refine d4 5 Z a8 a8 Z Z Z Z (E5 G Z Z Z Z Z J a4t a4t) ?_
 refine zsa 7 ?_
 refine zsa 9 ?_
 refine zsa 10 ?_
 refine zsa 11 ?_
 refine zsa 12 ?_
 refine zsa 13 ?_
 refine b7 (rs:=[6]) a8 Z (AllB.cons ?_ AllB.nil)
 refine f8 [0,2,3,4] Z Z (c8 6 Z Z Z (ArgsOK.of (congrArg some (congrArg (λz=>[AV.lst 1 z]) b3R))) (z8 (x.st.take (x.st.length - 1)) (by rw [List.length_take];omega)) Z Z (b6 ⟨Z,?_⟩))
 refine b7 (rs:=[8]) a8 Z (AllB.cons ?_ AllB.nil)
 refine b3Z ?_
 refine b7 (rs:=[14]) a8 Z (AllB.cons ?_ AllB.nil)
 refine b3Z ?_
 refine zsa 15 ?_
 refine zsa 16 ?_
 refine H4 ?_
 refine e6 (m8 Z Z Z Z (b4 (l3 ?_) (b4 (d6 Z ?_) (b4 (d6 Z ?_) (b4 (d6 Z ?_) (b4 (l3 ?_) (b4 (l3 ?_) f6)))))))
 all_goals (first | rfl | (rw [hls];done))
theorem a8z (x:Ifc) (hG:IfG x) (hn:x.st.length≠0):Ctr Tryz.prog 197 [.agg [.v (.int .i64 x.ma),.lst 1 (x.st.map Rf.n8),.lst 3 (x.qu.sl.map e9),.lst 2 (x.qu.wa.map f7)]] (.shp false [some 4,none] [.v (.int .i64 x.ma),.fr 3 1 ((x.st.take (x.st.length - 1)).map Rf.n8),.fr 169 3 ((a62 x.qu (O6 x)).sl.map e9),.fr 182 2 ((a62 x.qu (O6 x)).wa.map f7),.v (.int .i64 (O6 x))]):=by
 have hl4:=hG.f.qu.sl.len
 have hwn:=hG.f.qu.wn
 have hsn:=hG.f.sn
 obtain ⟨hla,hlb⟩:=c19 hG hn
 have hls:=b1y hn
 have htn:((x.st.length:Int) - 1).toNat=x.st.length - 1:=J
 refine Ctr.of (n:=41) G Tryz.func197 Z a8 Z Z Z (λw0=>?_)
 refine j5 0 Z (λ_=>Z) (λu0=>?_)
 refine N0 ?_
 refine zcd (λh1=>?_) (λh1=>?_)
 ·exfalso;omega
 refine zgn ?_
 refine p6 (j7 15 [0,1] mixed a8 Z Z (λr0=>?_) (λ_ h=>h))
 refine c7K ?_
 refine zsa 6 ?_
 refine zsa 7 ?_
 refine x5 (N:=3) Z (r7 (fuel:=6) [⟨12,5,2,true,.box (avR [.slice none 0 0,.slice none 0 0] [])⟩] (AllVOK.cons (VOK.boxS G Z Z Z Z Z) (AllVOK.nil)) (λhok=>?_))
 refine m5 [(8,[])] a8 a8 (λe he=>hok e he) a8 (AllVS.cons ?_ AllVS.nil)
 refine VStep.mk0 [0,1] Z Z (λb1 _ hbn=>c8 5 Z Z Z (ArgsOK.of Z) (b2T x.qu _ hG.f.qu (by rw [hls];exact hla) (by rw [hls];exact hlb)) Z Z (b6 Z)) a8 a8 a8 a8 (s8 9 Z a8 Z Z Z Z (c7 Z Z) a8 a8 a8 (s8 10 Z a8 Z Z Z Z (j8 Z Z Z) a8 a8 a8 (s8 11 Z a8 Z Z Z Z (j8 Z Z Z) a8 a8 a8 (m5 [(13,[12])] a8 a8 (λe he=>hok e he) a8 (AllVS.cons ?_ AllVS.nil)))))
 refine c7F ?_
 clear hok
 refine zsa 14 ?_
 refine H4 ?_
 refine p6 (j7 18 [0,2,3,4] mixed a8 Z Z (λr0=>?_) (λ_ h=>h))
 refine c7K ?_
 first | refine d4 6 Z a8 a8 Z Z Z Z (E5 G Z Z Z Z Z J J J) ?_ | refine d4 6 Z a8 a8 Z Z Z Z (E5 G Z Z Z Z Z J a4t a4t) ?_
 refine zsa 8 ?_
 refine zsa 10 ?_
 refine zsa 11 ?_
 refine zsa 12 ?_
 first | refine d4 13 Z a8 a8 Z Z Z Z (v6 Z Z Z Z J J) ?_ | refine d4 13 Z a8 a8 Z Z Z Z (A4 Z Z Z Z) ?_
 refine zsa 14 ?_
 refine zsa 15 ?_
 refine b7 (rs:=[7]) a8 Z (AllB.cons ?_ AllB.nil)
 refine f8 [0,2,3,4] Z Z (c8 6 Z Z Z (ArgsOK.of (congrArg some (congrArg (λz=>[AV.lst 1 z]) b3R))) (E1 (x.st.take (x.st.length - 1)) (by rw [List.length_take];omega)) Z Z (b6 ⟨Z,?_⟩))
 refine b7 (rs:=[9]) a8 Z (AllB.cons ?_ AllB.nil)
 refine b3Z ?_
 refine b7 (rs:=[16]) a8 Z (AllB.cons ?_ AllB.nil)
 refine b3Z ?_
 refine zsa 17 ?_
 refine H4 ?_
 refine e6 (m8 Z Z Z Z (b4 (l3 ?_) (b4 (d6 Z ?_) (b4 (d6 Z ?_) (b4 (d6 Z ?_) (b4 (l3 ?_) f6))))))
 all_goals (first | rfl | (rw [hls];done))
theorem a5c (x:Ifc) (hn:x.st.length=0):Ctr Tryz.prog 178 [.agg [.v (.int .i64 x.ma),.lst 1 (x.st.map Rf.n8),.lst 3 (x.qu.sl.map e9),.lst 2 (x.qu.wa.map f7)]] (.shp false [some 4,none,none] [.v (.int .i64 0),.fr 3 1 (([]:List Int).map Rf.n8),.fr 169 3 ((⟨[],[]⟩:Que).sl.map e9),.fr 182 2 ((⟨[],[]⟩:Que).wa.map f7) true,.v (.int .i64 0),.v (.bool false)]):=by
 refine Ctr.of (n:=40) G Tryz.func178 Z a8 Z Z Z (λw0=>?_)
 refine j5 0 Z (λ_=>Z) (λu0=>?_)
 refine N0 ?_
 refine zcd (λh1=>?_) (λh1=>?_)
 ·refine zgo ?_
  refine e6 (m8 Z Z Z Z (b4 (l3 ?_) (b4 (I5 ?_) (b4 (I5 ?_) (b4 (I5 ?_) (b4 (l3 ?_) (b4 (l3 ?_) f6)))))))
  all_goals (rfl)
 exfalso;omega
theorem a4j (x:Ifc) (hG:IfG x):Ctr Tryz.prog 178 [.agg [.v (.int .i64 x.ma),.lst 1 (x.st.map Rf.n8),.lst 3 (x.qu.sl.map e9),.lst 2 (x.qu.wa.map f7)]] (.shp false [some 4,none,none] [.v (.int .i64 (X8 x).1.ma),.fr 3 1 ((X8 x).1.st.map Rf.n8),.fr 169 3 ((X8 x).1.qu.sl.map e9),.fr 182 2 ((X8 x).1.qu.wa.map f7) true,.v (.int .i64 (X8 x).2.1),.v (.bool (X8 x).2.2)]):=by
 by_cases h:x.st.length=0
 ·rw [b5M h];exact a5c x h
 rw [b5N h];exact a8y x hG h
theorem a5d (m:Mach) (sk sq sc sv:Int) (hM:MaG m) (hv:O4 m.cp.length ⟨sk,sq,sc,sv⟩=true):Ctr Tryz.prog 120 [.agg [.lst 2 (m.rs.map l7),.lst 1 (m.en.map j6),.lst 1 (m.ra.map j6),.nst none 4 (m.cp.map (l6 169 182))],.v (.agg ⟨[.int .i64 sk,.int .i64 sq,.int .i64 sc,.int .i64 sv]⟩)] (.shp false [some 4,none,none] [.fr 83 2 ((stM m ⟨sk,sq,sc,sv⟩).1.rs.map l7),.fr 4 1 ((stM m ⟨sk,sq,sc,sv⟩).1.en.map j6),.fr 4 1 ((stM m ⟨sk,sq,sc,sv⟩).1.ra.map j6),.ne 135 4 ((stM m ⟨sk,sq,sc,sv⟩).1.cp.map (a1h 169 182)),.v (.int .i64 (stM m ⟨sk,sq,sc,sv⟩).2.1),.v (.bool (stM m ⟨sk,sq,sc,sv⟩).2.2)]):=by
 have f1:=hM.n
 have f2:=hM.en
 have f3:=hM.ra
 have f4:=hM.rn
 refine Ctr.of (n:=90) G Tryz.func120 Z a8 Z Z Z (λw0=>?_)
 refine j5 0 Z (λ_=>Z) (λu0=>?_)
 refine a2u ?_
 refine a7e ?_
 refine n9 ?_
 refine c8 7 Z Z Z (ArgsOK.of Z) (a6x m hM) Z Z ?_
 refine vm5 ?_
 refine b4W ?_
 refine zgn ?_
 refine p6 (p6 (B4 (Gh.nestF (id:=6) _ Z flM) ?_))
 refine zcd (λh1=>?_) (λh1=>?_)
 ·have hq:=c0u hv J
  obtain ⟨q,rfl⟩:∃q:Nat,sq=q:=⟨sq.toNat,by omega⟩
  have hS:=sm1 (m:=m) (sc:=sc) (sv:=sv) (q:=q) h1
  refine c1m ?_
  refine zgn ?_
  refine p6 ?_
  first | refine B4 (Gh.nestF (id:=6) _ Z (S4 (x:=(R1 (m.cp.getD c default)).1) (.cons .s (.cons .s (.cons .s (.cons .t .nil)))))) ?_ | refine B4 (Gh.nestF (id:=6) _ Z (S4 (x:=(X8 (m.cp.getD c default)).1) (.cons .s (.cons .s (.cons .s (.cons .t .nil)))))) ?_ | refine B4 (Gh.nestF (id:=6) _ Z (S4 (x:=⟨sv,(m.cp.getD c default).st,(m.cp.getD c default).qu⟩) (.cons .s (.cons .s (.cons .s (.cons .s .nil)))))) ?_ | skip
  refine zgo ?_
  refine e6 (m8 Z Z Z Z (b4 (d6 Z ?_) (b4 (d6 Z ?_) (b4 (d6 Z ?_) (b4 (C6 Z ?_) (b4 (l3 ?_) (b4 (l3 ?_) f6)))))))
  all_goals exact b61
 refine zcd (λh2=>?_) (λh2=>?_)
 ·have hS:=sm2 (m:=m) (sq:=sq) (sc:=sc) (sv:=sv) h2
  refine n9 ?_
  refine c1a (n:=63) Z Z Z Tryz.func176 Z a8 Z Z Z Z ?_
  apply Exists.intro
  apply Exists.intro
  apply And.intro
  ·intro b hen hpin
   refine n9 ?_
   refine b5 Z Z (N4 Z Z) ?_
   refine zgo ?_
   refine d9 [0,8,9] [0,1,2,3,4,7] (λ(i:Nat)=>[(10,.v (.int .i64 (i:Int)))]) (λ(i:Nat)=>[(5,some (.row 4 1 ((a8a m i).map j6))),(6,some (.nest 135 4 ((a1b m i).map (a1h 169 182)) []))]) (λ(i:Nat)=>i<=8) (λ(i:Nat)=>8 - i) 0 Z Z ?_ ?_ ?_ ?_
   ·exact Nat.zero_le _
   ·exact ⟨⟨_,Z,by rfl⟩,Z,trivial⟩
   ·exact ⟨⟨_,Z,by rfl⟩,Z,Z,⟨⟨_,Z,by rfl⟩,Z,Z,trivial⟩⟩
   intro i hi
   have hrl:=@a6j m i
   have hcl:=@J3 m i
   have htg:=λh=>hM.tg (i:=i) h
   refine vm4 ?_
   refine zcd (λh101=>?_) (λh101=>?_)
   ·obtain ⟨hta,htb,htc⟩:=htg J
    obtain ⟨hst,hIG⟩:=a6k hM (i:=i) (k:=tgM m i) J htb
    have htd:tgM m i < m.cp.length:=htb
    refine vm7 ?_
    first | refine b5 Z Z (d7 G Z Z Z Z (a1r J) Z) ?_ | refine b5 Z Z (d7 G Z Z Z Z (x7 J J) Z) ?_
    refine vm5 ?_
    refine d8 G 9 Z Z Z Z Z ?_
    refine zgd ?_
    refine zgo ?_
    refine j4 Z (r5 Z Z (N4 Z Z) ?_)
    refine zgo ?_
    refine j4 Z ?_
    first | refine r5 Z Z (q9 G Z Z Z Z Z J a3w) ?_ | refine r5 Z Z (q9 G Z Z Z Z Z J F8) ?_
    refine zgn ?_
    refine p6 (B4 (Gh.open (id:=6) (i:=(tgM m i)) (k:=1) 10 Z Z (c5h J) Z Z) ?_)
    refine n9 ?_
    refine b5 Z Z (N4 Z Z) ?_
    refine vm7 ?_
    refine c5L ?_
    refine zcd (λh102=>?_) (λh102=>?_)
    ·refine zgo ?_
     refine a1j ?_
     refine b5 Z Z (N4 Z Z) ?_
     refine zgo ?_
     refine a1j ?_
     first | refine b5 Z Z (b9 G Z Z Z Z Z J B1) ?_ | refine b5 Z Z (b9 G Z Z Z Z Z J J) ?_
     refine a1j ?_
     refine c5L ?_
     refine zcd (λh103=>?_) (λh103=>?_)
     ·rw [a8S (Nat.le_refl _)] at h103
      refine zgo ?_
      refine a1j ?_
      refine b5 Z Z (a6F Z Z) ?_
      refine a1j ?_
      refine b9x ?_
      refine a1j ?_
      refine b5 Z Z (a7A G Z Z Z Z Z (w8.2 ⟨_,(Y4 F8 Z),Z⟩) (.own (by first | exact List.Mem.head _ | simp) .nil)) ?_
      refine zcl (a0K ((a1b m i).getD (tgM m i) default).st _ (by have:=hIG.f.sn;omega)) ?_
      refine zcd (λh104=>?_) (λh104=>?_)
      ·rw [hst] at h104
       have hcn:=b80 (m:=m) (i:=i) h102 h103 h104
       refine n9 ?_
       refine b5 Z Z (N4 Z Z) ?_
       refine c7H ?_
       refine B4 (Gh.open (id:=6) (i:=(tgM m i)) (k:=2) 11 Z Z (Y4 F8 Z) Z Z) (B4 (Gh.open (id:=6) (i:=(tgM m i)) (k:=3) 12 Z Z (Y4 F8 Z) Z Z) (j7 10 [0,1,2,3,4,5,7,8,9,10,11] mixed a8 Z Z (λr0=>?_) (λ_ h=>h)))
       refine zsa 0 ?_
       refine zsa 1 ?_
       refine b0u ?_
       refine b7 (rs:=[2]) a8 Z (AllB.cons ?_ AllB.nil)
       refine f8 [0,1,2,3,4,5,7,8,9,10,11] Z Z (b5 Z Z (a6F Z Z) (b6 ⟨Z,?_⟩))
       refine b7 (rs:=[3]) a8 Z (AllB.cons ?_ AllB.nil)
       refine f8 [0,1,2,3,4,5,7,8,9,10,11] Z Z (b5 Z Z (L8 G Z Z Z Z (Y4 F8 Z) Z (.v (.own a6p (.own a6p (.own a6p .nil))))) (b6 ⟨Z,?_⟩))
       refine b7 (rs:=[7]) a8 Z (AllB.cons ?_ AllB.nil)
       refine f8 [0,1,2,3,4,5,7,8,9,10,11] Z Z (c8 15 Z Z Z (ArgsOK.of Z) (a8k ((a1b m i).getD (tgM m i) default) _ _ hIG.f J htc) Z Z (b6 ⟨Z,?_⟩))
       refine a3a (Gh.detach (id:=6) Z) (a3a (Gh.detach (id:=6) Z) (a3a (Gh.detach (id:=6) Z) (b7 (rs:=[8]) a8 Z (AllB.cons ?_ AllB.nil))))
       refine f8 [0,1,2,3,4,5,7,8,9,10,11] Z Z (b5 Z Z (a6F Z Z) (b6 ⟨Z,?_⟩))
       refine b7 (rs:=[9]) a8 Z (AllB.cons ?_ AllB.nil)
       refine f8 [0,1,2,3,4,5,7,8,9,10,11] Z Z (p5 G Z Z Z Z Z (Y4 F8 Z) Z Z (.v Z (.own Z (.own Z (.own Z .nil)))) Z Z Z (Nat.le_of_ble_eq_true Z) (λq h=>by cases h) Z (b6 ⟨Z,?_⟩))
       refine H4 ?_
       refine zgo ?_
       refine ⟨(i+1),?_,?_,⟨⟨_,Z,by rfl⟩,Z,trivial⟩,⟨⟨_,Z,by (first | (rw [a1d hcn];done) | (rw [a1f hcn];exact congrArg (λz=>Row.nest _ _ z []) (X7 J Z)) | (rw [a1c hcn,List.map_set];rfl) | (rw [a1e hcn];exact congrArg (λz=>Row.nest _ _ z []) a4s))⟩,Z,Z,⟨⟨_,Z,by (first | (rw [a1d hcn];done) | (rw [a1f hcn];exact congrArg (λz=>Row.nest _ _ z []) (X7 J Z)) | (rw [a1c hcn,List.map_set];rfl) | (rw [a1e hcn];exact congrArg (λz=>Row.nest _ _ z []) a4s))⟩,Z,Z,trivial⟩⟩,Z,Z,Z⟩
       ·omega
       omega
      rw [hst] at h104
      have hcn:=b83 (m:=m) (i:=i) h104
      refine c5Q ?_
      refine ⟨(i+1),?_,?_,⟨⟨_,Z,by rfl⟩,Z,trivial⟩,⟨⟨_,Z,by (first | (rw [a1d hcn];done) | (rw [a1f hcn];exact congrArg (λz=>Row.nest _ _ z []) (X7 J Z)) | (rw [a1c hcn,List.map_set];rfl) | (rw [a1e hcn];exact congrArg (λz=>Row.nest _ _ z []) a4s))⟩,Z,Z,⟨⟨_,Z,by (first | (rw [a1d hcn];done) | (rw [a1f hcn];exact congrArg (λz=>Row.nest _ _ z []) (X7 J Z)) | (rw [a1c hcn,List.map_set];rfl) | (rw [a1e hcn];exact congrArg (λz=>Row.nest _ _ z []) a4s))⟩,Z,Z,trivial⟩⟩,Z,Z,Z⟩
      ·omega
      omega
     rw [a8S (Nat.le_refl _)] at h103
     have hcn:=b82 (m:=m) (i:=i) h103
     refine zwf ?_
     refine c5Q ?_
     refine ⟨(i+1),?_,?_,⟨⟨_,Z,by rfl⟩,Z,trivial⟩,⟨⟨_,Z,by (first | (rw [a1d hcn];done) | (rw [a1f hcn];exact congrArg (λz=>Row.nest _ _ z []) (X7 J Z)) | (rw [a1c hcn,List.map_set];rfl) | (rw [a1e hcn];exact congrArg (λz=>Row.nest _ _ z []) a4s))⟩,Z,Z,⟨⟨_,Z,by (first | (rw [a1d hcn];done) | (rw [a1f hcn];exact congrArg (λz=>Row.nest _ _ z []) (X7 J Z)) | (rw [a1c hcn,List.map_set];rfl) | (rw [a1e hcn];exact congrArg (λz=>Row.nest _ _ z []) a4s))⟩,Z,Z,trivial⟩⟩,Z,Z,Z⟩
     ·omega
     omega
    have hcn:=b81 (m:=m) (i:=i) h102
    refine zwf ?_
    refine c5Q ?_
    refine ⟨(i+1),?_,?_,⟨⟨_,Z,by rfl⟩,Z,trivial⟩,⟨⟨_,Z,by (first | (rw [a1d hcn];done) | (rw [a1f hcn];exact congrArg (λz=>Row.nest _ _ z []) (X7 J Z)) | (rw [a1c hcn,List.map_set];rfl) | (rw [a1e hcn];exact congrArg (λz=>Row.nest _ _ z []) a4s))⟩,Z,Z,⟨⟨_,Z,by (first | (rw [a1d hcn];done) | (rw [a1f hcn];exact congrArg (λz=>Row.nest _ _ z []) (X7 J Z)) | (rw [a1c hcn,List.map_set];rfl) | (rw [a1e hcn];exact congrArg (λz=>Row.nest _ _ z []) a4s))⟩,Z,Z,trivial⟩⟩,Z,Z,Z⟩
    ·omega
    omega
   obtain rfl:i=8:=J
   exact Y1 ⟨.inl Z,Z,Z⟩
  refine ⟨Z,?_⟩
  refine zgn ?_
  refine p6 ?_
  first | refine B4 (Gh.nestF (id:=6) _ Z (S4 (x:=(R1 (m.cp.getD c default)).1) (.cons .s (.cons .s (.cons .s (.cons .t .nil)))))) ?_ | refine B4 (Gh.nestF (id:=6) _ Z (S4 (x:=(X8 (m.cp.getD c default)).1) (.cons .s (.cons .s (.cons .s (.cons .t .nil)))))) ?_ | refine B4 (Gh.nestF (id:=6) _ Z (S4 (x:=⟨sv,(m.cp.getD c default).st,(m.cp.getD c default).qu⟩) (.cons .s (.cons .s (.cons .s (.cons .s .nil)))))) ?_ | skip
  refine zgo ?_
  refine e6 (m8 Z Z Z Z (b4 (d6 Z ?_) (b4 (d6 Z ?_) (b4 (d6 Z ?_) (b4 (C6 Z ?_) (b4 (l3 ?_) (b4 (l3 ?_) f6)))))))
  all_goals exact b61
 refine zcd (λh3=>?_) (λh3=>?_)
 ·have hc:=b14 hv J
  obtain ⟨c,rfl⟩:∃c:Nat,sc=c:=⟨sc.toNat,by omega⟩
  obtain ⟨g1,g2,g3⟩:=hM.lens (k:=c) J
  have hIG:=hM.ok c J
  have hS:=c8B (m:=m) (sq:=sq) (sv:=sv) (c:=c) h3
  refine j7 19 [0,1,2,3,4,5,7] mixed a8 Z Z (λr0=>?_) (λ_ h=>h)
  refine a0C ?_
  refine b0u ?_
  refine zsa 7 ?_
  refine zsa 8 ?_
  refine zsa 9 ?_
  refine b7 (rs:=[10]) a8 Z (AllB.cons ?_ AllB.nil)
  refine f8 [0,1,2,3,4,5,7] Z Z (c8 11 Z Z Z (ArgsOK.of Z) (a90 (m.cp.getD c default) hIG.f) Z Z (b6 ⟨Z,?_⟩))
  refine zsa 11 ?_
  refine zsa 12 ?_
  refine zsa 13 ?_
  refine zsa 14 ?_
  refine b7 (rs:=[15]) a8 Z (AllB.cons ?_ AllB.nil)
  first | refine g8 [0,1,2,3,4,5,7] Z Z (b5 Z Z (q9 G Z Z Z Z Z J a3w) (b6 ⟨Z,?_⟩)) | refine g8 [0,1,2,3,4,5,7] Z Z (b5 Z Z (q9 G Z Z Z Z Z J F8) (b6 ⟨Z,?_⟩)) | refine g8 [0,1,2,3,4,5,7] Z Z (b5 Z Z (q9 G Z Z Z Z Z J J) (b6 ⟨Z,?_⟩))
  refine b7 (rs:=[16]) a8 Z (AllB.cons ?_ AllB.nil)
  first | refine g8 [0,1,2,3,4,5,7] Z Z (p5 G Z Z Z Z Z (x7 J J) Z Z (.v Z (.own Z (.own Z (.own Z .nil)))) Z Z Z (Nat.le_of_ble_eq_true Z) (λq h=>by cases h) Z (b6 ⟨Z,?_⟩)) | refine g8 [0,1,2,3,4,5,7] Z Z (p5 G Z Z Z Z Z (V9 J J) Z Z (.v Z (.own Z (.own Z (.own Z .nil)))) Z Z Z (Nat.le_of_ble_eq_true Z) (λq h=>by cases h) Z (b6 ⟨Z,?_⟩)) | refine g8 [0,1,2,3,4,5,7] Z Z (p5 G Z Z Z Z Z (Y4 F8 Z) Z Z (.v Z (.own Z (.own Z (.own Z .nil)))) Z Z Z (Nat.le_of_ble_eq_true Z) (λq h=>by cases h) Z (b6 ⟨Z,?_⟩))
  refine zsa 17 ?_
  refine zsa 18 ?_
  refine H4 ?_
  refine p6 ?_
  first | refine B4 (Gh.nestF (id:=6) _ Z (S4 (x:=(R1 (m.cp.getD c default)).1) (.cons .s (.cons .s (.cons .s (.cons .t .nil)))))) ?_ | refine B4 (Gh.nestF (id:=6) _ Z (S4 (x:=(X8 (m.cp.getD c default)).1) (.cons .s (.cons .s (.cons .s (.cons .t .nil)))))) ?_ | refine B4 (Gh.nestF (id:=6) _ Z (S4 (x:=⟨sv,(m.cp.getD c default).st,(m.cp.getD c default).qu⟩) (.cons .s (.cons .s (.cons .s (.cons .s .nil)))))) ?_ | skip
  refine zgo ?_
  refine e6 (m8 Z Z Z Z (b4 (d6 Z ?_) (b4 (d6 Z ?_) (b4 (d6 Z ?_) (b4 (C6 Z ?_) (b4 (l3 ?_) (b4 (l3 ?_) f6)))))))
  all_goals exact b61
 refine zcd (λh4=>?_) (λh4=>?_)
 ·have hc:=b14 hv J
  obtain ⟨c,rfl⟩:∃c:Nat,sc=c:=⟨sc.toNat,by omega⟩
  obtain ⟨g1,g2,g3⟩:=hM.lens (k:=c) J
  have hIG:=hM.ok c J
  have hS:=c8C (m:=m) (sq:=sq) (sv:=sv) (c:=c) h4
  refine j7 19 [0,1,2,3,4,5,7] mixed a8 Z Z (λr0=>?_) (λ_ h=>h)
  refine a0C ?_
  refine b0u ?_
  refine zsa 7 ?_
  refine zsa 8 ?_
  refine zsa 9 ?_
  refine b7 (rs:=[10]) a8 Z (AllB.cons ?_ AllB.nil)
  refine f8 [0,1,2,3,4,5,7] Z Z (c8 11 Z Z Z (ArgsOK.of Z) (a4j (m.cp.getD c default) hIG) Z Z (b6 ⟨Z,?_⟩))
  refine zsa 11 ?_
  refine zsa 12 ?_
  refine zsa 13 ?_
  refine zsa 14 ?_
  refine b7 (rs:=[15]) a8 Z (AllB.cons ?_ AllB.nil)
  first | refine g8 [0,1,2,3,4,5,7] Z Z (b5 Z Z (q9 G Z Z Z Z Z J a3w) (b6 ⟨Z,?_⟩)) | refine g8 [0,1,2,3,4,5,7] Z Z (b5 Z Z (q9 G Z Z Z Z Z J F8) (b6 ⟨Z,?_⟩)) | refine g8 [0,1,2,3,4,5,7] Z Z (b5 Z Z (q9 G Z Z Z Z Z J J) (b6 ⟨Z,?_⟩))
  refine b7 (rs:=[16]) a8 Z (AllB.cons ?_ AllB.nil)
  first | refine g8 [0,1,2,3,4,5,7] Z Z (p5 G Z Z Z Z Z (x7 J J) Z Z (.v Z (.own Z (.own Z (.own Z .nil)))) Z Z Z (Nat.le_of_ble_eq_true Z) (λq h=>by cases h) Z (b6 ⟨Z,?_⟩)) | refine g8 [0,1,2,3,4,5,7] Z Z (p5 G Z Z Z Z Z (V9 J J) Z Z (.v Z (.own Z (.own Z (.own Z .nil)))) Z Z Z (Nat.le_of_ble_eq_true Z) (λq h=>by cases h) Z (b6 ⟨Z,?_⟩)) | refine g8 [0,1,2,3,4,5,7] Z Z (p5 G Z Z Z Z Z (Y4 F8 Z) Z Z (.v Z (.own Z (.own Z (.own Z .nil)))) Z Z Z (Nat.le_of_ble_eq_true Z) (λq h=>by cases h) Z (b6 ⟨Z,?_⟩))
  refine zsa 17 ?_
  refine zsa 18 ?_
  refine H4 ?_
  refine p6 ?_
  first | refine B4 (Gh.nestF (id:=6) _ Z (S4 (x:=(R1 (m.cp.getD c default)).1) (.cons .s (.cons .s (.cons .s (.cons .t .nil)))))) ?_ | refine B4 (Gh.nestF (id:=6) _ Z (S4 (x:=(X8 (m.cp.getD c default)).1) (.cons .s (.cons .s (.cons .s (.cons .t .nil)))))) ?_ | refine B4 (Gh.nestF (id:=6) _ Z (S4 (x:=⟨sv,(m.cp.getD c default).st,(m.cp.getD c default).qu⟩) (.cons .s (.cons .s (.cons .s (.cons .s .nil)))))) ?_ | skip
  refine zgo ?_
  refine e6 (m8 Z Z Z Z (b4 (d6 Z ?_) (b4 (d6 Z ?_) (b4 (d6 Z ?_) (b4 (C6 Z ?_) (b4 (l3 ?_) (b4 (l3 ?_) f6)))))))
  all_goals exact b61
 refine zcd (λh5=>?_) (λh5=>?_)
 ·have hc:=b14 hv J
  obtain ⟨c,rfl⟩:∃c:Nat,sc=c:=⟨sc.toNat,by omega⟩
  obtain ⟨g1,g2,g3⟩:=hM.lens (k:=c) J
  have hIG:=hM.ok c J
  have hS:=sm5 (m:=m) (sq:=sq) (sv:=sv) (c:=c) h5
  refine c1l ?_
  refine b9x ?_
  refine vm5 ?_
  first | refine p5 G Z Z Z Z Z (x7 J J) Z Z (.v Z .nil) Z Z Z (Nat.le_of_ble_eq_true Z) (λq h=>by cases h) Z ?_ | refine p5 G Z Z Z Z Z (V9 J J) Z Z (.v Z .nil) Z Z Z (Nat.le_of_ble_eq_true Z) (λq h=>by cases h) Z ?_ | refine p5 G Z Z Z Z Z (Y4 F8 Z) Z Z (.v Z .nil) Z Z Z (Nat.le_of_ble_eq_true Z) (λq h=>by cases h) Z ?_
  refine zgn ?_
  refine p6 ?_
  first | refine B4 (Gh.nestF (id:=6) _ Z (S4 (x:=(R1 (m.cp.getD c default)).1) (.cons .s (.cons .s (.cons .s (.cons .t .nil)))))) ?_ | refine B4 (Gh.nestF (id:=6) _ Z (S4 (x:=(X8 (m.cp.getD c default)).1) (.cons .s (.cons .s (.cons .s (.cons .t .nil)))))) ?_ | refine B4 (Gh.nestF (id:=6) _ Z (S4 (x:=⟨sv,(m.cp.getD c default).st,(m.cp.getD c default).qu⟩) (.cons .s (.cons .s (.cons .s (.cons .s .nil)))))) ?_ | skip
  refine zgo ?_
  refine e6 (m8 Z Z Z Z (b4 (d6 Z ?_) (b4 (d6 Z ?_) (b4 (d6 Z ?_) (b4 (C6 Z ?_) (b4 (l3 ?_) (b4 (l3 ?_) f6)))))))
  all_goals exact b61
 refine zcd (λh6=>?_) (λh6=>?_)
 ·have hq:=c0u hv J
  obtain ⟨q,rfl⟩:∃q:Nat,sq=q:=⟨sq.toNat,by omega⟩
  have hS:=sm6 (m:=m) (sk:=sk) (sc:=sc) (sv:=sv) (q:=q) h6
  refine c1m ?_
  refine zgn ?_
  refine p6 ?_
  first | refine B4 (Gh.nestF (id:=6) _ Z (S4 (x:=(R1 (m.cp.getD c default)).1) (.cons .s (.cons .s (.cons .s (.cons .t .nil)))))) ?_ | refine B4 (Gh.nestF (id:=6) _ Z (S4 (x:=(X8 (m.cp.getD c default)).1) (.cons .s (.cons .s (.cons .s (.cons .t .nil)))))) ?_ | refine B4 (Gh.nestF (id:=6) _ Z (S4 (x:=⟨sv,(m.cp.getD c default).st,(m.cp.getD c default).qu⟩) (.cons .s (.cons .s (.cons .s (.cons .s .nil)))))) ?_ | skip
  refine zgo ?_
  refine e6 (m8 Z Z Z Z (b4 (d6 Z ?_) (b4 (d6 Z ?_) (b4 (d6 Z ?_) (b4 (C6 Z ?_) (b4 (l3 ?_) (b4 (l3 ?_) f6)))))))
  all_goals exact b61
 exact absurd (c6F hv) J
theorem b0g (m:Mach) (hM:MaG m):Ctr Tryz.prog 195 [.agg [.lst 2 (m.rs.map l7),.lst 1 (m.en.map j6),.lst 1 (m.ra.map j6),.nst none 4 (m.cp.map (l6 169 182))]] (.shp true [some 4] [.fr 83 2 ((b4Q m).rs.map l7),.fr 4 1 ((b4Q m).en.map j6),.fr 4 1 ((b4Q m).ra.map j6),.ne 135 4 ((b4Q m).cp.map (l6 169 182))]):=by
 have f1:=hM.n
 have f2:=hM.en
 have f3:=hM.ra
 have f4:=hM.rn
 refine Ctr.of (n:=63) G Tryz.func195 Z a8 Z Z Z (λw0=>?_)
 refine j5 0 Z (λ_=>Z) (λu0=>?_)
 refine N0 ?_
 refine n9 ?_
 refine c8 6 Z Z Z (ArgsOK.of Z) (a1m m hM) Z Z ?_
 refine vm5 ?_
 refine d8 G 7 Z Z Z Z Z ?_
 refine zgo ?_
 refine d9 [1,2,3] [0,1,2,3,6] (λ(i:Nat)=>[(4,.v (.int .i64 (i:Int)))]) (λ(i:Nat)=>[(4,some (.row 4 1 ((a8a m i).map j6))),(5,some (.nest 135 4 ((a1b m i).map (l6 169 182)) []))]) (λ(i:Nat)=>i<=8) (λ(i:Nat)=>8 - i) 0 Z Z ?_ ?_ ?_ ?_
 ·exact C7
 ·exact a8c
 ·exact b7e
 intro i hi
 have hrl:=@a6j m i
 have hcl:=@J3 m i
 have htg:=λh=>hM.tg (i:=i) h
 refine vm4 ?_
 refine zcd (λh1=>?_) (λh1=>?_)
 ·obtain ⟨hta,htb,htc⟩:=htg J
  obtain ⟨hst,hIG⟩:=a6k hM (i:=i) (k:=tgM m i) J htb
  have htd:tgM m i < m.cp.length:=htb
  refine zcd (λh2=>?_) (λh2=>?_)
  ·refine zcd (λh3=>?_) (λh3=>?_)
   ·refine zgo ?_
    refine a1j ?_
    refine b2F ?_
    refine a1j ?_
    refine b66 ?_
    refine zcl (a2A (m.cp.getD (tgM m i) default).st _ (by have:=(hM.ok _ htd).f.sn;omega)) ?_
    refine zcd (λh4=>?_) (λh4=>?_)
    ·have hcn:=b80 (m:=m) (i:=i) h2 h3 h4
     refine c7H ?_
     refine B4 (Gh.open (id:=5) (i:=(tgM m i)) (k:=1) 8 Z Z (c5h J) Z Z) (B4 (Gh.open (id:=5) (i:=(tgM m i)) (k:=2) 9 Z Z (Y4 F8 Z) Z Z) (B4 (Gh.open (id:=5) (i:=(tgM m i)) (k:=3) 10 Z Z (Y4 F8 Z) Z Z) (j7 18 [0,1,2,3,4,6,7,8,9] mixed a8 Z Z (λr0=>?_) (λ_ h=>h))))
     refine a0C ?_
     refine zsa 4 ?_
     refine zsa 5 ?_
     refine zsa 8 ?_
     refine zsa 9 ?_
     refine zsa 10 ?_
     refine zsa 11 ?_
     refine zsa 12 ?_
     refine zsa 13 ?_
     refine zsa 14 ?_
     refine b7 (rs:=[6]) a8 Z (AllB.cons ?_ AllB.nil)
     first | refine g8 [0,1,2,3,4,6,7,8,9] Z Z (b5 Z Z (q9 G Z Z Z Z Z J a3w) (b6 ⟨Z,?_⟩)) | refine g8 [0,1,2,3,4,6,7,8,9] Z Z (b5 Z Z (q9 G Z Z Z Z Z J F8) (b6 ⟨Z,?_⟩))
     refine b7 (rs:=[7]) a8 Z (AllB.cons ?_ AllB.nil)
     refine f8 [0,1,2,3,4,6,7,8,9] Z Z (b5 Z Z (L8 G Z Z Z Z (Y4 F8 Z) Z (.v (.own a6p (.own a6p (.own a6p .nil))))) (b6 ⟨Z,?_⟩))
     refine b7 (rs:=[15]) a8 Z (AllB.cons ?_ AllB.nil)
     refine f8 [0,1,2,3,4,6,7,8,9] Z Z (c8 13 Z Z Z (ArgsOK.of Z) (a8l ((a1b m i).getD (tgM m i) default) _ _ hIG.f J htc) Z Z (b6 ⟨Z,?_⟩))
     refine a3a (Gh.detach (id:=5) Z) (a3a (Gh.detach (id:=5) Z) (a3a (Gh.detach (id:=5) Z) (b7 (rs:=[16]) a8 Z (AllB.cons ?_ AllB.nil))))
     first | refine g8 [0,1,2,3,4,6,7,8,9] Z Z (b5 Z Z (q9 G Z Z Z Z Z J a3w) (b6 ⟨Z,?_⟩)) | refine g8 [0,1,2,3,4,6,7,8,9] Z Z (b5 Z Z (q9 G Z Z Z Z Z J F8) (b6 ⟨Z,?_⟩))
     refine b7 (rs:=[17]) a8 Z (AllB.cons ?_ AllB.nil)
     refine f8 [0,1,2,3,4,6,7,8,9] Z Z (p5 G Z Z Z Z Z (Y4 F8 Z) Z Z (.v Z (.own Z (.own Z (.own Z .nil)))) Z Z Z (Nat.le_of_ble_eq_true Z) (λq h=>by cases h) Z (b6 ⟨Z,?_⟩))
     refine H4 ?_
     exact c1v
    have hcn:=b83 (m:=m) (i:=i) h4
    exact c1v
   have hcn:=b82 (m:=m) (i:=i) h3
   refine zwf ?_
   exact c1v
  have hcn:=b81 (m:=m) (i:=i) h2
  refine zwf ?_
  exact c1v
 obtain rfl:i=8:=J
 refine zgo ?_
 refine e6 (m8 Z Z Z Z (b4 (d6 Z ?_) (b4 (d6 Z ?_) (b4 (d6 Z ?_) (b4 (C6 Z ?_) f6)))))
 all_goals (rfl)
end Go.Proofs.YtpfhomblkgmkkaaGreatDoor
