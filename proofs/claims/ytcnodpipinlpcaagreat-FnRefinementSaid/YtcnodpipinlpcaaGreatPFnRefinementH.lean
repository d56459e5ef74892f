/- Texts merged into one: D8, D9, W8, W9, W10. -/
import Derived.Test.YtcnodpipinlpcaaGreatPFnRefinementG
set_option maxHeartbeats 4000000
set_option linter.unusedSimpArgs false
set_option linter.unusedVariables false
set_option maxRecDepth 20000
namespace Go.Proofs.YtcnodpipinlpcaaGreat
open Go Go.Rf
theorem a2D {x:Cur} {n:Int} (h:okC n x) (hn:n<=860000000000):CtrX (α:=(List Route×Abs)×Cur) Tryz.prog 50 [.ptr 0 0] [.box [.lst 1 (x.c.map B9),.v (.int .i64 x.a),.v (.int .u64 x.s)]] (λy=>(y.1.1.length=8/\DrA y.1.2)/\okC (n+3000) y.2) (λy=>.shp false [none,some 5] [.fr 118 2 (y.1.1.map n6),.fr 4 1 (y.1.2.en.map e7),.fr 4 1 (y.1.2.ra.map e7),.fr 4 1 (y.1.2.po.map e7),.fr 3 1 (y.1.2.ma.map Rf.l8),.ne 26 1 (y.1.2.st.map p8)]) (λy=>[some (.box [.lst 1 (y.2.c.map B9),.v (.int .i64 y.2.a),.v (.int .u64 y.2.s)])]):=by
 refine CtrX.of (n:=50) (k:=1) G Tryz.func50 Z a6 Z Z Z Z (λ_=>Z) Z Z (λw0 _ hpin=>?_)
 refine zgo ?_
 refine vm7 ?_
 refine zgo ?_
 refine b5 Z (c9 6 [0] Z Z Z (L8 h J) Z (RowsIn.cons Z RowsIn.nil) Z (λ_=>Z) Z (λx1 ⟨hv1,hc1⟩=>?_))
 refine vm4 ?_
 refine b1h ?_
 refine m3 ?_
 refine b1g ?_
 refine zcl (a0C x1.1 hv1.small) ?_
 refine zcd (λh1=>?_) (λh1=>?_)
 ·have hM:=maF h1
  have hF:=a52 hM.g
  have hn1:(abOf x1.1).ma.length=x1.1.cp.length:=List.length_map _
  have hn2:=hM.n
  have hn3:=hF.st
  have hn4:=hF.po
  have hS:=hF.dr
  have hl0:=hS.len 0 J
  have hr8:=hv1.rs
  refine m3 ?_
  refine c4 13 Z Z Z (ArgsOK.of Z) (a2n x1.1 hM hv1.small) Z Z ?_
  refine zcd (λh2=>?_) (λh2=>?_)
  ·refine zgo ?_
   refine b5 Z (c9 13 [0] Z Z Z (p6 hc1 J (24)) Z (RowsIn.cons Z RowsIn.nil) Z (λ_=>Z) Z (λx2 ⟨hv2,hc2⟩=>?_))
   refine zcd (λh3=>?_) (λh3=>?_)
   ·refine d7 7 [1,2,3,4,5,6,7,8,9,10,12] mixed a6 Z Z (λr0=>?_) (λ_ h=>h)
    refine a32 ?_
    refine b6 (rs:=[3]) a6 Z (AllB.cons ?_ AllB.nil)
    refine c8 [1,2,3,4,5,6,7,8,9,10,12] Z Z (p4 G 14 Z Z Z Z Z Z Z Z (a8 ⟨Z,?_⟩))
    refine b6 (rs:=[4]) a6 Z (AllB.cons ?_ AllB.nil)
    refine c8 [1,2,3,4,5,6,7,8,9,10,12] Z Z (c9 14 [0,13] Z Z Z (F0 hc2 J [-1,16,17] (-1) (17) (by decide) (by decide)) Z (RowsIn.cons Z (RowsIn.cons Z RowsIn.nil)) Z (λ_=>Z) Z (λx3 ⟨hv3,hc3⟩=>a8 ⟨Z,?_⟩))
    refine b6 (rs:=[5]) a6 Z (AllB.cons ?_ AllB.nil)
    refine c8 [1,2,3,4,5,6,7,8,9,10,12] Z Z (b7 Z Z (c6 G Z Z Z Z Z J O4) (a8 ⟨Z,?_⟩))
    refine b6 (rs:=[6]) a6 Z (AllB.cons ?_ AllB.nil)
    first | refine c7 [1,2,3,4,5,6,7,8,9,10,12] Z Z (d6 G Z Z Z Z Z (w9 J J) Z Z Z Z Z (Nat.le_of_ble_eq_true Z) Z (a8 ⟨Z,?_⟩)) | refine c7 [1,2,3,4,5,6,7,8,9,10,12] Z Z (d6 G Z Z Z Z Z (C7 J J) Z Z Z Z Z (Nat.le_of_ble_eq_true Z) Z (a8 ⟨Z,?_⟩))
    refine vm6 ?_
    refine p7 (d7 5 [0,2,3,4,5,6,7,8,9,10,11,12,13] mixed a6 Z Z (λr0=>?_) (λ_ h=>h))
    refine C5 ?_
    refine b6 (rs:=[4]) a6 Z (AllB.cons ?_ AllB.nil)
    refine c8 [0,2,3,4,5,6,7,8,9,10,11,12,13] Z Z ?_
    refine F6 ?_
    refine vm6 ?_
    refine g8 (B6 (((x1.1.rs,⟨(abOf x1.1).en,(abOf x1.1).ra,(abOf x1.1).po,(abOf x1.1).ma.set 0 x3.1,(abOf x1.1).st⟩),x3.2)) (p9 Z Z Z Z (a7 (b8 Z ?_) (a7 (b8 Z ?_) (a7 (b8 Z ?_) (a7 (b8 Z ?_) (a7 (b8 Z ?_) (a7 (t8 Z ?_) d5)))))) Z (AftOK.stays Z ?_ Z AftOK.nil)) (⟨?_,?_⟩))
    all_goals (first | rfl | exact hc3.mono J | (dsimp only;rw [List.map_set];rfl) | exact ⟨hr8,hS.setM⟩ | exact ⟨hr8,hS.setPo⟩ | exact ⟨hr8,hS⟩ | exact ⟨hr8,a4s⟩ | exact ⟨hr8,hF.addS J⟩ | exact List.map_set.symm | exact a2Y Z a0u)
   refine zcd (λh4=>?_) (λh4=>?_)
   ·refine A7 (Gh.open (id:=12) (i:=0) (k:=0) 14 Z Z (b0L J) Z Z) (d7 12 [1,2,3,4,5,6,7,8,9,10,11] mixed a6 Z Z (λr0=>?_) (λ_ h=>h))
    refine C5 ?_
    refine zsa 6 ?_
    refine b6 (rs:=[4,7]) a6 Z (AllB.cons ?_ (AllB.cons ?_ AllB.nil))
    ·first | refine c7 [1,2,3,4,5,6,7,8,9,10,11] Z Z (b7 Z Z (d8 G Z Z Z Z Z J J) (a8 ⟨Z,?_⟩)) | refine c7 [1,2,3,4,5,6,7,8,9,10,11] Z Z (b7 Z Z (d8 G Z Z Z Z Z J g0) (a8 ⟨Z,?_⟩))
     refine b6 (rs:=[5,7]) a6 Z (AllB.cons ?_ (AllB.cons ?_ AllB.nil))
     ·refine c8 [1,2,3,4,5,6,7,8,9,10,11] Z Z (b7 Z Z (z7 G Z Z Z Z Z (s2.2 ⟨_,(C9 g0 Z),Z⟩) (.own a30 .nil)) (a8 ⟨Z,?_⟩))
      refine b6 (rs:=[7]) a6 Z (AllB.cons ?_ AllB.nil)
      refine c8 [1,2,3,4,5,6,7,8,9,10,11] Z Z (c9 14 [0] Z Z Z (p6 hc2 J (9)) Z (RowsIn.cons Z RowsIn.nil) Z (λ_=>Z) Z (λx4 ⟨hv4,hc4⟩=>a8 ⟨Z,?_⟩))
      refine b6 (rs:=[8]) a6 Z (AllB.cons ?_ AllB.nil)
      refine c8 [1,2,3,4,5,6,7,8,9,10,11] Z Z (p4 G 15 Z Z Z Z Z Z Z Z (a8 ⟨Z,?_⟩))
      refine b6 (rs:=[9]) a6 Z (AllB.cons ?_ AllB.nil)
      refine c7 [1,2,3,4,5,6,7,8,9,10,11] Z Z (v6 (Gh.detach (id:=12) Z)<|v6 (Gh.keep [0,1,2,3,4,5,6,7,8,9,10,11,12,13,14] Z)<|J2 (tx:=34) 16 rfl rfl rfl rfl rfl<|i6 G G5 rfl rfl rfl rfl rfl rfl rfl rfl rfl C0 rfl rfl (a8 ⟨Z,?_⟩))
      refine b6 (rs:=[10]) a6 Z (AllB.cons ?_ AllB.nil)
      first | refine c7 [1,2,3,4,5,6,7,8,9,10,11] Z Z (b7 Z Z (d8 G Z Z Z Z Z J J) (a8 ⟨Z,?_⟩)) | refine c7 [1,2,3,4,5,6,7,8,9,10,11] Z Z (b7 Z Z (d8 G Z Z Z Z Z J g0) (a8 ⟨Z,?_⟩))
      refine b6 (rs:=[11]) a6 Z (AllB.cons ?_ AllB.nil)
      first | refine c7 [1,2,3,4,5,6,7,8,9,10,11] Z Z (j6 G Z Z Z Z Z (C9 g0 Z) Z Z (.own Z .nil) Z Z Z (Nat.le_of_ble_eq_true Z) (λq h=>by cases h) Z (a8 ⟨Z,?_⟩)) | refine c7 [1,2,3,4,5,6,7,8,9,10,11] Z Z (j6 G Z Z Z Z Z (C9 g0 (by simp)) Z Z (.own Z .nil) Z Z Z (Nat.le_of_ble_eq_true Z) (λq h=>by cases h) Z (a8 ⟨Z,?_⟩))
      refine vm6 ?_
      refine p7 (d7 5 [0,2,3,4,5,6,7,8,9,10,11,12,14] mixed a6 Z Z (λr0=>?_) (λ_ h=>h))
      refine C5 ?_
      refine b6 (rs:=[4]) a6 Z (AllB.cons ?_ AllB.nil)
      refine b6u ?_
      refine g8 (B6 (((x1.1.rs,⟨(abOf x1.1).en,(abOf x1.1).ra,(abOf x1.1).po,(abOf x1.1).ma,(abOf x1.1).st.set 0 ((abOf x1.1).st.getD 0 default++[x4.1])⟩),x4.2)) (p9 Z Z Z Z (a7 (b8 Z ?_) (a7 (b8 Z ?_) (a7 (b8 Z ?_) (a7 (b8 Z ?_) (a7 (b8 Z ?_) (a7 (t8 Z ?_) d5)))))) Z (AftOK.stays Z ?_ Z AftOK.nil)) (⟨?_,?_⟩))
      all_goals (first | rfl | exact hc4.mono J | (dsimp only;rw [List.map_set];rfl) | exact ⟨hr8,hS.setM⟩ | exact ⟨hr8,hS.setPo⟩ | exact ⟨hr8,hS⟩ | exact ⟨hr8,a4s⟩ | exact ⟨hr8,hF.addS J⟩ | exact List.map_set.symm | exact a2Y Z a0u)
     refine c8 [1,2,3,4,5,6,7,8,9,10,11] Z Z (c9 14 [0] Z Z Z (p6 hc2 J (9)) Z (RowsIn.cons Z RowsIn.nil) Z (λ_=>Z) Z (λx5 ⟨hv5,hc5⟩=>a8 ⟨Z,?_⟩))
     refine b6 (rs:=[5,8]) a6 Z (AllB.cons ?_ (AllB.cons ?_ AllB.nil))
     ·refine c8 [1,2,3,4,5,6,7,8,9,10,11] Z Z (b7 Z Z (z7 G Z Z Z Z Z (s2.2 ⟨_,(C9 g0 Z),Z⟩) (.own a30 .nil)) (a8 ⟨Z,?_⟩))
      refine b6 (rs:=[8]) a6 Z (AllB.cons ?_ AllB.nil)
      refine c8 [1,2,3,4,5,6,7,8,9,10,11] Z Z (p4 G 15 Z Z Z Z Z Z Z Z (a8 ⟨Z,?_⟩))
      exact c3M
     refine c8 [1,2,3,4,5,6,7,8,9,10,11] Z Z (p4 G 15 Z Z Z Z Z Z Z Z (a8 ⟨Z,?_⟩))
     refine b6 (rs:=[5]) a6 Z (AllB.cons ?_ AllB.nil)
     refine c8 [1,2,3,4,5,6,7,8,9,10,11] Z Z (b7 Z Z (z7 G Z Z Z Z Z (s2.2 ⟨_,(C9 g0 Z),Z⟩) (.own a30 .nil)) (a8 ⟨Z,?_⟩))
     exact c3M
    refine c8 [1,2,3,4,5,6,7,8,9,10,11] Z Z (c9 14 [0] Z Z Z (p6 hc2 J (9)) Z (RowsIn.cons Z RowsIn.nil) Z (λ_=>Z) Z (λx6 ⟨hv6,hc6⟩=>a8 ⟨Z,?_⟩))
    refine b6 (rs:=[4,8]) a6 Z (AllB.cons ?_ (AllB.cons ?_ AllB.nil))
    ·first | refine c7 [1,2,3,4,5,6,7,8,9,10,11] Z Z (b7 Z Z (d8 G Z Z Z Z Z J J) (a8 ⟨Z,?_⟩)) | refine c7 [1,2,3,4,5,6,7,8,9,10,11] Z Z (b7 Z Z (d8 G Z Z Z Z Z J g0) (a8 ⟨Z,?_⟩))
     refine b6 (rs:=[5,8]) a6 Z (AllB.cons ?_ (AllB.cons ?_ AllB.nil))
     ·refine c8 [1,2,3,4,5,6,7,8,9,10,11] Z Z (b7 Z Z (z7 G Z Z Z Z Z (s2.2 ⟨_,(C9 g0 Z),Z⟩) (.own a30 .nil)) (a8 ⟨Z,?_⟩))
      refine b6 (rs:=[8]) a6 Z (AllB.cons ?_ AllB.nil)
      refine c8 [1,2,3,4,5,6,7,8,9,10,11] Z Z (p4 G 15 Z Z Z Z Z Z Z Z (a8 ⟨Z,?_⟩))
      exact c3G
     refine c8 [1,2,3,4,5,6,7,8,9,10,11] Z Z (p4 G 15 Z Z Z Z Z Z Z Z (a8 ⟨Z,?_⟩))
     exact c0j
    refine c8 [1,2,3,4,5,6,7,8,9,10,11] Z Z (p4 G 15 Z Z Z Z Z Z Z Z (a8 ⟨Z,?_⟩))
    refine b6 (rs:=[4]) a6 Z (AllB.cons ?_ AllB.nil)
    first | refine c7 [1,2,3,4,5,6,7,8,9,10,11] Z Z (b7 Z Z (d8 G Z Z Z Z Z J J) (a8 ⟨Z,?_⟩)) | refine c7 [1,2,3,4,5,6,7,8,9,10,11] Z Z (b7 Z Z (d8 G Z Z Z Z Z J g0) (a8 ⟨Z,?_⟩))
    exact c0j
   refine zcd (λh5=>?_) (λh5=>?_)
   ·refine d7 6 [1,2,3,4,5,6,7,8,9,11,12] mixed a6 Z Z (λr0=>?_) (λ_ h=>h)
    refine a32 ?_
    refine b6 (rs:=[3]) a6 Z (AllB.cons ?_ AllB.nil)
    refine c8 [1,2,3,4,5,6,7,8,9,11,12] Z Z (c9 13 [0] Z Z Z (p6 hc2 J (8)) Z (RowsIn.cons Z RowsIn.nil) Z (λ_=>Z) Z (λx7 ⟨hv7,hc7⟩=>a8 ⟨Z,?_⟩))
    refine b6 (rs:=[4]) a6 Z (AllB.cons ?_ AllB.nil)
    refine c8 [1,2,3,4,5,6,7,8,9,11,12] Z Z (b7 Z Z (c6 G Z Z Z Z Z J O4) (a8 ⟨Z,?_⟩))
    refine b6 (rs:=[5]) a6 Z (AllB.cons ?_ AllB.nil)
    first | refine c7 [1,2,3,4,5,6,7,8,9,11,12] Z Z (d6 G Z Z Z Z Z (w9 J J) Z Z Z Z Z (Nat.le_of_ble_eq_true Z) Z (a8 ⟨Z,?_⟩)) | refine c7 [1,2,3,4,5,6,7,8,9,11,12] Z Z (d6 G Z Z Z Z Z (C7 J J) Z Z Z Z Z (Nat.le_of_ble_eq_true Z) Z (a8 ⟨Z,?_⟩))
    refine vm6 ?_
    refine p7 (d7 5 [0,2,3,4,5,6,7,8,9,10,11,12] mixed a6 Z Z (λr0=>?_) (λ_ h=>h))
    refine C5 ?_
    refine b6 (rs:=[4]) a6 Z (AllB.cons ?_ AllB.nil)
    refine c8 [0,2,3,4,5,6,7,8,9,10,11,12] Z Z ?_
    refine F6 ?_
    refine vm6 ?_
    refine g8 (B6 (((x1.1.rs,⟨(abOf x1.1).en,(abOf x1.1).ra,(abOf x1.1).po.set x7.1.toNat true,(abOf x1.1).ma,(abOf x1.1).st⟩),x7.2)) (p9 Z Z Z Z (a7 (b8 Z ?_) (a7 (b8 Z ?_) (a7 (b8 Z ?_) (a7 (b8 Z ?_) (a7 (b8 Z ?_) (a7 (t8 Z ?_) d5)))))) Z (AftOK.stays Z ?_ Z AftOK.nil)) (⟨?_,?_⟩))
    all_goals (first | rfl | exact hc7.mono J | (dsimp only;rw [List.map_set];rfl) | exact ⟨hr8,hS.setM⟩ | exact ⟨hr8,hS.setPo⟩ | exact ⟨hr8,hS⟩ | exact ⟨hr8,a4s⟩ | exact ⟨hr8,hF.addS J⟩ | exact List.map_set.symm | exact a2Y Z a0u)
   refine zgn ?_
   refine p7 (d7 5 [0,2,3,4,5,6,7,8,9,10,11,12] mixed a6 Z Z (λr0=>?_) (λ_ h=>h))
   refine C5 ?_
   refine b6 (rs:=[4]) a6 Z (AllB.cons ?_ AllB.nil)
   refine c8 [0,2,3,4,5,6,7,8,9,10,11,12] Z Z ?_
   refine F6 ?_
   refine vm6 ?_
   refine g8 (B6 (((x1.1.rs,abOf x1.1),x2.2)) (p9 Z Z Z Z (a7 (b8 Z ?_) (a7 (b8 Z ?_) (a7 (b8 Z ?_) (a7 (b8 Z ?_) (a7 (b8 Z ?_) (a7 (t8 Z ?_) d5)))))) Z (AftOK.stays Z ?_ Z AftOK.nil)) (⟨?_,?_⟩))
   all_goals (first | rfl | exact hc2.mono J | (dsimp only;rw [List.map_set];rfl) | exact ⟨hr8,hS.setM⟩ | exact ⟨hr8,hS.setPo⟩ | exact ⟨hr8,hS⟩ | exact ⟨hr8,a4s⟩ | exact ⟨hr8,hF.addS J⟩ | exact List.map_set.symm | exact a2Y Z a0u)
  exfalso;first | omega | (simp at h2;omega)
 have hr8:=hv1.rs
 refine zcd (λh6=>?_) (λh6=>?_)
 ·first | (simp at h6;done) | (exact absurd h6 (by decide)) | (revert h6;decide)
 refine zgn ?_
 refine p7 (d7 5 [0,2,3,4,5,6,7] mixed a6 Z Z (λr0=>?_) (λ_ h=>h))
 refine C5 ?_
 refine b6 (rs:=[4]) a6 Z (AllB.cons ?_ AllB.nil)
 refine c8 [0,2,3,4,5,6,7] Z Z ?_
 refine F6 ?_
 refine vm6 ?_
 refine g8 (B6 (((x1.1.rs,noA),x1.2)) (p9 Z Z Z Z (a7 (b8 Z ?_) (a7 (t7 ?_) (a7 (t7 ?_) (a7 (t7 ?_) (a7 (t7 ?_) (a7 (a3u ?_) d5)))))) Z (AftOK.stays Z ?_ Z AftOK.nil)) (⟨?_,?_⟩))
 all_goals (first | rfl | exact hc1.mono J | (dsimp only;rw [List.map_set];rfl) | exact ⟨hr8,hS.setM⟩ | exact ⟨hr8,hS.setPo⟩ | exact ⟨hr8,hS⟩ | exact ⟨hr8,a4s⟩ | exact ⟨hr8,hF.addS J⟩ | exact List.map_set.symm | exact a2Y Z a0u)
theorem S6 (rs:List Route) (a:Abs) (sk sq sc sv:Int) (hF:AbsF rs a) (hv:s4 a.ma.length ⟨sk,sq,sc,sv⟩=true):Ctr Tryz.prog 61 [.lst 2 (rs.map n6),.agg [.lst 1 (a.en.map e7),.lst 1 (a.ra.map e7),.lst 1 (a.po.map e7),.lst 1 (a.ma.map Rf.l8),.nst none 1 (a.st.map p8)],.v (.agg ⟨[.int .i64 sk,.int .i64 sq,.int .i64 sc,.int .i64 sv]⟩)] (.shp false [some 5,none,none] [.fr 4 1 ((n7 rs a ⟨sk,sq,sc,sv⟩).1.en.map e7),.fr 4 1 ((n7 rs a ⟨sk,sq,sc,sv⟩).1.ra.map e7),.fr 4 1 ((n7 rs a ⟨sk,sq,sc,sv⟩).1.po.map e7),.fr 3 1 ((n7 rs a ⟨sk,sq,sc,sv⟩).1.ma.map Rf.l8),.ne 26 1 ((n7 rs a ⟨sk,sq,sc,sv⟩).1.st.map p8),.v (.int .i64 (n7 rs a ⟨sk,sq,sc,sv⟩).2.1),.v (.bool (n7 rs a ⟨sk,sq,sc,sv⟩).2.2)]):=by
 have f0:=hF.n
 have f1:=hF.rn
 have f2:=hF.st
 have f3:=hF.en
 have f4:=hF.ra
 have f5:=hF.po
 have fm:=hF.rt
 have fs:=hF.small
 refine Ctr.of (n:=122) G Tryz.func61 Z a6 Z Z Z (λw0=>?_)
 refine j8 1 Z (λ_=>Z) (λu1=>?_)
 refine b6r ?_
 refine c4 8 Z Z Z (ArgsOK.of Z) (a34 a fs) Z Z ?_
 refine vm4 ?_
 refine b0a ?_
 refine zcd (λh1=>?_) (λh1=>?_)
 ·have hq:=a9E hv J
  obtain ⟨q,rfl⟩:∃q:Nat,sq=q:=⟨sq.toNat,by omega⟩
  have hM:=mk1 (rs:=rs) (a:=a) (sc:=sc) (sv:=sv) (q:=q) h1
  refine c11 ?_
  refine zgn ?_
  refine p7 (d7 11 [0,1,3,4,5,6,7,8] mixed a6 Z Z (λr0=>?_) (λ_ h=>h))
  refine C5 ?_
  refine a0v ?_
  refine zsa 7 ?_
  refine b6 (rs:=[8]) a6 Z (AllB.cons ?_ AllB.nil)
  refine c8 [0,1,3,4,5,6,7,8] Z Z ?_
  refine F6 ?_
  refine zsa 9 ?_
  refine zsa 10 ?_
  refine vm6 ?_
  exact b4k
 refine zcd (λh2=>?_) (λh2=>?_)
 ·have hM:=mk2 (rs:=rs) (a:=a) (sq:=sq) (sc:=sc) (sv:=sv) h2
  refine m3 ?_
  refine c4 14 Z Z Z (ArgsOK.of Z) (a8b rs a hF) Z Z ?_
  refine zgo ?_
  exact b4k
 refine zcd (λh3=>?_) (λh3=>?_)
 ·have hc:=a2A hv J
  obtain ⟨c,rfl⟩:∃c:Nat,sc=c:=⟨sc.toNat,by omega⟩
  have fl:=hF.len c J
  have fe:=hF.el c J
  have ftn:0 < (a.st.getD c default).length→(((a.st.getD c default).length:Int) - 1).toNat=(a.st.getD c default).length - 1:=λ_=>J
  have hnx:=@a47 rs a c
  refine zcl (a75 rs a c hF J) ?_
  refine zcd (λh4=>?_) (λh4=>?_)
  ·have hM:=c2E (rs:=rs) (a:=a) (sq:=sq) (sv:=sv) h3 h4
   refine zgo ?_
   exact b4k
  have hM:=mk3 (rs:=rs) (a:=a) (sq:=sq) (sv:=sv) (c:=c) h3 J
  refine c11 ?_
  refine E9 ?_
  refine A7 (Gh.open (id:=7) (i:=c) (k:=0) 10 Z Z (b0L J) Z Z) ?_
  apply v8 [6,9,10] [2,3,4,5,6,7,8] 12 15 [0,1,2,3,4,5,6,8] mixed a6 Z Z (λ_ h=>znk h)
  ·intro r0
   refine C5 ?_
   refine a0v ?_
   refine zsa 7 ?_
   refine zsa 10 ?_
   refine b6 (rs:=[8,11]) a6 Z (AllB.cons ?_ (AllB.cons ?_ AllB.nil))
   ·first | refine c7 [0,1,2,3,4,5,6,8] Z Z (b7 Z Z (d8 G Z Z Z Z Z J J) (a8 ⟨Z,?_⟩)) | refine c7 [0,1,2,3,4,5,6,8] Z Z (b7 Z Z (d8 G Z Z Z Z Z J g0) (a8 ⟨Z,?_⟩))
    refine b6 (rs:=[9,11]) a6 Z (AllB.cons ?_ (AllB.cons ?_ AllB.nil))
    ·refine c8 [0,1,2,3,4,5,6,8] Z Z (b7 Z Z (z7 G Z Z Z Z Z (s2.2 ⟨_,(C9 g0 Z),Z⟩) (.own a30 .nil)) (a8 ⟨Z,?_⟩))
     refine b6 (rs:=[11]) a6 Z (AllB.cons ?_ AllB.nil)
     refine c8 [0,1,2,3,4,5,6,8] Z Z (p4 G 11 Z Z Z Z Z Z Z Z (a8 ⟨Z,?_⟩))
     exact c0b
    refine c8 [0,1,2,3,4,5,6,8] Z Z (p4 G 11 Z Z Z Z Z Z Z Z (a8 ⟨Z,?_⟩))
    exact c0E
   refine c8 [0,1,2,3,4,5,6,8] Z Z (p4 G 11 Z Z Z Z Z Z Z Z (a8 ⟨Z,?_⟩))
   refine b6 (rs:=[8]) a6 Z (AllB.cons ?_ AllB.nil)
   first | refine c7 [0,1,2,3,4,5,6,8] Z Z (b7 Z Z (d8 G Z Z Z Z Z J J) (a8 ⟨Z,?_⟩)) | refine c7 [0,1,2,3,4,5,6,8] Z Z (b7 Z Z (d8 G Z Z Z Z Z J g0) (a8 ⟨Z,?_⟩))
   exact c0E
  refine zgo ?_
  refine g8 (m5 Z Z Z Z (a7 (b8 Z ?_) (a7 (b8 Z ?_) (a7 (b8 Z ?_) (a7 (b8 Z ?_) (a7 (t8 Z ?_) (a7 (p5 ?_) (a7 (p5 ?_) d5))))))))
  all_goals exact b8H
 refine zcd (λh5=>?_) (λh5=>?_)
 ·have hc:=a2A hv J
  obtain ⟨c,rfl⟩:∃c:Nat,sc=c:=⟨sc.toNat,by omega⟩
  have fl:=hF.len c J
  have fe:=hF.el c J
  have ftn:0 < (a.st.getD c default).length→(((a.st.getD c default).length:Int) - 1).toNat=(a.st.getD c default).length - 1:=λ_=>J
  refine m3 ?_
  refine a4t ?_
  refine zcd (λh6=>?_) (λh6=>?_)
  ·have hM:=c2F (rs:=rs) (a:=a) (sq:=sq) (sv:=sv) (c:=c) h5 J
   refine zgo ?_
   exact b4k
  have hM:=mk4 (rs:=rs) (a:=a) (sq:=sq) (sv:=sv) (c:=c) h5 J
  refine zgn ?_
  refine p7 (d7 15 [0,1,2,3,4,5,6,8] mixed a6 Z Z (λr0=>?_) (λ_ h=>h))
  refine C5 ?_
  refine a0v ?_
  refine zsa 7 ?_
  refine zsa 10 ?_
  first | refine i9 11 Z a6 a6 Z Z Z Z (C3 Z Z Z Z J J) ?_ | refine i9 11 Z a6 a6 Z Z Z Z (J0 Z Z Z Z) ?_
  refine b6 (rs:=[8]) a6 Z (AllB.cons ?_ AllB.nil)
  first | refine c7 [0,1,2,3,4,5,6,8] Z Z (b7 Z Z (d8 G Z Z Z Z Z J J) (a8 ⟨Z,?_⟩)) | refine c7 [0,1,2,3,4,5,6,8] Z Z (b7 Z Z (d8 G Z Z Z Z Z J g0) (a8 ⟨Z,?_⟩))
  refine b6 (rs:=[9]) a6 Z (AllB.cons ?_ AllB.nil)
  refine c8 [0,1,2,3,4,5,6,8] Z Z (b2s G 10 Z Z Z Z Z Z Z Z (b0L J) Z Z (a8 ⟨Z,?_⟩))
  refine b6 (rs:=[12]) a6 Z (AllB.cons ?_ AllB.nil)
  refine c8 [0,1,2,3,4,5,6,8] Z Z (b7 Z Z (a1r G Z Z Z Z Z Z J a3Z a3Z) (a8 ⟨Z,?_⟩))
  refine b6 (rs:=[13]) a6 Z (AllB.cons ?_ AllB.nil)
  first | refine c7 [0,1,2,3,4,5,6,8] Z Z (b7 Z Z (d8 G Z Z Z Z Z J J) (a8 ⟨Z,?_⟩)) | refine c7 [0,1,2,3,4,5,6,8] Z Z (b7 Z Z (d8 G Z Z Z Z Z J g0) (a8 ⟨Z,?_⟩))
  refine b6 (rs:=[14]) a6 Z (AllB.cons ?_ AllB.nil)
  first | refine c7 [0,1,2,3,4,5,6,8] Z Z (v6 (Gh.shrink (t:=90) 11 Z Z Z)<|j6 G rfl rfl rfl rfl rfl (C9 g0 Z) rfl rfl (.own Z .nil) rfl rfl rfl (Nat.le_of_ble_eq_true Z) (λq h=>by cases h) rfl (a8 ⟨Z,?_⟩)) | refine c7 [0,1,2,3,4,5,6,8] Z Z (v6 (Gh.shrink (t:=90) 11 Z Z Z)<|j6 G rfl rfl rfl rfl rfl (C9 g0 (by simp)) rfl rfl (.own Z .nil) rfl rfl rfl (Nat.le_of_ble_eq_true Z) (λq h=>by cases h) rfl (a8 ⟨Z,?_⟩))
  refine vm6 ?_
  refine p7 (d7 14 [0,1,3,4,5,6,7,8] mixed a6 Z Z (λr0=>?_) (λ_ h=>h))
  refine C5 ?_
  refine Q4 ?_
  refine i9 6 Z a6 a6 Z Z Z Z (P9 G Z Z Z Z) ?_
  refine zsa 7 ?_
  first | refine i9 8 Z a6 a6 Z Z Z Z (C3 Z Z Z Z J J) ?_ | refine i9 8 Z a6 a6 Z Z Z Z (J0 Z Z Z Z) ?_
  refine zsa 9 ?_
  refine zsa 10 ?_
  refine b6 (rs:=[11]) a6 Z (AllB.cons ?_ AllB.nil)
  refine c8 [0,1,3,4,5,6,7,8] Z Z ?_
  refine F6 ?_
  refine zsa 12 ?_
  refine zsa 13 ?_
  refine vm6 ?_
  exact b4k
 refine zcd (λh7=>?_) (λh7=>?_)
 ·have hc:=a2A hv J
  obtain ⟨c,rfl⟩:∃c:Nat,sc=c:=⟨sc.toNat,by omega⟩
  have fl:=hF.len c J
  have fe:=hF.el c J
  have ftn:0 < (a.st.getD c default).length→(((a.st.getD c default).length:Int) - 1).toNat=(a.st.getD c default).length - 1:=λ_=>J
  have hM:=mk5 (rs:=rs) (a:=a) (sq:=sq) (sv:=sv) (c:=c) h7
  exact c0f
 have hk:=b4O hv
 have hq:=a9E hv J
 obtain ⟨q,rfl⟩:∃q:Nat,sq=q:=⟨sq.toNat,by omega⟩
 have hM:=mk6 (sk:=sk) (rs:=rs) (a:=a) (sc:=sc) (sv:=sv) (q:=q) J
 exact c0f
theorem N9 (rs:List Route) (a:Abs) (sk sq sc sv:Int) (hF:AbsF rs a) (hv:s4 a.ma.length ⟨sk,sq,sc,sv⟩=true) (ho:¬ noS rs a ⟨sk,sq,sc,sv⟩):Ctr Tryz.prog 57 [.lst 2 (rs.map n6),.agg [.lst 1 (a.en.map e7),.lst 1 (a.ra.map e7),.lst 1 (a.po.map e7),.lst 1 (a.ma.map Rf.l8),.nst none 1 (a.st.map p8)],.v (.agg ⟨[.int .i64 sk,.int .i64 sq,.int .i64 sc,.int .i64 sv]⟩)] (.shp false [some 5,none,none] [.fr 4 1 ((n7 rs a ⟨sk,sq,sc,sv⟩).1.en.map e7),.fr 4 1 ((n7 rs a ⟨sk,sq,sc,sv⟩).1.ra.map e7),.fr 4 1 ((n7 rs a ⟨sk,sq,sc,sv⟩).1.po.map e7),.fr 3 1 ((n7 rs a ⟨sk,sq,sc,sv⟩).1.ma.map Rf.l8),.ne 26 1 ((n7 rs a ⟨sk,sq,sc,sv⟩).1.st.map p8),.v (.int .i64 (n7 rs a ⟨sk,sq,sc,sv⟩).2.1),.v (.bool (n7 rs a ⟨sk,sq,sc,sv⟩).2.2)]):=by
 have f0:=hF.n
 have f1:=hF.rn
 have f2:=hF.st
 have f3:=hF.en
 have f4:=hF.ra
 have f5:=hF.po
 have fm:=hF.rt
 have fs:=hF.small
 refine Ctr.of (n:=159) G Tryz.func57 Z a6 Z Z Z (λw0=>?_)
 refine j8 1 Z (λ_=>Z) (λu1=>?_)
 refine I2 ?_
 refine vm1 ?_
 refine a3c ?_
 refine vm4 ?_
 refine g9 G 3 Z Z Z Z Z ?_
 refine zgn ?_
 refine I2 ?_
 refine zst ?_
 refine vm4 ?_
 refine c4 8 Z Z Z (ArgsOK.of Z) (P4 a fs) Z Z ?_
 refine vm4 ?_
 refine b0a ?_
 refine zgn ?_
 refine zgn ?_
 refine zgn ?_
 refine o7 Z (λh1=>?_) (λh1=>?_)
 ·try rw [h1]
  try simp only [rfb] at h1
  have hq:=a9E hv J
  obtain ⟨q,rfl⟩:∃q:Nat,sq=q:=⟨sq.toNat,by omega⟩
  have hM:=mk1 (rs:=rs) (a:=a) (sc:=sc) (sv:=sv) (q:=q) h1
  refine zgn ?_
  refine e9 ?_
  iterate 4 refine zst ?_
  exact c2b
 try rw [h1]
 try simp only [rfb] at h1
 refine zgn ?_
 refine o7 Z (λh2=>?_) (λh2=>?_)
 ·try rw [h2]
  try simp only [rfb] at h2
  have hM:=mk2 (rs:=rs) (a:=a) (sq:=sq) (sc:=sc) (sv:=sv) h2
  refine zgn ?_
  refine r7 (f6 [0,4,6,9,10,11,36,37] [0,2,3,6,7,8] (λ(i:Nat)=>[(38,.v (.int .i64 (i:Int)))]) (λ(i:Nat)=>[(4,some (.row 4 1 ((a1A rs a i).map e7))),(5,some (.row 4 1 ((a0S rs a i).map e7)))]) (λ(i:Nat)=>i<=8) (λ(i:Nat)=>8 - i) 0 Z Z ?_ ?_ ?_ ?_)
  ·exact H0
  ·exact u3
  ·exact b0c
  intro i hinv
  have e1:=@Q2 rs a i
  have e2:=@I7 rs a i
  have fq:=λh=>hF.rt i h
  refine vm2 ?_
  refine zgn ?_
  refine p7 (o7 Z (λh3=>?_) (λh3=>?_))
  ·try rw [h3]
   try simp only [rfb] at h3
   refine zgn ?_
   refine E9 ?_
   refine a9d ?_
   refine G9 ?_
   refine Q6 Z Z Z (λh4=>?_) (λh4=>?_)
   ·try rw [h4]
    try simp only [rfb] at h4
    iterate 7 refine zst ?_
    refine Q6 Z Z Z (λh5=>?_) (λh5=>?_)
    ·try rw [h5]
     try simp only [rfb] at h5
     iterate 8 refine zst ?_
     refine a2j ?_
     refine a8n ?_
     refine zst ?_
     refine a2j ?_
     refine r9 Z Z (l9 Z (ArgsOK.of Z) (N7 _ _ (Nat.le_trans (hF.len _ (by have:=hF.rt i J;omega)) (by decide))) Z) ?_
     refine zgn ?_
     refine o7 Z (λh6=>?_) (λh6=>?_)
     ·try rw [h6]
      try simp only [rfb] at h6
      refine d7 10 [0,2,3,6,7,8] mixed a6 Z Z (λr0=>?_) (λ_ h=>h)
      refine C5 ?_
      refine Q4 ?_
      refine b6 (rs:=[6]) a6 Z (AllB.cons ?_ AllB.nil)
      first | refine c7 [0,2,3,6,7,8] Z Z (b7 Z Z (c6 G Z Z Z Z Z J g0) (a8 ⟨Z,?_⟩)) | refine c7 [0,2,3,6,7,8] Z Z (b7 Z Z (c6 G Z Z Z Z Z J J) (a8 ⟨Z,?_⟩))
      refine b6 (rs:=[7]) a6 Z (AllB.cons ?_ AllB.nil)
      first | refine c7 [0,2,3,6,7,8] Z Z (d6 G Z Z Z Z Z (w9 J (by rw [Q2];omega)) Z Z Z Z Z (Nat.le_of_ble_eq_true Z) Z (a8 ⟨Z,?_⟩)) | refine c7 [0,2,3,6,7,8] Z Z (d6 G Z Z Z Z Z (w9 J (by rw [I7];omega)) Z Z Z Z Z (Nat.le_of_ble_eq_true Z) Z (a8 ⟨Z,?_⟩)) | refine c7 [0,2,3,6,7,8] Z Z (d6 G Z Z Z Z Z (w9 J J) Z Z Z Z Z (Nat.le_of_ble_eq_true Z) Z (a8 ⟨Z,?_⟩)) | refine c7 [0,2,3,6,7,8] Z Z (d6 G Z Z Z Z Z (w9 J g0) Z Z Z Z Z (Nat.le_of_ble_eq_true Z) Z (a8 ⟨Z,?_⟩))
      refine b6 (rs:=[8]) a6 Z (AllB.cons ?_ AllB.nil)
      first | refine c7 [0,2,3,6,7,8] Z Z (b7 Z Z (c6 G Z Z Z Z Z J g0) (a8 ⟨Z,?_⟩)) | refine c7 [0,2,3,6,7,8] Z Z (b7 Z Z (c6 G Z Z Z Z Z J J) (a8 ⟨Z,?_⟩))
      refine b6 (rs:=[9]) a6 Z (AllB.cons ?_ AllB.nil)
      first | refine c7 [0,2,3,6,7,8] Z Z (d6 G Z Z Z Z Z (w9 J (by rw [Q2];omega)) Z Z Z Z Z (Nat.le_of_ble_eq_true Z) Z (a8 ⟨Z,?_⟩)) | refine c7 [0,2,3,6,7,8] Z Z (d6 G Z Z Z Z Z (w9 J (by rw [I7];omega)) Z Z Z Z Z (Nat.le_of_ble_eq_true Z) Z (a8 ⟨Z,?_⟩)) | refine c7 [0,2,3,6,7,8] Z Z (d6 G Z Z Z Z Z (w9 J J) Z Z Z Z Z (Nat.le_of_ble_eq_true Z) Z (a8 ⟨Z,?_⟩)) | refine c7 [0,2,3,6,7,8] Z Z (d6 G Z Z Z Z Z (w9 J g0) Z Z Z Z Z (Nat.le_of_ble_eq_true Z) Z (a8 ⟨Z,?_⟩))
      refine vm6 ?_
      refine e9 ?_
      refine vm4 ?_
      exact ws5
     try rw [h6]
     try simp only [rfb] at h6
     exact b6N
    try rw [h5]
    try simp only [rfb] at h5
    refine zgn ?_
    refine C2 Z ?_
    exact b6N
   try rw [h4]
   try simp only [rfb] at h4
   refine zgn ?_
   refine C2 Z ?_
   exact b6N
  try rw [h3]
  try simp only [rfb] at h3
  refine zgn ?_
  refine zgn ?_
  refine g8 (m5 Z Z Z Z (a7 (b8 Z ?_) (a7 (b8 Z ?_) (a7 (b8 Z ?_) (a7 (b8 Z ?_) (a7 (t8 Z ?_) (a7 (p5 ?_) (a7 (p5 ?_) d5))))))))
  all_goals exact b6d
 try rw [h2]
 try simp only [rfb] at h2
 refine zgn ?_
 refine o7 Z (λh7=>?_) (λh7=>?_)
 ·try rw [h7]
  try simp only [rfb] at h7
  have hc:=a2A hv J
  obtain ⟨c,rfl⟩:∃c:Nat,sc=c:=⟨sc.toNat,by omega⟩
  have fl:=hF.len c J
  have fe:=hF.el c J
  have ftn:0 < (a.st.getD c default).length→(((a.st.getD c default).length:Int) - 1).toNat=(a.st.getD c default).length - 1:=λ_=>J
  have hnx:=@a47 rs a c
  refine b4f ?_
  refine b7 Z Z (l9 Z (ArgsOK.of Z) (a1O rs a c hF J) Z) ?_
  refine zgn ?_
  refine zgn ?_
  refine o7 Z (λh8=>?_) (λh8=>?_)
  ·try rw [h8]
   try simp only [rfb] at h8
   exact absurd (Or.inl ⟨h7,by show B1 rs a c < 0;omega⟩) ho
  try rw [h8]
  try simp only [rfb] at h8
  have hM:=mk3 (rs:=rs) (a:=a) (sq:=sq) (sv:=sv) (c:=c) h7 J
  refine E9 ?_
  refine X3 ?_
  refine c3j ?_
  refine A7 (Gh.open (id:=7) (i:=c) (k:=0) 10 Z Z (b0L J) Z Z) ?_
  apply v8 [6,9,10,11] [2,3,4,5,6,7,8] 12 15 [0,1,2,3,4,5,6,8] mixed a6 Z Z (λ_ h=>znk h)
  ·intro r0
   refine C5 ?_
   refine a0v ?_
   refine zsa 7 ?_
   refine zsa 10 ?_
   refine b6 (rs:=[8,11]) a6 Z (AllB.cons ?_ (AllB.cons ?_ AllB.nil))
   ·first | refine c7 [0,1,2,3,4,5,6,8] Z Z (b7 Z Z (d8 G Z Z Z Z Z J J) (a8 ⟨Z,?_⟩)) | refine c7 [0,1,2,3,4,5,6,8] Z Z (b7 Z Z (d8 G Z Z Z Z Z J g0) (a8 ⟨Z,?_⟩))
    refine b6 (rs:=[9,11]) a6 Z (AllB.cons ?_ (AllB.cons ?_ AllB.nil))
    ·refine c8 [0,1,2,3,4,5,6,8] Z Z (b7 Z Z (z7 G Z Z Z Z Z (s2.2 ⟨_,(C9 g0 Z),Z⟩) (.own a30 .nil)) (a8 ⟨Z,?_⟩))
     refine b6 (rs:=[11]) a6 Z (AllB.cons ?_ AllB.nil)
     refine c8 [0,1,2,3,4,5,6,8] Z Z (p4 G 11 Z Z Z Z Z Z Z Z (a8 ⟨Z,?_⟩))
     exact c0c
    refine c8 [0,1,2,3,4,5,6,8] Z Z (p4 G 11 Z Z Z Z Z Z Z Z (a8 ⟨Z,?_⟩))
    exact c0F
   refine c8 [0,1,2,3,4,5,6,8] Z Z (p4 G 11 Z Z Z Z Z Z Z Z (a8 ⟨Z,?_⟩))
   refine b6 (rs:=[8]) a6 Z (AllB.cons ?_ AllB.nil)
   first | refine c7 [0,1,2,3,4,5,6,8] Z Z (b7 Z Z (d8 G Z Z Z Z Z J J) (a8 ⟨Z,?_⟩)) | refine c7 [0,1,2,3,4,5,6,8] Z Z (b7 Z Z (d8 G Z Z Z Z Z J g0) (a8 ⟨Z,?_⟩))
   exact c0F
  refine zgn ?_
  refine g8 (m5 Z Z Z Z (a7 (b8 Z ?_) (a7 (b8 Z ?_) (a7 (b8 Z ?_) (a7 (b8 Z ?_) (a7 (t8 Z ?_) (a7 (p5 ?_) (a7 (p5 ?_) d5))))))))
  all_goals exact b6d
 try rw [h7]
 try simp only [rfb] at h7
 refine zgn ?_
 refine o7 Z (λh9=>?_) (λh9=>?_)
 ·try rw [h9]
  try simp only [rfb] at h9
  have hc:=a2A hv J
  obtain ⟨c,rfl⟩:∃c:Nat,sc=c:=⟨sc.toNat,by omega⟩
  have fl:=hF.len c J
  have fe:=hF.el c J
  have ftn:0 < (a.st.getD c default).length→(((a.st.getD c default).length:Int) - 1).toNat=(a.st.getD c default).length - 1:=λ_=>J
  refine I2 ?_
  refine a6O ?_
  refine vm4 ?_
  refine a4t ?_
  refine zst ?_
  refine vm4 ?_
  refine vm5 ?_
  refine zgn ?_
  refine zgn ?_
  refine o7 Z (λh10=>?_) (λh10=>?_)
  ·try rw [h10]
   try simp only [rfb] at h10
   exact absurd (Or.inr ⟨h9,by show (a.st.getD c default).length=0;omega⟩) ho
  try rw [h10]
  try simp only [rfb] at h10
  have hM:=mk4 (rs:=rs) (a:=a) (sq:=sq) (sv:=sv) (c:=c) h9 J
  refine zgn ?_
  refine I2 ?_
  refine a6O ?_
  refine vm4 ?_
  refine a4t ?_
  refine zgn ?_
  refine d7 14 [0,1,2,3,4,5,6,8] mixed a6 Z Z (λr0=>?_) (λ_ h=>h)
  refine C5 ?_
  refine a0v ?_
  refine zsa 7 ?_
  refine zsa 10 ?_
  refine b6 (rs:=[8]) a6 Z (AllB.cons ?_ AllB.nil)
  first | refine c7 [0,1,2,3,4,5,6,8] Z Z (b7 Z Z (d8 G Z Z Z Z Z J J) (a8 ⟨Z,?_⟩)) | refine c7 [0,1,2,3,4,5,6,8] Z Z (b7 Z Z (d8 G Z Z Z Z Z J g0) (a8 ⟨Z,?_⟩))
  refine b6 (rs:=[9]) a6 Z (AllB.cons ?_ AllB.nil)
  refine c8 [0,1,2,3,4,5,6,8] Z Z (b2s G 10 Z Z Z Z Z Z Z Z (b0L J) Z Z (a8 ⟨Z,?_⟩))
  refine b6 (rs:=[11]) a6 Z (AllB.cons ?_ AllB.nil)
  refine c8 [0,1,2,3,4,5,6,8] Z Z (b7 Z Z (a1r G Z Z Z Z Z Z J a3Z a3Z) (a8 ⟨Z,?_⟩))
  refine b6 (rs:=[12]) a6 Z (AllB.cons ?_ AllB.nil)
  first | refine c7 [0,1,2,3,4,5,6,8] Z Z (b7 Z Z (d8 G Z Z Z Z Z J J) (a8 ⟨Z,?_⟩)) | refine c7 [0,1,2,3,4,5,6,8] Z Z (b7 Z Z (d8 G Z Z Z Z Z J g0) (a8 ⟨Z,?_⟩))
  refine b6 (rs:=[13]) a6 Z (AllB.cons ?_ AllB.nil)
  first | refine c7 [0,1,2,3,4,5,6,8] Z Z (v6 (Gh.shrink (t:=135) 11 Z Z Z)<|j6 G rfl rfl rfl rfl rfl (C9 g0 Z) rfl rfl (.own Z .nil) rfl rfl rfl (Nat.le_of_ble_eq_true Z) (λq h=>by cases h) rfl (a8 ⟨Z,?_⟩)) | refine c7 [0,1,2,3,4,5,6,8] Z Z (v6 (Gh.shrink (t:=135) 11 Z Z Z)<|j6 G rfl rfl rfl rfl rfl (C9 g0 (by simp)) rfl rfl (.own Z .nil) rfl rfl rfl (Nat.le_of_ble_eq_true Z) (λq h=>by cases h) rfl (a8 ⟨Z,?_⟩))
  refine vm6 ?_
  exact b9p
 try rw [h9]
 try simp only [rfb] at h9
 refine zgn ?_
 refine o7 Z (λh11=>?_) (λh11=>?_)
 ·try rw [h11]
  try simp only [rfb] at h11
  have hc:=a2A hv J
  obtain ⟨c,rfl⟩:∃c:Nat,sc=c:=⟨sc.toNat,by omega⟩
  have fl:=hF.len c J
  have fe:=hF.el c J
  have ftn:0 < (a.st.getD c default).length→(((a.st.getD c default).length:Int) - 1).toNat=(a.st.getD c default).length - 1:=λ_=>J
  have hM:=mk5 (rs:=rs) (a:=a) (sq:=sq) (sv:=sv) (c:=c) h11
  refine e9 ?_
  refine a57 ?_
  exact c2b
 try rw [h11]
 try simp only [rfb] at h11
 refine zgn ?_
 refine o7 Z (λh12=>?_) (λh12=>?_)
 ·try rw [h12]
  try simp only [rfb] at h12
  have hq:=a9E hv J
  obtain ⟨q,rfl⟩:∃q:Nat,sq=q:=⟨sq.toNat,by omega⟩
  have hM:=mk6 (sk:=sk) (rs:=rs) (a:=a) (sc:=sc) (sv:=sv) (q:=q) h12
  refine e9 ?_
  iterate 7 refine zst ?_
  exact c2b
 try rw [h12]
 try simp only [rfb] at h12
 exact absurd (b4O hv) J
theorem H8 (rs:List Route) (a:Abs) (sk sq sc sv:Int) (hF:AbsF rs a) (hv:s4 a.ma.length ⟨sk,sq,sc,sv⟩=true) (ho:noS rs a ⟨sk,sq,sc,sv⟩):CtrE (α:=Nat→Option Addr×Nat×Nat) Tryz.prog 57 [.lst 2 (rs.map n6),.agg [.lst 1 (a.en.map e7),.lst 1 (a.ra.map e7),.lst 1 (a.po.map e7),.lst 1 (a.ma.map Rf.l8),.nst none 1 (a.st.map p8)],.v (.agg ⟨[.int .i64 sk,.int .i64 sq,.int .i64 sc,.int .i64 sv]⟩)] (λy=>(.shp false [some 5,none,none] [.v (.slice (y 0).1 (y 0).2.1 (y 0).2.2),.v (.slice (y 1).1 (y 1).2.1 (y 1).2.2),.v (.slice (y 2).1 (y 2).2.1 (y 2).2.2),.v (.slice (y 3).1 (y 3).2.1 (y 3).2.2),.v (.slice (y 4).1 (y 4).2.1 (y 4).2.2),.v (.int .i64 (-1)),.v (.bool false)])):=by
 have f0:=hF.n
 have f1:=hF.rn
 have f2:=hF.st
 have f3:=hF.en
 have f4:=hF.ra
 have f5:=hF.po
 have fm:=hF.rt
 have fs:=hF.small
 refine CtrE.of (n:=159) G Tryz.func57 Z a6 Z Z Z (λw0=>?_)
 refine c0Y 1 Z Z (λ_=>Z) (λu1=>?_)
 refine b6r ?_
 refine c4 8 Z Z Z (ArgsOK.of Z) (P4 a fs) Z Z ?_
 refine vm4 ?_
 refine b0a ?_
 refine zcd (λh1=>?_) (λh1=>?_)
 ·exact absurd (b4Q ho) J
 refine zcd (λh2=>?_) (λh2=>?_)
 ·exact absurd (b4Q ho) J
 refine zcd (λh3=>?_) (λh3=>?_)
 ·have hc:=a2A hv J
  obtain ⟨c,rfl⟩:∃c:Nat,sc=c:=⟨sc.toNat,by omega⟩
  have fl:=hF.len c J
  have fe:=hF.el c J
  have ftn:0 < (a.st.getD c default).length→(((a.st.getD c default).length:Int) - 1).toNat=(a.st.getD c default).length - 1:=λ_=>J
  have hnx:=@a47 rs a c
  refine zcl (a1O rs a c hF J) ?_
  refine zcd (λh4=>?_) (λh4=>?_)
  ·exact b9N
  exact absurd (c2G ho h3) J
 refine zcd (λh5=>?_) (λh5=>?_)
 ·have hc:=a2A hv J
  obtain ⟨c,rfl⟩:∃c:Nat,sc=c:=⟨sc.toNat,by omega⟩
  have fl:=hF.len c J
  have fe:=hF.el c J
  have ftn:0 < (a.st.getD c default).length→(((a.st.getD c default).length:Int) - 1).toNat=(a.st.getD c default).length - 1:=λ_=>J
  refine m3 ?_
  refine a4t ?_
  refine zcd (λh6=>?_) (λh6=>?_)
  ·exact b9N
  exact absurd (c2H ho h5) J
 exact absurd (b4Q ho) J
end Go.Proofs.YtcnodpipinlpcaaGreat
