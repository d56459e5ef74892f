/- Texts merged into one: M3, M4, M5. -/
import Derived.Test.YtdhckhjphmjniaaGreatDoorPFnConsoleB
set_option maxHeartbeats 4000000
set_option linter.unusedSimpArgs false
set_option linter.unusedVariables false
set_option maxRecDepth 20000
namespace Go.Proofs.YtdhckhjphmjniaaGreatDoor
open Go Go.Rf
theorem a9e (sl:List Slot) (wa:List Wtr) (hl:sl.length<=1048576) (hw:wa.length<=1048576):Ctr Tryz.prog 190 [.lst 3 (sl.map g8),.lst 2 (wa.map j6)] (.one (.v (.bool (a84 ⟨sl,wa⟩)))):=by
 refine Ctr.of (n:=58) G Tryz.func190 Z a8 Z Z Z (λw0=>?_)
 refine zcl (a9d _ a1A) ?_
 refine zcd (λh1=>?_) (λh1=>?_)
 ·exact ws9
 refine zgo ?_
 refine g9 [0,1,10,11] [] (λ(i:Nat)=>[(12,.v (.int .i64 (i:Int)))]) (λ(i:Nat)=>[]) (λ(i:Nat)=>i<=wa.length/\∀j,j < i→oneWa sl wa j=true) (λ(i:Nat)=>wa.length - i) 0 Z Z ?_ ?_ ?_ ?_
 ·exact S9
 ·exact B0
 ·exact trivial
 intro i hinv
 have ht:0 < i→((i:Int) - 1).toNat=i - 1:=λ_=>J
 refine vm2 ?_
 refine zcd (λh2=>?_) (λh2=>?_)
 ·refine a4Q ?_
  refine zgd ?_
  refine zcl (a07 _) ?_
  refine zcd (λh3=>?_) (λh3=>?_)
  ·refine zwt ?_
   exact ws9
  refine zcl (Y5 _) ?_
  refine zcd (λh4=>?_) (λh4=>?_)
  ·refine zwt ?_
   exact ws9
  refine zcl (H5 sl _ hl) ?_
  refine zcd (λh5=>?_) (λh5=>?_)
  ·refine zwt ?_
   exact ws9
  refine zgo ?_
  refine c62 ?_
  refine zgo ?_
  refine b1d ?_
  refine l2 Z Z (i7 Z (ArgsOK.of (congrArg some (congrArg (λz=>[AV.lst 2 z,.v (.int .i64 (wa.getD i default).q)]) (a2F (xs:=wa) (i:=i))))) (Ctr.eq (a1G (wa.take i) _ m8) (congrArg (λz=>Res.one (.v (.int .i64 z))) (b8X J))) Z) ?_
  refine zcd (λh6=>?_) (λh6=>?_)
  ·refine zwt ?_
   exact ws9
  refine zcd (λh7=>?_) (λh7=>?_)
  ·refine zcl (B8 _ _) ?_
   refine zcd (λh8=>?_) (λh8=>?_)
   ·exact ws9
   refine zgo ?_
   refine ⟨(i+1),?_,?_,⟨⟨_,Z,by rfl⟩,Z,trivial⟩,trivial,Z,Z,Z⟩
   ·exact c9M
   omega
  refine zwf ?_
  refine zgo ?_
  refine ⟨(i+1),?_,?_,⟨⟨_,Z,by rfl⟩,Z,trivial⟩,trivial,Z,Z,Z⟩
  ·exact c9M
  omega
 refine zf1 ?_
 all_goals exact c8N
theorem a8v (sl:List Slot) (wa:List Wtr) (hl:sl.length<=1048576) (hw:wa.length<=1048576):Ctr Tryz.prog 211 [.lst 3 (sl.map g8),.lst 2 (wa.map j6)] (.one (.v (.bool (a84 ⟨sl,wa⟩)))):=by
 refine Ctr.of (n:=81) G Tryz.func211 Z a8 Z Z Z (λw0=>?_)
 refine zgo ?_
 refine g9 [0,1] [] (λ(i:Nat)=>[(5,.v (.int .i64 (i:Int)))]) (λ(i:Nat)=>[]) (λ(i:Nat)=>i<=wa.length/\∀j,j < i→oneWa sl wa j=true) (λ(i:Nat)=>wa.length - i) 0 Z Z ?_ ?_ ?_ ?_
 ·exact S9
 ·exact B0
 ·exact trivial
 intro i hinv
 have ht:0 < i→((i:Int) - 1).toNat=i - 1:=λ_=>J
 refine vm2 ?_
 refine zcd (λh1=>?_) (λh1=>?_)
 ·refine zcd (λh2=>?_) (λh2=>?_)
  ·refine a4Q ?_
   refine zcl (a08 _) ?_
   refine zcd (λh3=>?_) (λh3=>?_)
   ·refine zwt ?_
    exact ws5
   refine zcl (a0u _) ?_
   refine zcd (λh4=>?_) (λh4=>?_)
   ·refine zwt ?_
    exact ws5
   refine zcl (F6 sl _ hl) ?_
   refine zcd (λh5=>?_) (λh5=>?_)
   ·exact ws5
   refine zgd ?_
   refine zcd (λh6=>?_) (λh6=>?_)
   ·refine zcl (T3 _ _ _ _) ?_
    refine zcd (λh7=>?_) (λh7=>?_)
    ·exact ws5
    refine zgo ?_
    refine g9 [0,1,5,6] [0] (λ(k:Nat)=>[(7,.v (.int .i64 (k:Int)))]) (λ(k:Nat)=>[]) (λ(k:Nat)=>k<=i/\∀j,j < k→(wa.getD j default).q≠(wa.getD i default).q) (λ(k:Nat)=>i - k) 0 Z Z ?_ ?_ ?_ ?_
    ·exact S9
    ·exact B0
    ·exact trivial
    intro k hk
    refine vm2 ?_
    refine zcd (λh8=>?_) (λh8=>?_)
    ·refine zgd ?_
     refine zcd (λh9=>?_) (λh9=>?_)
     ·exact ws5
     exact c4n
    refine zgo ?_
    refine ⟨(i+1),?_,?_,⟨⟨_,Z,by rfl⟩,Z,trivial⟩,trivial,Z,Z,Z⟩
    ·exact c4c
    omega
   refine zwf ?_
   refine zgo ?_
   refine g9 [0,1,5,6] [0] (λ(k:Nat)=>[(7,.v (.int .i64 (k:Int)))]) (λ(k:Nat)=>[]) (λ(k:Nat)=>k<=i/\∀j,j < k→(wa.getD j default).q≠(wa.getD i default).q) (λ(k:Nat)=>i - k) 0 Z Z ?_ ?_ ?_ ?_
   ·exact S9
   ·exact B0
   ·exact trivial
   intro k hk
   refine vm2 ?_
   refine zcd (λh10=>?_) (λh10=>?_)
   ·refine zgd ?_
    refine zcd (λh11=>?_) (λh11=>?_)
    ·exact ws5
    exact c4n
   refine zgo ?_
   refine ⟨(i+1),?_,?_,⟨⟨_,Z,by rfl⟩,Z,trivial⟩,trivial,Z,Z,Z⟩
   ·exact c4c
   omega
  refine zcl (a5U sl hl) ?_
  refine zcd (λh12=>?_) (λh12=>?_)
  ·exact ws5
  exact ws5
 refine zwf ?_
 refine zcl (a5U sl hl) ?_
 refine zcd (λh13=>?_) (λh13=>?_)
 ·exact ws5
 refine zf1 ?_
 all_goals exact c8L
theorem a29 (q:Que) (hl:q.sl.length<=1048576) (hw:q.wa.length<=1048576) (hd:b8P q.sl):Ctr Tryz.prog 191 [.agg [.lst 3 (q.sl.map g8),.lst 2 (q.wa.map j6)]] (.one (.v (.bool (setd q)))):=by
 have hbb:=@a04 q.sl false
 refine Ctr.of (n:=33) G Tryz.func191 Z a8 Z Z Z (λw0=>?_)
 refine m7 0 Z (λ_=>Z) (λu0=>?_)
 refine vm1 ?_
 refine zcd (λh1=>?_) (λh1=>?_)
 ·exact b4O
 refine zcl (U4 q.sl false hl hd) ?_
 refine zgd ?_
 refine zcl (a2c q.sl hl) ?_
 refine zcd (λh2=>?_) (λh2=>?_)
 ·refine zcd (λh3=>?_) (λh3=>?_)
  ·exact b4O
  refine zcl (E8 _) ?_
  refine zcl (B8 _ _) ?_
  exact b4O
 exact b4O
theorem a3a (q:Que) (hl:q.sl.length<=1048576) (hw:q.wa.length<=1048576):Ctr Tryz.prog 212 [.agg [.lst 3 (q.sl.map g8),.lst 2 (q.wa.map j6)]] (.one (.v (.bool (setd q)))):=by
 have hbb:=@a04 q.sl false
 refine Ctr.of (n:=42) G Tryz.func212 Z a8 Z Z Z (λw0=>?_)
 refine m7 0 Z (λ_=>Z) (λu0=>?_)
 refine vm1 ?_
 refine zcd (λh1=>?_) (λh1=>?_)
 ·exact b4O
 refine zcl (a2u q.sl hl) ?_
 refine zcd (λh2=>?_) (λh2=>?_)
 ·exact b4O
 refine zcl (a3X q.sl hl) ?_
 refine zgd ?_
 refine zcd (λh3=>?_) (λh3=>?_)
 ·exact b4O
 refine zcl (T3 _ _ _ _) ?_
 exact b4O
theorem b0O (q:Que) (hl:q.sl.length<=1048576) (hw:q.wa.length<=1048576):Ctr Tryz.prog 135 [.agg [.lst 3 (q.sl.map g8),.lst 2 (q.wa.map j6)]] (.one (.v (.bool (b09 q)))):=by
 refine Ctr.of (n:=12) G Tryz.func135 Z a8 Z Z Z (λw0=>?_)
 refine m7 0 Z (λ_=>Z) (λu0=>?_)
 refine vm1 ?_
 refine zcl (a9e q.sl q.wa hl hw) ?_
 refine zcd (λh1=>?_) (λh1=>?_)
 ·have hpf:=paF.mp h1
  refine zcl (a29 q hl hw hpf.sl.difS) ?_
  exact c2I
 exact c2I
theorem b1f (q:Que) (hl:q.sl.length<=1048576) (hw:q.wa.length<=1048576):Ctr Tryz.prog 159 [.agg [.lst 3 (q.sl.map g8),.lst 2 (q.wa.map j6)]] (.one (.v (.bool (b09 q)))):=by
 refine Ctr.of (n:=12) G Tryz.func159 Z a8 Z Z Z (λw0=>?_)
 refine m7 0 Z (λ_=>Z) (λu0=>?_)
 refine vm1 ?_
 refine zcl (a8v q.sl q.wa hl hw) ?_
 refine zcd (λh1=>?_) (λh1=>?_)
 ·refine zcl (a3a q hl hw) ?_
  exact c2I
 exact c2I
theorem a9f (q:Que) (hl:q.sl.length<=1048576) (hw:q.wa.length<=1048576):Ctr Tryz.prog 170 [.agg [.lst 3 (q.sl.map g8),.lst 2 (q.wa.map j6)]] (.shp true [some 2] [.fr 104 3 (q.sl.map g8),.fr 76 2 (q.wa.map j6) true]):=by
 exact c4Y
theorem O7 (xs:List Wtr) (v:Wtr) (i:Nat) (hi:i<=xs.length) (hl:xs.length<=100000):CtrM Tryz.prog 301 [.own 0,.v (.int .i64 (i:Int)),.own 1] [.row 76 2 (xs.map j6),.row 76 2 [j6 v]] (.one (.fr 76 2 ((xs.take i++[v]++xs.drop i).map j6))) [none,some (.row 76 2 [j6 v])]:=by
 refine CtrM.of (n:=95) (k:=2) G Tryz.func301 Z a8 Z Z Z Z Z Z Z (λw0 _ hpin=>?_)
 refine zgn ?_
 refine a33 ?_
 refine a3L ?_
 refine p6 ?_
 refine c67 ?_
 refine c84 ?_
 refine l4 Z (λh1=>?_) (λh1=>?_)
 ·try rw [h1]
  try simp only [rfb] at h1
  exact absurd h1 (by decide)
 try rw [h1]
 try simp only [rfb] at h1
 refine c84 ?_
 refine l4 Z (λh2=>?_) (λh2=>?_)
 ·try rw [h2]
  try simp only [rfb] at h2
  refine a33 ?_
  refine a3L ?_
  refine p6 ?_
  refine a1n (tx:=23) 3 Z Z Z Z Z<|j8 G A3 rfl rfl rfl rfl rfl rfl rfl rfl rfl (by simp only [List.length_map,List.length_cons,List.length_nil];omega) rfl rfl ?_
  exact c9m
 try rw [h2]
 try simp only [rfb] at h2
 refine zgn ?_
 refine s5 ?_
 refine a33 ?_
 refine a3L ?_
 refine vm7 ?_
 refine zst ?_
 refine a7 Z (c5u G Z Z Z Z Z Z w7 (λgs hgs hall=>?_))
 simp only [List.length_map] at hgs
 refine zgn ?_
 refine l4 Z (λh3=>?_) (λh3=>?_)
 ·try rw [h3]
  try simp only [rfb] at h3
  try simp only [List.length_map] at h3
  refine a33 ?_
  refine a3L ?_
  refine vm5 ?_
  refine a3L ?_
  refine vm7 ?_
  refine zst ?_
  refine vm7 ?_
  refine p6 ?_
  refine b33 (k:=(xs.length+1 - i)) G 3 Z Z Z Z Z Z Z Z Z w7 w7 w7 w7 w7 w7 (λc hc=>(hall c hc).2) w7 ?_
  refine zgn ?_
  refine a33 ?_
  refine a3L ?_
  refine p6 ?_
  refine c67 ?_
  refine zst ?_
  refine p6 ?_
  refine a8P G Z Z Z Z Z Z Z (SrcOK.of (vs:=[j6 v]) c0t (ArgOK.of Z) (by decide)) (by intro c hc;rw [List.mem_singleton.1 hc];exact ⟨Z,b0r v⟩) w7 w7 w7 ?_
  refine zgn ?_
  refine s5 (l1 9 [0,1] mixed a8 Z Z (λr0=>?_) (λ_ h=>h))
  refine c82 ?_
  refine d7 7 Z a8 a8 Z Z Z Z (a0y G Z Z Z Z Z Z w7 w7 w7 w7) (b6 (rs:=[4]) a8 Z (AllB.cons ?_ AllB.nil))
  refine f8 [0,1] Z Z (b5 Z Z (a5a G Z Z Z Z Z Z J b2k b2k) (b4 ⟨Z,?_⟩))
  refine b6 (rs:=[8]) a8 Z (AllB.cons ?_ AllB.nil)
  refine f8 [0,1] Z Z (a8P G Z Z Z Z Z Z Z (SrcOK.spare Z w7) (λc hc=>hall c (List.mem_of_mem_drop (List.mem_of_mem_take hc))) w7 w7 w7 (b4 ⟨Z,?_⟩))
  refine G9 ?_
  exact c9m
 try rw [h3]
 try simp only [rfb] at h3
 try simp only [List.length_map] at h3
 refine zgn ?_
 refine s5 ?_
 refine a3K ?_
 refine vm7 ?_
 refine p6 ?_
 refine b5c (N:=(xs.length+1)) G 3 Z Z Z Z Z Z Z Z w7 w7 w7 ?_
 refine zgn ?_
 refine s5 ?_
 refine a33 ?_
 iterate 4 refine zst ?_
 refine vm7 ?_
 refine vm5 ?_
 refine p6 ?_
 refine b5 Z Z (b5d (tr:=4) (t:=70) G Tryz.func302 a8 a8 a8 a8 Z Z Z Z w7 Z Z Z w7 (by decide) w7) ?_
 refine zgn ?_
 refine N1 Z (s5 ?_)
 apply C6 [0,1,2] [1,2] 3 9 [1] mixed a8 Z Z (λ_ h=>znk h)
 ·intro r0
  refine c82 ?_
  refine b6 (rs:=[4,7]) a8 Z (AllB.cons ?_ (AllB.cons ?_ AllB.nil))
  ·refine f8 [1] Z Z (b5 Z Z (a0y G Z Z Z Z Z Z w7 w7 w7 w7) (b4 ⟨Z,?_⟩))
   refine b6 (rs:=[7]) a8 Z (AllB.cons ?_ AllB.nil)
   exact c9f
  refine f8 [1] Z Z (b5 Z Z (a0y G Z Z Z Z Z Z w7 w7 w7 w7) (b4 ⟨Z,?_⟩))
  refine b6 (rs:=[4]) a8 Z (AllB.cons ?_ AllB.nil)
  exact c9f
 refine a33 ?_
 refine a3L ?_
 refine vm5 ?_
 refine zst ?_
 refine p6 ?_
 refine a5L G Z Z Z Z Z Z Z (vs:=[j6 v]) (SrcOK.of (vs:=[j6 v]) c0t (ArgOK.of Z) (by decide)) (L:=1) c3S Z (by intro c hc;rw [List.mem_singleton.1 hc];exact b0r v) c0t w7 w7 ?_
 refine zgn ?_
 refine zgn ?_
 have ht1:((i:Int)+1).toNat=i+1:=by omega
 refine c7R (id:=2) Z (c7S (L0:=(xs.take i++[v]++xs.drop i).map j6) (by (rw [show xs.length+1=(xs.map j6).length+1 from by rw [List.length_map]];simp only [Int.toNat_natCast,ht1,Int.toNat_zero,List.length_drop,List.length_cons,List.length_nil,Nat.zero_add,List.map_append,List.map_take,List.map_drop,List.map_cons,List.map_nil,Nat.sub_zero];exact b34 (by rw [List.length_map];exact hi) J)) (λc hc=>(by obtain ⟨x,_,rfl⟩:=List.mem_map.1 hc;exact b0r x))) (d8 (o7 Z (c7 Z ?_) Z (AftOK.gone (AftOK.stays Z ?_ Z AftOK.nil))))
 all_goals exact c3t
theorem a18 (wa:List Wtr) (w:Wtr) (hw:wa.length<=100000):Ctr Tryz.prog 297 [.lst 2 (wa.map j6),.v (a5M w)] (.one (.fr 76 2 ((insW wa w).map j6))):=by
 refine Ctr.of (n:=28) G Tryz.func297 Z a8 Z Z Z (λw0=>?_)
 refine vm1 ?_
 refine zgo ?_
 refine g9 [0,3] [0] (λ(i:Nat)=>[(5,.v (.int .i64 (i:Int)))]) (λ(i:Nat)=>[]) (λ(i:Nat)=>i<=wa.length/\∀j,j < i→lessW (wa.getD j default) w=true) (λ(i:Nat)=>wa.length - i) 0 Z Z ?_ ?_ ?_ ?_
 ·exact S9
 ·exact B0
 ·exact trivial
 intro i hinv
 refine vm2 ?_
 refine zgd ?_
 refine zcd (λh1=>?_) (λh1=>?_)
 ·refine zcl (B8 _ _) ?_
  refine zcd (λh2=>?_) (λh2=>?_)
  ·exact c4i
  refine zgo ?_
  apply C6 [4] [3] 4 8 [0] mixed a8 Z Z (λ_ h=>znk h)
  ·exact c9h
  refine zfo ?_
  all_goals exact c3H
 refine zwf ?_
 refine zgo ?_
 apply C6 [4] [3] 4 8 [0] mixed a8 Z Z (λ_ h=>znk h)
 ·exact c9h
 refine zfo ?_
 all_goals exact c3H
theorem a2s (wa:List Wtr) (w:Wtr) (hw:wa.length<=100000):Ctr Tryz.prog 236 [.lst 2 (wa.map j6),.v (a5M w)] (.one (.fr 76 2 ((insW wa w).map j6))):=by
 refine Ctr.of (n:=41) G Tryz.func236 Z a8 Z Z Z (λw0=>?_)
 refine vm1 ?_
 refine zgo ?_
 refine g9 [0,3] [0] (λ(i:Nat)=>[(5,.v (.int .i64 (i:Int)))]) (λ(i:Nat)=>[]) (λ(i:Nat)=>i<=wa.length/\∀j,j < i→lessW (wa.getD j default) w=true) (λ(i:Nat)=>wa.length - i) 0 Z Z ?_ ?_ ?_ ?_
 ·exact S9
 ·exact B0
 ·exact trivial
 intro i hinv
 refine vm2 ?_
 refine zgd ?_
 refine zcd (λh1=>?_) (λh1=>?_)
 ·refine zcl (T3 _ _ _ _) ?_
  refine zcd (λh2=>?_) (λh2=>?_)
  ·exact c4i
  refine zgo ?_
  apply C6 [4] [1] 3 13 [0] mixed a8 Z Z (λ_ h=>znk h)
  ·exact c9b
  refine zfo ?_
  all_goals exact c3I
 refine zwf ?_
 refine zgo ?_
 apply C6 [4] [1] 3 13 [0] mixed a8 Z Z (λ_ h=>znk h)
 ·exact c9b
 refine zfo ?_
 all_goals exact c3I
theorem a1B (q:Que) (hF:QF q):Ctr Tryz.prog 282 [.agg [.lst 3 (q.sl.map g8),.lst 2 (q.wa.map j6)]] (.shp true [some 2] [.fr 104 3 ((a1L q).sl.map g8),.fr 76 2 ((a1L q).wa.map j6) true]):=by
 have hq4:=hF.sl.len
 have hqw:=hF.wn
 refine Ctr.of (n:=47) G Tryz.func282 Z a8 Z Z Z (λw0=>?_)
 refine m7 0 Z (λ_=>Z) (λu0=>?_)
 refine vm1 ?_
 refine vm9 ?_
 refine vm3 ?_
 refine d3 4 Z Z Z (ArgsOK.of Z) (a9f q J J) Z Z ?_
 refine p6 ?_
 refine b76 ?_
 refine zgo ?_
 refine g9 [2,3] [1,4] (λ(x:Que)=>[]) (λ(x:Que)=>[(2,some (.row 104 3 (x.sl.map g8))),(3,some (.row 76 2 (x.wa.map j6) true))]) (λ(x:Que)=>QF x/\a1L x=a1L q) (λ(x:Que)=>phi x) q Z Z ?_ ?_ ?_ ?_
 ·exact ⟨hF,Z⟩
 ·exact trivial
 ·exact b5X
 intro x hinv
 have hFx:=hinv.1
 have hl4:=hFx.sl.len
 have hwn:=hFx.wn
 have hf:=@b5p x.sl
 have hb:=@a04 x.sl false
 refine vm2 ?_
 refine zcl (a29 x J J hFx.sl.difS) ?_
 refine zcd (λh1=>?_) (λh1=>?_)
 ·obtain ⟨hw0,hbb⟩:=b6t hFx h1
  have hnx:=b1O hFx h1
  obtain ⟨hF2,hphi⟩:=b0t hFx h1
  refine zgn ?_
  refine r9 (s5 (l1 10 [1,2,3,4] mixed a8 Z Z (λr0=>?_) (λ_ h=>h)))
  refine zsa 0 ?_
  refine zsa 1 ?_
  first | refine d7 2 Z a8 a8 Z Z Z Z (c8 G Z Z Z Z Z J J) ?_ | refine d7 2 Z a8 a8 Z Z Z Z (c8 G Z Z Z Z Z J m8) ?_
  first | refine d7 3 Z a8 a8 Z Z Z Z (f6 G Z Z Z Z (a2D J) Z) ?_ | refine d7 3 Z a8 a8 Z Z Z Z (f6 G Z Z Z Z (F9 J J) Z) ?_ | refine d7 3 Z a8 a8 Z Z Z Z (f6 G Z Z Z Z (B6 J J) Z) ?_ | refine d7 3 Z a8 a8 Z Z Z Z (f6 G Z Z Z Z (B6 J m8) Z) ?_
  refine zsa 4 ?_
  refine zsa 5 ?_
  refine A4 (N:=6) Z (s7 (fuel:=3) [⟨7,4,5,true,.box (avR [.int .i64 0,.int .i64 0] [])⟩] (AllVOK.cons (VOK.boxS G Z Z Z Z Z) (AllVOK.nil)) (λhok=>?_))
  refine n6 [(6,[])] a8 a8 (λe he=>hok e he) a8 (AllVS.cons ?_ AllVS.nil)
  refine VStep.mk0 [1,2,3,4] Z Z (λb1 _ hbn=>b5 Z Z (i7 Z (ArgsOK.of Z) (a2c x.sl J) Z) (b4 Z)) a8 a8 a8 a8 (n6 [(8,[7])] a8 a8 (λe he=>hok e he) a8 (AllVS.cons ?_ AllVS.nil))
  refine VStep.mk1 [1,2,3,4] 4 (.ptr 5 0) 5 (.box (avR [.int .i64 0,.int .i64 0] [])) [] Z Z Z Z Z (λb1 _ hbn=>e9 G Z Z Z Z Z Z Z Z Z Z Z (b4 Z)) a8 a8 a8 a8 (G7 ?_)
  clear hok
  refine zsa 9 ?_
  refine G9 ?_
  refine vm3 ?_
  refine c1u G 7 Z Z Z Z Z Z Z Z w7 w7 ?_
  refine zcd (λh2=>?_) (λh2=>?_)
  ·refine zcl (U4 x.sl false J hFx.sl.difS) ?_
   refine zgo ?_
   apply C6 [2,3,4,5] [1,2,4,5,7] 8 11 [1,2,5,6] mixed a8 Z Z (λ_ h=>znk h)
   ·intro r0
    refine zsa 0 ?_
    refine zsa 2 ?_
    refine zsa 4 ?_
    refine b6 (rs:=[1,3]) a8 Z (AllB.cons ?_ (AllB.cons ?_ AllB.nil))
    ·refine f8 [1,2,5,6] Z Z ?_
     refine R9 ?_
     refine b6 (rs:=[3]) a8 Z (AllB.cons ?_ AllB.nil)
     refine c8P ?_
     exact c5d
    refine c8P ?_
    refine b6 (rs:=[1,7]) a8 Z (AllB.cons ?_ (AllB.cons ?_ AllB.nil))
    ·refine f8 [1,2,5,6] Z Z ?_
     refine R9 ?_
     exact c5d
    refine f8 [1,2,5,6] Z Z (b5 Z Z (i7 Z (ArgsOK.of Z) (E8 _) Z) (b4 ⟨Z,?_⟩))
    refine b6 (rs:=[1]) a8 Z (AllB.cons ?_ AllB.nil)
    refine f8 [1,2,5,6] Z Z ?_
    refine R9 ?_
    exact c4I
   refine N4 (Gh.tl (id:=7) Z) ?_
   refine c8S ?_
   refine s6 (Gh.sub 7 3 np Z Z Z) (b4 ⟨(stQ x),?_,?_,trivial,⟨⟨_,Z,by (first | rfl | (rw [s3 (q:=x) J];exact congrArg (λz=>Row.row _ _ z) (a32 (f:=g8) (x:=⟨1,_,_⟩))) | (rw [v1 (q:=x) J];exact congrArg (λz=>Row.row _ _ z) (a32 (f:=g8) (x:=⟨1,_,_⟩))) | (rw [s3 (q:=x) J];exact congrArg (λz=>Row.row _ _ z true) (List.map_drop).symm) | (rw [v1 (q:=x) J];done) | (rw [v1 (q:=x) J];rfl) | (rw [s3 (q:=x) J];done) | (rw [s3 (q:=x) J];rfl) | (rw [s3 (q:=x) J];exact congrArg (λz=>Row.row _ _ z true) a0I)| (rw [v1 (q:=x) J];exact congrArg (λz=>Row.row _ _ z true) a0I))⟩,Z,Z,⟨⟨_,Z,by (first | rfl | (rw [s3 (q:=x) J];exact congrArg (λz=>Row.row _ _ z) (a32 (f:=g8) (x:=⟨1,_,_⟩))) | (rw [v1 (q:=x) J];exact congrArg (λz=>Row.row _ _ z) (a32 (f:=g8) (x:=⟨1,_,_⟩))) | (rw [s3 (q:=x) J];exact congrArg (λz=>Row.row _ _ z true) (List.map_drop).symm) | (rw [v1 (q:=x) J];done) | (rw [v1 (q:=x) J];rfl) | (rw [s3 (q:=x) J];done) | (rw [s3 (q:=x) J];rfl) | (rw [s3 (q:=x) J];exact congrArg (λz=>Row.row _ _ z true) a0I)| (rw [v1 (q:=x) J];exact congrArg (λz=>Row.row _ _ z true) a0I))⟩,Z,Z,trivial⟩⟩,Z,Z,Z⟩)
   ·exact ⟨hF2,hnx▸hinv.2⟩
   exact hphi
  refine zgn ?_
  refine N4 (Gh.tl (id:=6) Z) ?_
  refine c8S ?_
  refine s6 (Gh.sub 6 3 np Z Z Z) (b4 ⟨(stQ x),?_,?_,trivial,⟨⟨_,Z,by (first | rfl | (rw [s3 (q:=x) J];exact congrArg (λz=>Row.row _ _ z) (a32 (f:=g8) (x:=⟨1,_,_⟩))) | (rw [v1 (q:=x) J];exact congrArg (λz=>Row.row _ _ z) (a32 (f:=g8) (x:=⟨1,_,_⟩))) | (rw [s3 (q:=x) J];exact congrArg (λz=>Row.row _ _ z true) (List.map_drop).symm) | (rw [v1 (q:=x) J];done) | (rw [v1 (q:=x) J];rfl) | (rw [s3 (q:=x) J];done) | (rw [s3 (q:=x) J];rfl) | (rw [s3 (q:=x) J];exact congrArg (λz=>Row.row _ _ z true) a0I)| (rw [v1 (q:=x) J];exact congrArg (λz=>Row.row _ _ z true) a0I))⟩,Z,Z,⟨⟨_,Z,by (first | rfl | (rw [s3 (q:=x) J];exact congrArg (λz=>Row.row _ _ z) (a32 (f:=g8) (x:=⟨1,_,_⟩))) | (rw [v1 (q:=x) J];exact congrArg (λz=>Row.row _ _ z) (a32 (f:=g8) (x:=⟨1,_,_⟩))) | (rw [s3 (q:=x) J];exact congrArg (λz=>Row.row _ _ z true) (List.map_drop).symm) | (rw [v1 (q:=x) J];done) | (rw [v1 (q:=x) J];rfl) | (rw [s3 (q:=x) J];done) | (rw [s3 (q:=x) J];rfl) | (rw [s3 (q:=x) J];exact congrArg (λz=>Row.row _ _ z true) a0I)| (rw [v1 (q:=x) J];exact congrArg (λz=>Row.row _ _ z true) a0I))⟩,Z,Z,trivial⟩⟩,Z,Z,Z⟩)
  ·exact ⟨hF2,hnx▸hinv.2⟩
  exact hphi
 have hd:=b1P h1
 refine zgo ?_
 refine d8 (p4 Z Z Z Z (b3 (c7 Z ?_) (b3 (c7 Z ?_) d9)))
 all_goals ((rw [← hinv.2,hd];done))
theorem a7L (q:Que) (hl:q.sl.length<=1048576) (hw:q.wa.length<=1048576):Ctr Tryz.prog 183 [.agg [.lst 3 (q.sl.map g8),.lst 2 (q.wa.map j6)]] (.shp true [some 2] [.fr 104 3 (q.sl.map g8),.fr 76 2 (q.wa.map j6)]):=by
 refine Ctr.of (n:=12) G Tryz.func183 Z a8 Z Z Z (λw0=>?_)
 exact c9d
end Go.Proofs.YtdhckhjphmjniaaGreatDoor
