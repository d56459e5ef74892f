/- Texts merged into one: M3, M4, M5. -/
import Derived.Test.YtdhckhjphmjniaaGreatDoorPFnScriptB
set_option maxHeartbeats 4000000
set_option linter.unusedSimpArgs false
set_option linter.unusedVariables false
set_option maxRecDepth 20000
namespace Go.Proofs.YtdhckhjphmjniaaGreatDoor
open Go Go.Rf
theorem a9a (sl:List Slot) (wa:List Wtr) (hl:sl.length<=1048576) (hw:wa.length<=1048576):Ctr Tryz.prog 190 [.lst 3 (sl.map j5),.lst 2 (wa.map j9)] (.one (.v (.bool (a8Z ⟨sl,wa⟩)))):=by
 refine Ctr.of (n:=58) G Tryz.func190 Z a8 Z Z Z (λw0=>?_)
 refine zcl (a89 _ a1X) ?_
 refine zcd (λh1=>?_) (λh1=>?_)
 ·exact ws9
 refine zgo ?_
 refine i7 [0,1,10,11] [] (λ(i:Nat)=>[(12,.v (.int .i64 (i:Int)))]) (λ(i:Nat)=>[]) (λ(i:Nat)=>i<=wa.length/\∀j,j < i→oneWa sl wa j=true) (λ(i:Nat)=>wa.length - i) 0 Z Z ?_ ?_ ?_ ?_
 ·exact T7
 ·exact E7
 ·exact trivial
 intro i hinv
 have ht:0 < i→((i:Int) - 1).toNat=i - 1:=λ_=>J
 refine vm2 ?_
 refine zcd (λh2=>?_) (λh2=>?_)
 ·refine a4y ?_
  refine zgd ?_
  refine zcl (a08 _) ?_
  refine zcd (λh3=>?_) (λh3=>?_)
  ·refine zwt ?_
   exact ws9
  refine zcl (Y2 _) ?_
  refine zcd (λh4=>?_) (λh4=>?_)
  ·refine zwt ?_
   exact ws9
  refine zcl (H3 sl _ hl) ?_
  refine zcd (λh5=>?_) (λh5=>?_)
  ·refine zwt ?_
   exact ws9
  refine zgo ?_
  refine c6A ?_
  refine zgo ?_
  refine b02 ?_
  refine g8 Z Z (j4 Z (ArgsOK.of (congrArg some (congrArg (λz=>[AV.lst 2 z,.v (.int .i64 (wa.getD i default).q)]) (a2x (xs:=wa) (i:=i))))) (Ctr.eq (a1v (wa.take i) _ m7) (congrArg (λz=>Res.one (.v (.int .i64 z))) (b8v J))) Z) ?_
  refine zcd (λh6=>?_) (λh6=>?_)
  ·refine zwt ?_
   exact ws9
  refine zcd (λh7=>?_) (λh7=>?_)
  ·refine zcl (B5 _ _) ?_
   refine zcd (λh8=>?_) (λh8=>?_)
   ·exact ws9
   refine zgo ?_
   refine ⟨(i+1),?_,?_,⟨⟨_,Z,by rfl⟩,Z,trivial⟩,trivial,Z,Z,Z⟩
   ·exact c9q
   omega
  refine zwf ?_
  refine zgo ?_
  refine ⟨(i+1),?_,?_,⟨⟨_,Z,by rfl⟩,Z,trivial⟩,trivial,Z,Z,Z⟩
  ·exact c9q
  omega
 refine zf1 ?_
 all_goals exact c2V
theorem a8t (sl:List Slot) (wa:List Wtr) (hl:sl.length<=1048576) (hw:wa.length<=1048576):Ctr Tryz.prog 211 [.lst 3 (sl.map j5),.lst 2 (wa.map j9)] (.one (.v (.bool (a8Z ⟨sl,wa⟩)))):=by
 refine Ctr.of (n:=81) G Tryz.func211 Z a8 Z Z Z (λw0=>?_)
 refine zgo ?_
 refine i7 [0,1] [] (λ(i:Nat)=>[(5,.v (.int .i64 (i:Int)))]) (λ(i:Nat)=>[]) (λ(i:Nat)=>i<=wa.length/\∀j,j < i→oneWa sl wa j=true) (λ(i:Nat)=>wa.length - i) 0 Z Z ?_ ?_ ?_ ?_
 ·exact T7
 ·exact E7
 ·exact trivial
 intro i hinv
 have ht:0 < i→((i:Int) - 1).toNat=i - 1:=λ_=>J
 refine vm2 ?_
 refine zcd (λh1=>?_) (λh1=>?_)
 ·refine zcd (λh2=>?_) (λh2=>?_)
  ·refine a4y ?_
   refine zcl (a09 _) ?_
   refine zcd (λh3=>?_) (λh3=>?_)
   ·refine zwt ?_
    exact ws5
   refine zcl (a0q _) ?_
   refine zcd (λh4=>?_) (λh4=>?_)
   ·refine zwt ?_
    exact ws5
   refine zcl (F0 sl _ hl) ?_
   refine zcd (λh5=>?_) (λh5=>?_)
   ·exact ws5
   refine zgd ?_
   refine zcd (λh6=>?_) (λh6=>?_)
   ·refine zcl (T9 _ _ _ _) ?_
    refine zcd (λh7=>?_) (λh7=>?_)
    ·exact ws5
    refine zgo ?_
    refine i7 [0,1,5,6] [0] (λ(k:Nat)=>[(7,.v (.int .i64 (k:Int)))]) (λ(k:Nat)=>[]) (λ(k:Nat)=>k<=i/\∀j,j < k→(wa.getD j default).q≠(wa.getD i default).q) (λ(k:Nat)=>i - k) 0 Z Z ?_ ?_ ?_ ?_
    ·exact T7
    ·exact E7
    ·exact trivial
    intro k hk
    refine vm2 ?_
    refine zcd (λh8=>?_) (λh8=>?_)
    ·refine zgd ?_
     refine zcd (λh9=>?_) (λh9=>?_)
     ·exact ws5
     exact c3X
    refine zgo ?_
    refine ⟨(i+1),?_,?_,⟨⟨_,Z,by rfl⟩,Z,trivial⟩,trivial,Z,Z,Z⟩
    ·exact c3L
    omega
   refine zwf ?_
   refine zgo ?_
   refine i7 [0,1,5,6] [0] (λ(k:Nat)=>[(7,.v (.int .i64 (k:Int)))]) (λ(k:Nat)=>[]) (λ(k:Nat)=>k<=i/\∀j,j < k→(wa.getD j default).q≠(wa.getD i default).q) (λ(k:Nat)=>i - k) 0 Z Z ?_ ?_ ?_ ?_
   ·exact T7
   ·exact E7
   ·exact trivial
   intro k hk
   refine vm2 ?_
   refine zcd (λh10=>?_) (λh10=>?_)
   ·refine zgd ?_
    refine zcd (λh11=>?_) (λh11=>?_)
    ·exact ws5
    exact c3X
   refine zgo ?_
   refine ⟨(i+1),?_,?_,⟨⟨_,Z,by rfl⟩,Z,trivial⟩,trivial,Z,Z,Z⟩
   ·exact c3L
   omega
  refine zcl (a5K sl hl) ?_
  refine zcd (λh12=>?_) (λh12=>?_)
  ·exact ws5
  exact ws5
 refine zwf ?_
 refine zcl (a5K sl hl) ?_
 refine zcd (λh13=>?_) (λh13=>?_)
 ·exact ws5
 refine zf1 ?_
 all_goals exact c8q
theorem a2X (q:Que) (hl:q.sl.length<=1048576) (hw:q.wa.length<=1048576) (hd:b8n q.sl):Ctr Tryz.prog 191 [.agg [.lst 3 (q.sl.map j5),.lst 2 (q.wa.map j9)]] (.one (.v (.bool (setd q)))):=by
 have hbb:=@a04 q.sl false
 refine Ctr.of (n:=33) G Tryz.func191 Z a8 Z Z Z (λw0=>?_)
 refine n8 0 Z (λ_=>Z) (λu0=>?_)
 refine vm1 ?_
 refine zcd (λh1=>?_) (λh1=>?_)
 ·exact b4t
 refine zcl (U9 q.sl false hl hd) ?_
 refine zgd ?_
 refine zcl (a13 q.sl hl) ?_
 refine zcd (λh2=>?_) (λh2=>?_)
 ·refine zcd (λh3=>?_) (λh3=>?_)
  ·exact b4t
  refine zcl (E4 _) ?_
  refine zcl (B5 _ _) ?_
  exact b4t
 exact b4t
theorem a2Y (q:Que) (hl:q.sl.length<=1048576) (hw:q.wa.length<=1048576):Ctr Tryz.prog 212 [.agg [.lst 3 (q.sl.map j5),.lst 2 (q.wa.map j9)]] (.one (.v (.bool (setd q)))):=by
 have hbb:=@a04 q.sl false
 refine Ctr.of (n:=42) G Tryz.func212 Z a8 Z Z Z (λw0=>?_)
 refine n8 0 Z (λ_=>Z) (λu0=>?_)
 refine vm1 ?_
 refine zcd (λh1=>?_) (λh1=>?_)
 ·exact b4t
 refine zcl (a2q q.sl hl) ?_
 refine zcd (λh2=>?_) (λh2=>?_)
 ·exact b4t
 refine zcl (a3U q.sl hl) ?_
 refine zgd ?_
 refine zcd (λh3=>?_) (λh3=>?_)
 ·exact b4t
 refine zcl (T9 _ _ _ _) ?_
 exact b4t
theorem b0G (q:Que) (hl:q.sl.length<=1048576) (hw:q.wa.length<=1048576):Ctr Tryz.prog 135 [.agg [.lst 3 (q.sl.map j5),.lst 2 (q.wa.map j9)]] (.one (.v (.bool (b0Y q)))):=by
 refine Ctr.of (n:=12) G Tryz.func135 Z a8 Z Z Z (λw0=>?_)
 refine n8 0 Z (λ_=>Z) (λu0=>?_)
 refine vm1 ?_
 refine zcl (a9a q.sl q.wa hl hw) ?_
 refine zcd (λh1=>?_) (λh1=>?_)
 ·have hpf:=paF.mp h1
  refine zcl (a2X q hl hw hpf.sl.difS) ?_
  exact c2c
 exact c2c
theorem b04 (q:Que) (hl:q.sl.length<=1048576) (hw:q.wa.length<=1048576):Ctr Tryz.prog 159 [.agg [.lst 3 (q.sl.map j5),.lst 2 (q.wa.map j9)]] (.one (.v (.bool (b0Y q)))):=by
 refine Ctr.of (n:=12) G Tryz.func159 Z a8 Z Z Z (λw0=>?_)
 refine n8 0 Z (λ_=>Z) (λu0=>?_)
 refine vm1 ?_
 refine zcl (a8t q.sl q.wa hl hw) ?_
 refine zcd (λh1=>?_) (λh1=>?_)
 ·refine zcl (a2Y q hl hw) ?_
  exact c2c
 exact c2c
theorem a9b (q:Que) (hl:q.sl.length<=1048576) (hw:q.wa.length<=1048576):Ctr Tryz.prog 170 [.agg [.lst 3 (q.sl.map j5),.lst 2 (q.wa.map j9)]] (.shp true [some 2] [.fr 104 3 (q.sl.map j5),.fr 76 2 (q.wa.map j9) true]):=by
 exact c4z
theorem O6 (xs:List Wtr) (v:Wtr) (i:Nat) (hi:i<=xs.length) (hl:xs.length<=100000):CtrM Tryz.prog 301 [.own 0,.v (.int .i64 (i:Int)),.own 1] [.row 76 2 (xs.map j9),.row 76 2 [j9 v]] (.one (.fr 76 2 ((xs.take i++[v]++xs.drop i).map j9))) [none,some (.row 76 2 [j9 v])]:=by
 refine CtrM.of (n:=95) (k:=2) G Tryz.func301 Z a8 Z Z Z Z Z Z Z (λw0 _ hpin=>?_)
 refine zgn ?_
 refine a5p ?_
 refine a2n ?_
 refine p6 ?_
 refine c6G ?_
 refine c8H ?_
 refine l4 Z (λh1=>?_) (λh1=>?_)
 ·try rw [h1]
  try simp only [rfb] at h1
  exact absurd h1 (by decide)
 try rw [h1]
 try simp only [rfb] at h1
 refine c8H ?_
 refine l4 Z (λh2=>?_) (λh2=>?_)
 ·try rw [h2]
  try simp only [rfb] at h2
  refine a5p ?_
  refine a2n ?_
  refine p6 ?_
  refine a1n (tx:=23) 3 Z Z Z Z Z<|l1 G A4 rfl rfl rfl rfl rfl rfl rfl rfl rfl (by simp only [List.length_map,List.length_cons,List.length_nil];omega) rfl rfl ?_
  exact c8W
 try rw [h2]
 try simp only [rfb] at h2
 refine zgn ?_
 refine s9 ?_
 refine a5p ?_
 refine a2n ?_
 refine vm7 ?_
 refine zst ?_
 refine a7 Z (c47 G Z Z Z Z Z Z w4 (λgs hgs hall=>?_))
 simp only [List.length_map] at hgs
 refine zgn ?_
 refine l4 Z (λh3=>?_) (λh3=>?_)
 ·try rw [h3]
  try simp only [rfb] at h3
  try simp only [List.length_map] at h3
  refine a5p ?_
  refine a2n ?_
  refine vm6 ?_
  refine a2n ?_
  refine vm7 ?_
  refine zst ?_
  refine vm7 ?_
  refine p6 ?_
  refine b3K (k:=(xs.length+1 - i)) G 3 Z Z Z Z Z Z Z Z Z w4 w4 w4 w4 w4 w4 (λc hc=>(hall c hc).2) w4 ?_
  refine zgn ?_
  refine a5p ?_
  refine a2n ?_
  refine p6 ?_
  refine c6G ?_
  refine zst ?_
  refine p6 ?_
  refine a8O G Z Z Z Z Z Z Z (SrcOK.of (vs:=[j9 v]) b96 (ArgOK.of Z) (by decide)) (by intro c hc;rw [List.mem_singleton.1 hc];exact ⟨Z,b0l v⟩) w4 w4 w4 ?_
  refine zgn ?_
  refine s9 (l2 9 [0,1] mixed a8 Z Z (λr0=>?_) (λ_ h=>h))
  refine c8F ?_
  refine d5 7 Z a8 a8 Z Z Z Z (a0v G Z Z Z Z Z Z w4 w4 w4 w4) (b7 (rs:=[4]) a8 Z (AllB.cons ?_ AllB.nil))
  refine g9 [0,1] Z Z (b5 Z Z (a4W G Z Z Z Z Z Z J b17 b17) (b4 ⟨Z,?_⟩))
  refine b7 (rs:=[8]) a8 Z (AllB.cons ?_ AllB.nil)
  refine g9 [0,1] Z Z (a8O G Z Z Z Z Z Z Z (SrcOK.spare Z w4) (λc hc=>hall c (List.mem_of_mem_drop (List.mem_of_mem_take hc))) w4 w4 w4 (b4 ⟨Z,?_⟩))
  refine F3 ?_
  exact c8W
 try rw [h3]
 try simp only [rfb] at h3
 try simp only [List.length_map] at h3
 refine zgn ?_
 refine s9 ?_
 refine a2m ?_
 refine vm7 ?_
 refine p6 ?_
 refine b4P (N:=(xs.length+1)) G 3 Z Z Z Z Z Z Z Z w4 w4 w4 ?_
 refine zgn ?_
 refine s9 ?_
 refine a5p ?_
 iterate 4 refine zst ?_
 refine vm7 ?_
 refine vm6 ?_
 refine p6 ?_
 refine b5 Z Z (b4Q (tr:=4) (t:=70) G Tryz.func302 a8 a8 a8 a8 Z Z Z Z w4 Z Z Z w4 (by decide) w4) ?_
 refine zgn ?_
 refine J4 Z (s9 ?_)
 apply C4 [0,1,2] [1,2] 3 9 [1] mixed a8 Z Z (λ_ h=>znk h)
 ·intro r0
  refine c8F ?_
  refine b7 (rs:=[4,7]) a8 Z (AllB.cons ?_ (AllB.cons ?_ AllB.nil))
  ·refine g9 [1] Z Z (b5 Z Z (a0v G Z Z Z Z Z Z w4 w4 w4 w4) (b4 ⟨Z,?_⟩))
   refine b7 (rs:=[7]) a8 Z (AllB.cons ?_ AllB.nil)
   exact c8R
  refine g9 [1] Z Z (b5 Z Z (a0v G Z Z Z Z Z Z w4 w4 w4 w4) (b4 ⟨Z,?_⟩))
  refine b7 (rs:=[4]) a8 Z (AllB.cons ?_ AllB.nil)
  exact c8R
 refine a5p ?_
 refine a2n ?_
 refine vm6 ?_
 refine zst ?_
 refine p6 ?_
 refine a5B G Z Z Z Z Z Z Z (vs:=[j9 v]) (SrcOK.of (vs:=[j9 v]) b96 (ArgOK.of Z) (by decide)) (L:=1) c3r Z (by intro c hc;rw [List.mem_singleton.1 hc];exact b0l v) b96 w4 w4 ?_
 refine zgn ?_
 refine zgn ?_
 have ht1:((i:Int)+1).toNat=i+1:=by omega
 refine c7s (id:=2) Z (c7t (L0:=(xs.take i++[v]++xs.drop i).map j9) (by (rw [show xs.length+1=(xs.map j9).length+1 from by rw [List.length_map]];simp only [Int.toNat_natCast,ht1,Int.toNat_zero,List.length_drop,List.length_cons,List.length_nil,Nat.zero_add,List.map_append,List.map_take,List.map_drop,List.map_cons,List.map_nil,Nat.sub_zero];exact b3L (by rw [List.length_map];exact hi) J)) (λc hc=>(by obtain ⟨x,_,rfl⟩:=List.mem_map.1 hc;exact b0l x))) (d8 (n9 Z (c8 Z ?_) Z (AftOK.gone (AftOK.stays Z ?_ Z AftOK.nil))))
 all_goals exact c22
theorem a1Y (wa:List Wtr) (w:Wtr) (hw:wa.length<=100000):Ctr Tryz.prog 297 [.lst 2 (wa.map j9),.v (a5C w)] (.one (.fr 76 2 ((insW wa w).map j9))):=by
 refine Ctr.of (n:=28) G Tryz.func297 Z a8 Z Z Z (λw0=>?_)
 refine vm1 ?_
 refine zgo ?_
 refine i7 [0,3] [0] (λ(i:Nat)=>[(5,.v (.int .i64 (i:Int)))]) (λ(i:Nat)=>[]) (λ(i:Nat)=>i<=wa.length/\∀j,j < i→lessW (wa.getD j default) w=true) (λ(i:Nat)=>wa.length - i) 0 Z Z ?_ ?_ ?_ ?_
 ·exact T7
 ·exact E7
 ·exact trivial
 intro i hinv
 refine vm2 ?_
 refine zgd ?_
 refine zcd (λh1=>?_) (λh1=>?_)
 ·refine zcl (B5 _ _) ?_
  refine zcd (λh2=>?_) (λh2=>?_)
  ·exact c3S
  refine zgo ?_
  apply C4 [4] [3] 4 8 [0] mixed a8 Z Z (λ_ h=>znk h)
  ·exact c8T
  refine zfo ?_
  all_goals exact c3g
 refine zwf ?_
 refine zgo ?_
 apply C4 [4] [3] 4 8 [0] mixed a8 Z Z (λ_ h=>znk h)
 ·exact c8T
 refine zfo ?_
 all_goals exact c3g
theorem a2o (wa:List Wtr) (w:Wtr) (hw:wa.length<=100000):Ctr Tryz.prog 236 [.lst 2 (wa.map j9),.v (a5C w)] (.one (.fr 76 2 ((insW wa w).map j9))):=by
 refine Ctr.of (n:=41) G Tryz.func236 Z a8 Z Z Z (λw0=>?_)
 refine vm1 ?_
 refine zgo ?_
 refine i7 [0,3] [0] (λ(i:Nat)=>[(5,.v (.int .i64 (i:Int)))]) (λ(i:Nat)=>[]) (λ(i:Nat)=>i<=wa.length/\∀j,j < i→lessW (wa.getD j default) w=true) (λ(i:Nat)=>wa.length - i) 0 Z Z ?_ ?_ ?_ ?_
 ·exact T7
 ·exact E7
 ·exact trivial
 intro i hinv
 refine vm2 ?_
 refine zgd ?_
 refine zcd (λh1=>?_) (λh1=>?_)
 ·refine zcl (T9 _ _ _ _) ?_
  refine zcd (λh2=>?_) (λh2=>?_)
  ·exact c3S
  refine zgo ?_
  apply C4 [4] [1] 3 13 [0] mixed a8 Z Z (λ_ h=>znk h)
  ·exact c8N
  refine zfo ?_
  all_goals exact c3h
 refine zwf ?_
 refine zgo ?_
 apply C4 [4] [1] 3 13 [0] mixed a8 Z Z (λ_ h=>znk h)
 ·exact c8N
 refine zfo ?_
 all_goals exact c3h
theorem a1r (q:Que) (hF:QF q):Ctr Tryz.prog 282 [.agg [.lst 3 (q.sl.map j5),.lst 2 (q.wa.map j9)]] (.shp true [some 2] [.fr 104 3 ((a2P q).sl.map j5),.fr 76 2 ((a2P q).wa.map j9) true]):=by
 have hq4:=hF.sl.len
 have hqw:=hF.wn
 refine Ctr.of (n:=47) G Tryz.func282 Z a8 Z Z Z (λw0=>?_)
 refine n8 0 Z (λ_=>Z) (λu0=>?_)
 refine vm1 ?_
 refine vm9 ?_
 refine vm3 ?_
 refine d4 4 Z Z Z (ArgsOK.of Z) (a9b q J J) Z Z ?_
 refine p6 ?_
 refine b7E ?_
 refine zgo ?_
 refine i7 [2,3] [1,4] (λ(x:Que)=>[]) (λ(x:Que)=>[(2,some (.row 104 3 (x.sl.map j5))),(3,some (.row 76 2 (x.wa.map j9) true))]) (λ(x:Que)=>QF x/\a2P x=a2P q) (λ(x:Que)=>phi x) q Z Z ?_ ?_ ?_ ?_
 ·exact ⟨hF,Z⟩
 ·exact trivial
 ·exact b3e
 intro x hinv
 have hFx:=hinv.1
 have hl4:=hFx.sl.len
 have hwn:=hFx.wn
 have hf:=@b42 x.sl
 have hb:=@a04 x.sl false
 refine vm2 ?_
 refine zcl (a2X x J J hFx.sl.difS) ?_
 refine zcd (λh1=>?_) (λh1=>?_)
 ·obtain ⟨hw0,hbb⟩:=b51 hFx h1
  have hnx:=b1D hFx h1
  obtain ⟨hF2,hphi⟩:=b1B hFx h1
  refine zgn ?_
  refine o7 (s9 (l2 10 [1,2,3,4] mixed a8 Z Z (λr0=>?_) (λ_ h=>h)))
  refine zsa 0 ?_
  refine zsa 1 ?_
  first | refine d5 2 Z a8 a8 Z Z Z Z (c7 G Z Z Z Z Z J J) ?_ | refine d5 2 Z a8 a8 Z Z Z Z (c7 G Z Z Z Z Z J m7) ?_
  first | refine d5 3 Z a8 a8 Z Z Z Z (f6 G Z Z Z Z (R1 J) Z) ?_ | refine d5 3 Z a8 a8 Z Z Z Z (f6 G Z Z Z Z (A7 J J) Z) ?_ | refine d5 3 Z a8 a8 Z Z Z Z (f6 G Z Z Z Z (A1 J J) Z) ?_ | refine d5 3 Z a8 a8 Z Z Z Z (f6 G Z Z Z Z (A1 J m7) Z) ?_
  refine zsa 4 ?_
  refine zsa 5 ?_
  refine A9 (N:=6) Z (s7 (fuel:=3) [⟨7,4,5,true,.box (avR [.int .i64 0,.int .i64 0] [])⟩] (AllVOK.cons (VOK.boxS G Z Z Z Z Z) (AllVOK.nil)) (λhok=>?_))
  refine n6 [(6,[])] a8 a8 (λe he=>hok e he) a8 (AllVS.cons ?_ AllVS.nil)
  refine VStep.mk0 [1,2,3,4] Z Z (λb1 _ hbn=>b5 Z Z (j4 Z (ArgsOK.of Z) (a13 x.sl J) Z) (b4 Z)) a8 a8 a8 a8 (n6 [(8,[7])] a8 a8 (λe he=>hok e he) a8 (AllVS.cons ?_ AllVS.nil))
  refine VStep.mk1 [1,2,3,4] 4 (.ptr 5 0) 5 (.box (avR [.int .i64 0,.int .i64 0] [])) [] Z Z Z Z Z (λb1 _ hbn=>e9 G Z Z Z Z Z Z Z Z Z Z Z (b4 Z)) a8 a8 a8 a8 (G0 ?_)
  clear hok
  refine zsa 9 ?_
  refine F3 ?_
  refine vm3 ?_
  refine c05 G 7 Z Z Z Z Z Z Z Z w4 w4 ?_
  refine zcd (λh2=>?_) (λh2=>?_)
  ·refine zcl (U9 x.sl false J hFx.sl.difS) ?_
   refine zgo ?_
   apply C4 [2,3,4,5] [1,2,4,5,7] 8 11 [1,2,5,6] mixed a8 Z Z (λ_ h=>znk h)
   ·intro r0
    refine zsa 0 ?_
    refine zsa 2 ?_
    refine zsa 4 ?_
    refine b7 (rs:=[1,3]) a8 Z (AllB.cons ?_ (AllB.cons ?_ AllB.nil))
    ·refine g9 [1,2,5,6] Z Z ?_
     refine N8 ?_
     refine b7 (rs:=[3]) a8 Z (AllB.cons ?_ AllB.nil)
     refine c8s ?_
     exact c4N
    refine c8s ?_
    refine b7 (rs:=[1,7]) a8 Z (AllB.cons ?_ (AllB.cons ?_ AllB.nil))
    ·refine g9 [1,2,5,6] Z Z ?_
     refine N8 ?_
     exact c4N
    refine g9 [1,2,5,6] Z Z (b5 Z Z (j4 Z (ArgsOK.of Z) (E4 _) Z) (b4 ⟨Z,?_⟩))
    refine b7 (rs:=[1]) a8 Z (AllB.cons ?_ AllB.nil)
    refine g9 [1,2,5,6] Z Z ?_
    refine N8 ?_
    exact c4i
   refine J6 (Gh.tl (id:=7) Z) ?_
   refine c8v ?_
   refine r9 (Gh.sub 7 3 np Z Z Z) (b4 ⟨(stQ x),?_,?_,trivial,⟨⟨_,Z,by (first | rfl | (rw [s1 (q:=x) J];exact congrArg (λz=>Row.row _ _ z) (a3W (f:=j5) (x:=⟨1,_,_⟩))) | (rw [u9 (q:=x) J];exact congrArg (λz=>Row.row _ _ z) (a3W (f:=j5) (x:=⟨1,_,_⟩))) | (rw [s1 (q:=x) J];exact congrArg (λz=>Row.row _ _ z true) (List.map_drop).symm) | (rw [u9 (q:=x) J];done) | (rw [u9 (q:=x) J];rfl) | (rw [s1 (q:=x) J];done) | (rw [s1 (q:=x) J];rfl) | (rw [s1 (q:=x) J];exact congrArg (λz=>Row.row _ _ z true) a0H)| (rw [u9 (q:=x) J];exact congrArg (λz=>Row.row _ _ z true) a0H))⟩,Z,Z,⟨⟨_,Z,by (first | rfl | (rw [s1 (q:=x) J];exact congrArg (λz=>Row.row _ _ z) (a3W (f:=j5) (x:=⟨1,_,_⟩))) | (rw [u9 (q:=x) J];exact congrArg (λz=>Row.row _ _ z) (a3W (f:=j5) (x:=⟨1,_,_⟩))) | (rw [s1 (q:=x) J];exact congrArg (λz=>Row.row _ _ z true) (List.map_drop).symm) | (rw [u9 (q:=x) J];done) | (rw [u9 (q:=x) J];rfl) | (rw [s1 (q:=x) J];done) | (rw [s1 (q:=x) J];rfl) | (rw [s1 (q:=x) J];exact congrArg (λz=>Row.row _ _ z true) a0H)| (rw [u9 (q:=x) J];exact congrArg (λz=>Row.row _ _ z true) a0H))⟩,Z,Z,trivial⟩⟩,Z,Z,Z⟩)
   ·exact ⟨hF2,hnx▸hinv.2⟩
   exact hphi
  refine zgn ?_
  refine J6 (Gh.tl (id:=6) Z) ?_
  refine c8v ?_
  refine r9 (Gh.sub 6 3 np Z Z Z) (b4 ⟨(stQ x),?_,?_,trivial,⟨⟨_,Z,by (first | rfl | (rw [s1 (q:=x) J];exact congrArg (λz=>Row.row _ _ z) (a3W (f:=j5) (x:=⟨1,_,_⟩))) | (rw [u9 (q:=x) J];exact congrArg (λz=>Row.row _ _ z) (a3W (f:=j5) (x:=⟨1,_,_⟩))) | (rw [s1 (q:=x) J];exact congrArg (λz=>Row.row _ _ z true) (List.map_drop).symm) | (rw [u9 (q:=x) J];done) | (rw [u9 (q:=x) J];rfl) | (rw [s1 (q:=x) J];done) | (rw [s1 (q:=x) J];rfl) | (rw [s1 (q:=x) J];exact congrArg (λz=>Row.row _ _ z true) a0H)| (rw [u9 (q:=x) J];exact congrArg (λz=>Row.row _ _ z true) a0H))⟩,Z,Z,⟨⟨_,Z,by (first | rfl | (rw [s1 (q:=x) J];exact congrArg (λz=>Row.row _ _ z) (a3W (f:=j5) (x:=⟨1,_,_⟩))) | (rw [u9 (q:=x) J];exact congrArg (λz=>Row.row _ _ z) (a3W (f:=j5) (x:=⟨1,_,_⟩))) | (rw [s1 (q:=x) J];exact congrArg (λz=>Row.row _ _ z true) (List.map_drop).symm) | (rw [u9 (q:=x) J];done) | (rw [u9 (q:=x) J];rfl) | (rw [s1 (q:=x) J];done) | (rw [s1 (q:=x) J];rfl) | (rw [s1 (q:=x) J];exact congrArg (λz=>Row.row _ _ z true) a0H)| (rw [u9 (q:=x) J];exact congrArg (λz=>Row.row _ _ z true) a0H))⟩,Z,Z,trivial⟩⟩,Z,Z,Z⟩)
  ·exact ⟨hF2,hnx▸hinv.2⟩
  exact hphi
 have hd:=b1E h1
 refine zgo ?_
 refine d8 (o8 Z Z Z Z (b3 (c8 Z ?_) (b3 (c8 Z ?_) d9)))
 all_goals ((rw [← hinv.2,hd];done))
theorem a7C (q:Que) (hl:q.sl.length<=1048576) (hw:q.wa.length<=1048576):Ctr Tryz.prog 183 [.agg [.lst 3 (q.sl.map j5),.lst 2 (q.wa.map j9)]] (.shp true [some 2] [.fr 104 3 (q.sl.map j5),.fr 76 2 (q.wa.map j9)]):=by
 refine Ctr.of (n:=12) G Tryz.func183 Z a8 Z Z Z (λw0=>?_)
 exact c8P
end Go.Proofs.YtdhckhjphmjniaaGreatDoor
