/- Texts merged into one: M3, M4, M5. -/
import Derived.Test.YtdhckhjphmjniaaGreatDoorPFnReplayB
set_option maxHeartbeats 4000000
set_option linter.unusedSimpArgs false
set_option linter.unusedVariables false
set_option maxRecDepth 20000
namespace Go.Proofs.YtdhckhjphmjniaaGreatDoor
open Go Go.Rf
theorem a9F (sl:List Slot) (wa:List Wtr) (hl:sl.length<=1048576) (hw:wa.length<=1048576):Ctr Tryz.prog 190 [.lst 3 (sl.map j4),.lst 2 (wa.map j8)] (.one (.v (.bool (a9w ⟨sl,wa⟩)))):=by
 refine Ctr.of (n:=58) G Tryz.func190 Z a8 Z Z Z (λw0=>?_)
 refine zcl (a9E _ Z7) ?_
 refine zcd (λh1=>?_) (λh1=>?_)
 ·exact ws9
 refine zgo ?_
 refine i6 [0,1,10,11] [] (λ(i:Nat)=>[(12,.v (.int .i64 (i:Int)))]) (λ(i:Nat)=>[]) (λ(i:Nat)=>i<=wa.length/\∀j,j < i→oneWa sl wa j=true) (λ(i:Nat)=>wa.length - i) 0 Z Z ?_ ?_ ?_ ?_
 ·exact T5
 ·exact C0
 ·exact trivial
 intro i hinv
 have ht:0 < i→((i:Int) - 1).toNat=i - 1:=λ_=>J
 refine vm2 ?_
 refine zcd (λh2=>?_) (λh2=>?_)
 ·refine a3p ?_
  refine zgd ?_
  refine zcl (a1r _) ?_
  refine zcd (λh3=>?_) (λh3=>?_)
  ·refine zwt ?_
   exact ws9
  refine zcl (a0b _) ?_
  refine zcd (λh4=>?_) (λh4=>?_)
  ·refine zwt ?_
   exact ws9
  refine zcl (I6 sl _ hl) ?_
  refine zcd (λh5=>?_) (λh5=>?_)
  ·refine zwt ?_
   exact ws9
  refine zgo ?_
  refine c8c ?_
  refine zgo ?_
  refine b1M ?_
  refine l8 Z Z (i7 Z (ArgsOK.of (congrArg some (congrArg (λz=>[AV.lst 2 z,.v (.int .i64 (wa.getD i default).q)]) (a2W (xs:=wa) (i:=i))))) (Ctr.eq (a10 (wa.take i) _ n8) (congrArg (λz=>Res.one (.v (.int .i64 z))) (b9L J))) Z) ?_
  refine zcd (λh6=>?_) (λh6=>?_)
  ·refine zwt ?_
   exact ws9
  refine zcd (λh7=>?_) (λh7=>?_)
  ·refine zcl (C5 _ _) ?_
   refine zcd (λh8=>?_) (λh8=>?_)
   ·exact ws9
   refine zgo ?_
   refine ⟨(i+1),?_,?_,⟨⟨_,Z,by rfl⟩,Z,trivial⟩,trivial,Z,Z,Z⟩
   ·exact d0X
   omega
  refine zwf ?_
  refine zgo ?_
  refine ⟨(i+1),?_,?_,⟨⟨_,Z,by rfl⟩,Z,trivial⟩,trivial,Z,Z,Z⟩
  ·exact d0X
  omega
 refine zf1 ?_
 all_goals exact c4m
theorem a8X (sl:List Slot) (wa:List Wtr) (hl:sl.length<=1048576) (hw:wa.length<=1048576):Ctr Tryz.prog 211 [.lst 3 (sl.map j4),.lst 2 (wa.map j8)] (.one (.v (.bool (a9w ⟨sl,wa⟩)))):=by
 refine Ctr.of (n:=81) G Tryz.func211 Z a8 Z Z Z (λw0=>?_)
 refine zgo ?_
 refine i6 [0,1] [] (λ(i:Nat)=>[(5,.v (.int .i64 (i:Int)))]) (λ(i:Nat)=>[]) (λ(i:Nat)=>i<=wa.length/\∀j,j < i→oneWa sl wa j=true) (λ(i:Nat)=>wa.length - i) 0 Z Z ?_ ?_ ?_ ?_
 ·exact T5
 ·exact C0
 ·exact trivial
 intro i hinv
 have ht:0 < i→((i:Int) - 1).toNat=i - 1:=λ_=>J
 refine vm2 ?_
 refine zcd (λh1=>?_) (λh1=>?_)
 ·refine zcd (λh2=>?_) (λh2=>?_)
  ·refine a3p ?_
   refine zcl (a1s _) ?_
   refine zcd (λh3=>?_) (λh3=>?_)
   ·refine zwt ?_
    exact ws5
   refine zcl (a0J _) ?_
   refine zcd (λh4=>?_) (λh4=>?_)
   ·refine zwt ?_
    exact ws5
   refine zcl (H3 sl _ hl) ?_
   refine zcd (λh5=>?_) (λh5=>?_)
   ·exact ws5
   refine zgd ?_
   refine zcd (λh6=>?_) (λh6=>?_)
   ·refine zcl (U7 _ _ _ _) ?_
    refine zcd (λh7=>?_) (λh7=>?_)
    ·exact ws5
    refine zgo ?_
    refine i6 [0,1,5,6] [0] (λ(k:Nat)=>[(7,.v (.int .i64 (k:Int)))]) (λ(k:Nat)=>[]) (λ(k:Nat)=>k<=i/\∀j,j < k→(wa.getD j default).q≠(wa.getD i default).q) (λ(k:Nat)=>i - k) 0 Z Z ?_ ?_ ?_ ?_
    ·exact T5
    ·exact C0
    ·exact trivial
    intro k hk
    refine vm2 ?_
    refine zcd (λh8=>?_) (λh8=>?_)
    ·refine zgd ?_
     refine zcd (λh9=>?_) (λh9=>?_)
     ·exact ws5
     exact c5o
    refine zgo ?_
    refine ⟨(i+1),?_,?_,⟨⟨_,Z,by rfl⟩,Z,trivial⟩,trivial,Z,Z,Z⟩
    ·exact c5b
    omega
   refine zwf ?_
   refine zgo ?_
   refine i6 [0,1,5,6] [0] (λ(k:Nat)=>[(7,.v (.int .i64 (k:Int)))]) (λ(k:Nat)=>[]) (λ(k:Nat)=>k<=i/\∀j,j < k→(wa.getD j default).q≠(wa.getD i default).q) (λ(k:Nat)=>i - k) 0 Z Z ?_ ?_ ?_ ?_
   ·exact T5
   ·exact C0
   ·exact trivial
   intro k hk
   refine vm2 ?_
   refine zcd (λh10=>?_) (λh10=>?_)
   ·refine zgd ?_
    refine zcd (λh11=>?_) (λh11=>?_)
    ·exact ws5
    exact c5o
   refine zgo ?_
   refine ⟨(i+1),?_,?_,⟨⟨_,Z,by rfl⟩,Z,trivial⟩,trivial,Z,Z,Z⟩
   ·exact c5b
   omega
  refine zcl (a6e sl hl) ?_
  refine zcd (λh12=>?_) (λh12=>?_)
  ·exact ws5
  exact ws5
 refine zwf ?_
 refine zcl (a6e sl hl) ?_
 refine zcd (λh13=>?_) (λh13=>?_)
 ·exact ws5
 refine zf1 ?_
 all_goals exact c9Z
theorem a3s (q:Que) (hl:q.sl.length<=1048576) (hw:q.wa.length<=1048576) (hd:b9D q.sl):Ctr Tryz.prog 191 [.agg [.lst 3 (q.sl.map j4),.lst 2 (q.wa.map j8)]] (.one (.v (.bool (setd q)))):=by
 have hbb:=@a1o q.sl false
 refine Ctr.of (n:=33) G Tryz.func191 Z a8 Z Z Z (λw0=>?_)
 refine n9 0 Z (λ_=>Z) (λu0=>?_)
 refine vm1 ?_
 refine zcd (λh1=>?_) (λh1=>?_)
 ·exact b5s
 refine zcl (X0 q.sl false hl hd) ?_
 refine zgd ?_
 refine zcl (a2s q.sl hl) ?_
 refine zcd (λh2=>?_) (λh2=>?_)
 ·refine zcd (λh3=>?_) (λh3=>?_)
  ·exact b5s
  refine zcl (F7 _) ?_
  refine zcl (C5 _ _) ?_
  exact b5s
 exact b5s
theorem a3t (q:Que) (hl:q.sl.length<=1048576) (hw:q.wa.length<=1048576):Ctr Tryz.prog 212 [.agg [.lst 3 (q.sl.map j4),.lst 2 (q.wa.map j8)]] (.one (.v (.bool (setd q)))):=by
 have hbb:=@a1o q.sl false
 refine Ctr.of (n:=42) G Tryz.func212 Z a8 Z Z Z (λw0=>?_)
 refine n9 0 Z (λ_=>Z) (λu0=>?_)
 refine vm1 ?_
 refine zcd (λh1=>?_) (λh1=>?_)
 ·exact b5s
 refine zcl (a2N q.sl hl) ?_
 refine zcd (λh2=>?_) (λh2=>?_)
 ·exact b5s
 refine zcl (a4e q.sl hl) ?_
 refine zgd ?_
 refine zcd (λh3=>?_) (λh3=>?_)
 ·exact b5s
 refine zcl (U7 _ _ _ _) ?_
 exact b5s
theorem b1m (q:Que) (hl:q.sl.length<=1048576) (hw:q.wa.length<=1048576):Ctr Tryz.prog 135 [.agg [.lst 3 (q.sl.map j4),.lst 2 (q.wa.map j8)]] (.one (.v (.bool (b1I q)))):=by
 refine Ctr.of (n:=12) G Tryz.func135 Z a8 Z Z Z (λw0=>?_)
 refine n9 0 Z (λ_=>Z) (λu0=>?_)
 refine vm1 ?_
 refine zcl (a9F q.sl q.wa hl hw) ?_
 refine zcd (λh1=>?_) (λh1=>?_)
 ·have hpf:=paF.mp h1
  refine zcl (a3s q hl hw hpf.sl.difS) ?_
  exact c3E
 exact c3E
theorem b1O (q:Que) (hl:q.sl.length<=1048576) (hw:q.wa.length<=1048576):Ctr Tryz.prog 159 [.agg [.lst 3 (q.sl.map j4),.lst 2 (q.wa.map j8)]] (.one (.v (.bool (b1I q)))):=by
 refine Ctr.of (n:=12) G Tryz.func159 Z a8 Z Z Z (λw0=>?_)
 refine n9 0 Z (λ_=>Z) (λu0=>?_)
 refine vm1 ?_
 refine zcl (a8X q.sl q.wa hl hw) ?_
 refine zcd (λh1=>?_) (λh1=>?_)
 ·refine zcl (a3t q hl hw) ?_
  exact c3E
 exact c3E
theorem a9G (q:Que) (hl:q.sl.length<=1048576) (hw:q.wa.length<=1048576):Ctr Tryz.prog 170 [.agg [.lst 3 (q.sl.map j4),.lst 2 (q.wa.map j8)]] (.shp true [some 2] [.fr 104 3 (q.sl.map j4),.fr 76 2 (q.wa.map j8) true]):=by
 exact c50
theorem P8 (xs:List Wtr) (v:Wtr) (i:Nat) (hi:i<=xs.length) (hl:xs.length<=100000):CtrM Tryz.prog 301 [.own 0,.v (.int .i64 (i:Int)),.own 1] [.row 76 2 (xs.map j8),.row 76 2 [j8 v]] (.one (.fr 76 2 ((xs.take i++[v]++xs.drop i).map j8))) [none,some (.row 76 2 [j8 v])]:=by
 refine CtrM.of (n:=95) (k:=2) G Tryz.func301 Z a8 Z Z Z Z Z Z Z (λw0 _ hpin=>?_)
 refine zgn ?_
 refine a4j ?_
 refine a3q ?_
 refine r6 ?_
 refine c8i ?_
 refine d0e ?_
 refine l1 Z (λh1=>?_) (λh1=>?_)
 ·try rw [h1]
  try simp only [rfb] at h1
  exact absurd h1 (by decide)
 try rw [h1]
 try simp only [rfb] at h1
 refine d0e ?_
 refine l1 Z (λh2=>?_) (λh2=>?_)
 ·try rw [h2]
  try simp only [rfb] at h2
  refine a4j ?_
  refine a3q ?_
  refine r6 ?_
  refine a06 (tx:=23) 3 Z Z Z Z Z<|l2 G B6 rfl rfl rfl rfl rfl rfl rfl rfl rfl (by simp only [List.length_map,List.length_cons,List.length_nil];omega) rfl rfl ?_
  exact d0w
 try rw [h2]
 try simp only [rfb] at h2
 refine zgn ?_
 refine t8 ?_
 refine a4j ?_
 refine a3q ?_
 refine vm7 ?_
 refine zst ?_
 refine a7 Z (c6w G Z Z Z Z Z Z w9 (λgs hgs hall=>?_))
 simp only [List.length_map] at hgs
 refine zgn ?_
 refine l1 Z (λh3=>?_) (λh3=>?_)
 ·try rw [h3]
  try simp only [rfb] at h3
  try simp only [List.length_map] at h3
  refine a4j ?_
  refine a3q ?_
  refine vm5 ?_
  refine a3q ?_
  refine vm7 ?_
  refine zst ?_
  refine vm7 ?_
  refine r6 ?_
  refine b4J (k:=(xs.length+1 - i)) G 3 Z Z Z Z Z Z Z Z Z w9 w9 w9 w9 w9 w9 (λc hc=>(hall c hc).2) w9 ?_
  refine zgn ?_
  refine a4j ?_
  refine a3q ?_
  refine r6 ?_
  refine c8i ?_
  refine zst ?_
  refine r6 ?_
  refine a9i G Z Z Z Z Z Z Z (SrcOK.of (vs:=[j8 v]) c1o (ArgOK.of Z) (by decide)) (by intro c hc;rw [List.mem_singleton.1 hc];exact ⟨Z,b0W v⟩) w9 w9 w9 ?_
  refine zgn ?_
  refine t8 (j7 9 [0,1] mixed a8 Z Z (λr0=>?_) (λ_ h=>h))
  refine d0c ?_
  refine c8 7 Z a8 a8 Z Z Z Z (a0P G Z Z Z Z Z Z w9 w9 w9 w9) (b7 (rs:=[4]) a8 Z (AllB.cons ?_ AllB.nil))
  refine g9 [0,1] Z Z (b5 Z Z (a2U G Z Z Z Z Z Z J b2S b2S) (b4 ⟨Z,?_⟩))
  refine b7 (rs:=[8]) a8 Z (AllB.cons ?_ AllB.nil)
  refine g9 [0,1] Z Z (a9i G Z Z Z Z Z Z Z (SrcOK.spare Z w9) (λc hc=>hall c (List.mem_of_mem_drop (List.mem_of_mem_take hc))) w9 w9 w9 (b4 ⟨Z,?_⟩))
  refine H8 ?_
  exact d0w
 try rw [h3]
 try simp only [rfb] at h3
 try simp only [List.length_map] at h3
 refine zgn ?_
 refine t8 ?_
 refine a3o ?_
 refine vm7 ?_
 refine r6 ?_
 refine b5S (N:=(xs.length+1)) G 3 Z Z Z Z Z Z Z Z w9 w9 w9 ?_
 refine zgn ?_
 refine t8 ?_
 refine a4j ?_
 iterate 4 refine zst ?_
 refine vm7 ?_
 refine vm5 ?_
 refine r6 ?_
 refine b5 Z Z (b5T (tr:=4) (t:=70) G Tryz.func302 a8 a8 a8 a8 Z Z Z Z w9 Z Z Z w9 (by decide) w9) ?_
 refine zgn ?_
 refine M8 Z (t8 ?_)
 apply C4 [0,1,2] [1,2] 3 9 [1] mixed a8 Z Z (λ_ h=>znk h)
 ·intro r0
  refine d0c ?_
  refine b7 (rs:=[4,7]) a8 Z (AllB.cons ?_ (AllB.cons ?_ AllB.nil))
  ·refine g9 [1] Z Z (b5 Z Z (a0P G Z Z Z Z Z Z w9 w9 w9 w9) (b4 ⟨Z,?_⟩))
   refine b7 (rs:=[7]) a8 Z (AllB.cons ?_ AllB.nil)
   exact d0o
  refine g9 [1] Z Z (b5 Z Z (a0P G Z Z Z Z Z Z w9 w9 w9 w9) (b4 ⟨Z,?_⟩))
  refine b7 (rs:=[4]) a8 Z (AllB.cons ?_ AllB.nil)
  exact d0o
 refine a4j ?_
 refine a3q ?_
 refine vm5 ?_
 refine zst ?_
 refine r6 ?_
 refine a55 G Z Z Z Z Z Z Z (vs:=[j8 v]) (SrcOK.of (vs:=[j8 v]) c1o (ArgOK.of Z) (by decide)) (L:=1) c4Q Z (by intro c hc;rw [List.mem_singleton.1 hc];exact b0W v) c1o w9 w9 ?_
 refine zgn ?_
 refine zgn ?_
 have ht1:((i:Int)+1).toNat=i+1:=by omega
 refine c8Z (id:=2) Z (c81 (L0:=(xs.take i++[v]++xs.drop i).map j8) (by (rw [show xs.length+1=(xs.map j8).length+1 from by rw [List.length_map]];simp only [Int.toNat_natCast,ht1,Int.toNat_zero,List.length_drop,List.length_cons,List.length_nil,Nat.zero_add,List.map_append,List.map_take,List.map_drop,List.map_cons,List.map_nil,Nat.sub_zero];exact b4K (by rw [List.length_map];exact hi) J)) (λc hc=>(by obtain ⟨x,_,rfl⟩:=List.mem_map.1 hc;exact b0W x))) (d7 (o9 Z (c7 Z ?_) Z (AftOK.gone (AftOK.stays Z ?_ Z AftOK.nil))))
 all_goals exact c4r
theorem a2o (wa:List Wtr) (w:Wtr) (hw:wa.length<=100000):Ctr Tryz.prog 297 [.lst 2 (wa.map j8),.v (a56 w)] (.one (.fr 76 2 ((insW wa w).map j8))):=by
 refine Ctr.of (n:=28) G Tryz.func297 Z a8 Z Z Z (λw0=>?_)
 refine vm1 ?_
 refine zgo ?_
 refine i6 [0,3] [0] (λ(i:Nat)=>[(5,.v (.int .i64 (i:Int)))]) (λ(i:Nat)=>[]) (λ(i:Nat)=>i<=wa.length/\∀j,j < i→lessW (wa.getD j default) w=true) (λ(i:Nat)=>wa.length - i) 0 Z Z ?_ ?_ ?_ ?_
 ·exact T5
 ·exact C0
 ·exact trivial
 intro i hinv
 refine vm2 ?_
 refine zgd ?_
 refine zcd (λh1=>?_) (λh1=>?_)
 ·refine zcl (C5 _ _) ?_
  refine zcd (λh2=>?_) (λh2=>?_)
  ·exact c5h
  refine zgo ?_
  apply C4 [4] [3] 4 8 [0] mixed a8 Z Z (λ_ h=>znk h)
  ·exact d0r
  refine zfo ?_
  all_goals exact c4F
 refine zwf ?_
 refine zgo ?_
 apply C4 [4] [3] 4 8 [0] mixed a8 Z Z (λ_ h=>znk h)
 ·exact d0r
 refine zfo ?_
 all_goals exact c4F
theorem a2M (wa:List Wtr) (w:Wtr) (hw:wa.length<=100000):Ctr Tryz.prog 236 [.lst 2 (wa.map j8),.v (a56 w)] (.one (.fr 76 2 ((insW wa w).map j8))):=by
 refine Ctr.of (n:=41) G Tryz.func236 Z a8 Z Z Z (λw0=>?_)
 refine vm1 ?_
 refine zgo ?_
 refine i6 [0,3] [0] (λ(i:Nat)=>[(5,.v (.int .i64 (i:Int)))]) (λ(i:Nat)=>[]) (λ(i:Nat)=>i<=wa.length/\∀j,j < i→lessW (wa.getD j default) w=true) (λ(i:Nat)=>wa.length - i) 0 Z Z ?_ ?_ ?_ ?_
 ·exact T5
 ·exact C0
 ·exact trivial
 intro i hinv
 refine vm2 ?_
 refine zgd ?_
 refine zcd (λh1=>?_) (λh1=>?_)
 ·refine zcl (U7 _ _ _ _) ?_
  refine zcd (λh2=>?_) (λh2=>?_)
  ·exact c5h
  refine zgo ?_
  apply C4 [4] [1] 3 13 [0] mixed a8 Z Z (λ_ h=>znk h)
  ·exact d0k
  refine zfo ?_
  all_goals exact c4G
 refine zwf ?_
 refine zgo ?_
 apply C4 [4] [1] 3 13 [0] mixed a8 Z Z (λ_ h=>znk h)
 ·exact d0k
 refine zfo ?_
 all_goals exact c4G
theorem a1V (q:Que) (hF:QF q):Ctr Tryz.prog 282 [.agg [.lst 3 (q.sl.map j4),.lst 2 (q.wa.map j8)]] (.shp true [some 2] [.fr 104 3 ((a14 q).sl.map j4),.fr 76 2 ((a14 q).wa.map j8) true]):=by
 have hq4:=hF.sl.len
 have hqw:=hF.wn
 refine Ctr.of (n:=47) G Tryz.func282 Z a8 Z Z Z (λw0=>?_)
 refine n9 0 Z (λ_=>Z) (λu0=>?_)
 refine vm1 ?_
 refine vm9 ?_
 refine vm3 ?_
 refine d3 4 Z Z Z (ArgsOK.of Z) (a9G q J J) Z Z ?_
 refine r6 ?_
 refine b8T ?_
 refine zgo ?_
 refine i6 [2,3] [1,4] (λ(x:Que)=>[]) (λ(x:Que)=>[(2,some (.row 104 3 (x.sl.map j4))),(3,some (.row 76 2 (x.wa.map j8) true))]) (λ(x:Que)=>QF x/\a14 x=a14 q) (λ(x:Que)=>phi x) q Z Z ?_ ?_ ?_ ?_
 ·exact ⟨hF,Z⟩
 ·exact trivial
 ·exact b5t
 intro x hinv
 have hFx:=hinv.1
 have hl4:=hFx.sl.len
 have hwn:=hFx.wn
 have hf:=@b55 x.sl
 have hb:=@a1o x.sl false
 refine vm2 ?_
 refine zcl (a3s x J J hFx.sl.difS) ?_
 refine zcd (λh1=>?_) (λh1=>?_)
 ·obtain ⟨hw0,hbb⟩:=b7a hFx h1
  have hnx:=b2o hFx h1
  obtain ⟨hF2,hphi⟩:=b0Y hFx h1
  refine zgn ?_
  refine p8 (t8 (j7 10 [1,2,3,4] mixed a8 Z Z (λr0=>?_) (λ_ h=>h)))
  refine zsa 0 ?_
  refine zsa 1 ?_
  first | refine c8 2 Z a8 a8 Z Z Z Z (d1 G Z Z Z Z Z J J) ?_ | refine c8 2 Z a8 a8 Z Z Z Z (d1 G Z Z Z Z Z J n8) ?_
  first | refine c8 3 Z a8 a8 Z Z Z Z (f8 G Z Z Z Z (a2z J) Z) ?_ | refine c8 3 Z a8 a8 Z Z Z Z (f8 G Z Z Z Z (H1 J J) Z) ?_ | refine c8 3 Z a8 a8 Z Z Z Z (f8 G Z Z Z Z (C3 J J) Z) ?_ | refine c8 3 Z a8 a8 Z Z Z Z (f8 G Z Z Z Z (C3 J n8) Z) ?_
  refine zsa 4 ?_
  refine zsa 5 ?_
  refine A7 (N:=6) Z (s8 (fuel:=3) [⟨7,4,5,true,.box (avR [.int .i64 0,.int .i64 0] [])⟩] (AllVOK.cons (VOK.boxS G Z Z Z Z Z) (AllVOK.nil)) (λhok=>?_))
  refine m6 [(6,[])] a8 a8 (λe he=>hok e he) a8 (AllVS.cons ?_ AllVS.nil)
  refine VStep.mk0 [1,2,3,4] Z Z (λb1 _ hbn=>b5 Z Z (i7 Z (ArgsOK.of Z) (a2s x.sl J) Z) (b4 Z)) a8 a8 a8 a8 (m6 [(8,[7])] a8 a8 (λe he=>hok e he) a8 (AllVS.cons ?_ AllVS.nil))
  refine VStep.mk1 [1,2,3,4] 4 (.ptr 5 0) 5 (.box (avR [.int .i64 0,.int .i64 0] [])) [] Z Z Z Z Z (λb1 _ hbn=>f6 G Z Z Z Z Z Z Z Z Z Z Z (b4 Z)) a8 a8 a8 a8 (E1 ?_)
  clear hok
  refine zsa 9 ?_
  refine H8 ?_
  refine vm3 ?_
  refine c2p G 7 Z Z Z Z Z Z Z Z w9 w9 ?_
  refine zcd (λh2=>?_) (λh2=>?_)
  ·refine zcl (X0 x.sl false J hFx.sl.difS) ?_
   refine zgo ?_
   apply C4 [2,3,4,5] [1,2,4,5,7] 8 11 [1,2,5,6] mixed a8 Z Z (λ_ h=>znk h)
   ·intro r0
    refine zsa 0 ?_
    refine zsa 2 ?_
    refine zsa 4 ?_
    refine b7 (rs:=[1,3]) a8 Z (AllB.cons ?_ (AllB.cons ?_ AllB.nil))
    ·refine g9 [1,2,5,6] Z Z ?_
     refine R9 ?_
     refine b7 (rs:=[3]) a8 Z (AllB.cons ?_ AllB.nil)
     refine c90 ?_
     exact c6g
    refine c90 ?_
    refine b7 (rs:=[1,7]) a8 Z (AllB.cons ?_ (AllB.cons ?_ AllB.nil))
    ·refine g9 [1,2,5,6] Z Z ?_
     refine R9 ?_
     exact c6g
    refine g9 [1,2,5,6] Z Z (b5 Z Z (i7 Z (ArgsOK.of Z) (F7 _) Z) (b4 ⟨Z,?_⟩))
    refine b7 (rs:=[1]) a8 Z (AllB.cons ?_ AllB.nil)
    refine g9 [1,2,5,6] Z Z ?_
    refine R9 ?_
    exact c5I
   refine O6 (Gh.tl (id:=7) Z) ?_
   refine c93 ?_
   refine r4 (Gh.sub 7 3 np Z Z Z) (b4 ⟨(stQ x),?_,?_,trivial,⟨⟨_,Z,by (first | rfl | (rw [s7 (q:=x) J];exact congrArg (λz=>Row.row _ _ z) (a4i (f:=j4) (x:=⟨1,_,_⟩))) | (rw [v8 (q:=x) J];exact congrArg (λz=>Row.row _ _ z) (a4i (f:=j4) (x:=⟨1,_,_⟩))) | (rw [s7 (q:=x) J];exact congrArg (λz=>Row.row _ _ z true) (List.map_drop).symm) | (rw [v8 (q:=x) J];done) | (rw [v8 (q:=x) J];rfl) | (rw [s7 (q:=x) J];done) | (rw [s7 (q:=x) J];rfl) | (rw [s7 (q:=x) J];exact congrArg (λz=>Row.row _ _ z true) a00)| (rw [v8 (q:=x) J];exact congrArg (λz=>Row.row _ _ z true) a00))⟩,Z,Z,⟨⟨_,Z,by (first | rfl | (rw [s7 (q:=x) J];exact congrArg (λz=>Row.row _ _ z) (a4i (f:=j4) (x:=⟨1,_,_⟩))) | (rw [v8 (q:=x) J];exact congrArg (λz=>Row.row _ _ z) (a4i (f:=j4) (x:=⟨1,_,_⟩))) | (rw [s7 (q:=x) J];exact congrArg (λz=>Row.row _ _ z true) (List.map_drop).symm) | (rw [v8 (q:=x) J];done) | (rw [v8 (q:=x) J];rfl) | (rw [s7 (q:=x) J];done) | (rw [s7 (q:=x) J];rfl) | (rw [s7 (q:=x) J];exact congrArg (λz=>Row.row _ _ z true) a00)| (rw [v8 (q:=x) J];exact congrArg (λz=>Row.row _ _ z true) a00))⟩,Z,Z,trivial⟩⟩,Z,Z,Z⟩)
   ·exact ⟨hF2,hnx▸hinv.2⟩
   exact hphi
  refine zgn ?_
  refine O6 (Gh.tl (id:=6) Z) ?_
  refine c93 ?_
  refine r4 (Gh.sub 6 3 np Z Z Z) (b4 ⟨(stQ x),?_,?_,trivial,⟨⟨_,Z,by (first | rfl | (rw [s7 (q:=x) J];exact congrArg (λz=>Row.row _ _ z) (a4i (f:=j4) (x:=⟨1,_,_⟩))) | (rw [v8 (q:=x) J];exact congrArg (λz=>Row.row _ _ z) (a4i (f:=j4) (x:=⟨1,_,_⟩))) | (rw [s7 (q:=x) J];exact congrArg (λz=>Row.row _ _ z true) (List.map_drop).symm) | (rw [v8 (q:=x) J];done) | (rw [v8 (q:=x) J];rfl) | (rw [s7 (q:=x) J];done) | (rw [s7 (q:=x) J];rfl) | (rw [s7 (q:=x) J];exact congrArg (λz=>Row.row _ _ z true) a00)| (rw [v8 (q:=x) J];exact congrArg (λz=>Row.row _ _ z true) a00))⟩,Z,Z,⟨⟨_,Z,by (first | rfl | (rw [s7 (q:=x) J];exact congrArg (λz=>Row.row _ _ z) (a4i (f:=j4) (x:=⟨1,_,_⟩))) | (rw [v8 (q:=x) J];exact congrArg (λz=>Row.row _ _ z) (a4i (f:=j4) (x:=⟨1,_,_⟩))) | (rw [s7 (q:=x) J];exact congrArg (λz=>Row.row _ _ z true) (List.map_drop).symm) | (rw [v8 (q:=x) J];done) | (rw [v8 (q:=x) J];rfl) | (rw [s7 (q:=x) J];done) | (rw [s7 (q:=x) J];rfl) | (rw [s7 (q:=x) J];exact congrArg (λz=>Row.row _ _ z true) a00)| (rw [v8 (q:=x) J];exact congrArg (λz=>Row.row _ _ z true) a00))⟩,Z,Z,trivial⟩⟩,Z,Z,Z⟩)
  ·exact ⟨hF2,hnx▸hinv.2⟩
  exact hphi
 have hd:=b2p h1
 refine zgo ?_
 refine d7 (p7 Z Z Z Z (b3 (c7 Z ?_) (b3 (c7 Z ?_) d9)))
 all_goals ((rw [← hinv.2,hd];done))
theorem a8c (q:Que) (hl:q.sl.length<=1048576) (hw:q.wa.length<=1048576):Ctr Tryz.prog 183 [.agg [.lst 3 (q.sl.map j4),.lst 2 (q.wa.map j8)]] (.shp true [some 2] [.fr 104 3 (q.sl.map j4),.fr 76 2 (q.wa.map j8)]):=by
 refine Ctr.of (n:=12) G Tryz.func183 Z a8 Z Z Z (λw0=>?_)
 exact d0m
end Go.Proofs.YtdhckhjphmjniaaGreatDoor
