/- Texts merged into one: M3, M4, M5. -/
import Derived.Test.YtcnodpipinlpcaaGreatPFnRefinementB
set_option maxHeartbeats 4000000
set_option linter.unusedSimpArgs false
set_option linter.unusedVariables false
set_option maxRecDepth 20000
namespace Go.Proofs.YtcnodpipinlpcaaGreat
open Go Go.Rf
theorem a6R (sl:List Slot) (wa:List Wtr) (hl:sl.length<=1048576) (hw:wa.length<=1048576):Ctr Tryz.prog 208 [.lst 3 (sl.map f9),.lst 2 (wa.map i5)] (.one (.v (.bool (a6L ⟨sl,wa⟩)))):=by
 refine Ctr.of (n:=58) G Tryz.func208 Z a6 Z Z Z (λw0=>?_)
 refine zcl (a6Q _ a9b) ?_
 refine zcd (λh1=>?_) (λh1=>?_)
 ·exact b4g
 refine zgo ?_
 refine f6 [0,1,10,11] [] (λ(i:Nat)=>[(12,.v (.int .i64 (i:Int)))]) (λ(i:Nat)=>[]) (λ(i:Nat)=>i<=wa.length/\∀j,j < i→oneWa sl wa j=true) (λ(i:Nat)=>wa.length - i) 0 Z Z ?_ ?_ ?_ ?_
 ·exact P3
 ·exact u3
 ·exact trivial
 intro i hinv
 have ht:0 < i→((i:Int) - 1).toNat=i - 1:=λ_=>J
 refine vm2 ?_
 refine zcd (λh2=>?_) (λh2=>?_)
 ·refine a0G ?_
  refine zgd ?_
  refine zcl (N5 _) ?_
  refine zcd (λh3=>?_) (λh3=>?_)
  ·refine zwt ?_
   exact b4g
  refine zcl (R9 _) ?_
  refine zcd (λh4=>?_) (λh4=>?_)
  ·refine zwt ?_
   exact b4g
  refine zcl (E4 sl _ hl) ?_
  refine zcd (λh5=>?_) (λh5=>?_)
  ·refine zwt ?_
   exact b4g
  refine zgo ?_
  refine c12 ?_
  refine zgo ?_
  refine a2j ?_
  refine r9 Z Z (l9 Z (ArgsOK.of (congrArg some (congrArg (λz=>[AV.lst 2 z,.v (.int .i64 (wa.getD i default).q)]) (a1t (xs:=wa) (i:=i))))) (Ctr.eq (a0x (wa.take i) _ g0) (congrArg (λz=>Res.one (.v (.int .i64 z))) (b40 J))) Z) ?_
  refine zcd (λh6=>?_) (λh6=>?_)
  ·refine zwt ?_
   exact b4g
  refine zcd (λh7=>?_) (λh7=>?_)
  ·refine zcl (y6 _ _) ?_
   refine zcd (λh8=>?_) (λh8=>?_)
   ·exact b4g
   refine zgo ?_
   refine ⟨(i+1),?_,?_,⟨⟨_,Z,by rfl⟩,Z,trivial⟩,trivial,Z,Z,Z⟩
   ·exact c4d
   omega
  refine zwf ?_
  refine zgo ?_
  refine ⟨(i+1),?_,?_,⟨⟨_,Z,by rfl⟩,Z,trivial⟩,trivial,Z,Z,Z⟩
  ·exact c4d
  omega
 refine zf1 ?_
 all_goals exact b8E
theorem a6a (sl:List Slot) (wa:List Wtr) (hl:sl.length<=1048576) (hw:wa.length<=1048576):Ctr Tryz.prog 232 [.lst 3 (sl.map f9),.lst 2 (wa.map i5)] (.one (.v (.bool (a6L ⟨sl,wa⟩)))):=by
 refine Ctr.of (n:=81) G Tryz.func232 Z a6 Z Z Z (λw0=>?_)
 refine zgo ?_
 refine f6 [0,1] [] (λ(i:Nat)=>[(5,.v (.int .i64 (i:Int)))]) (λ(i:Nat)=>[]) (λ(i:Nat)=>i<=wa.length/\∀j,j < i→oneWa sl wa j=true) (λ(i:Nat)=>wa.length - i) 0 Z Z ?_ ?_ ?_ ?_
 ·exact P3
 ·exact u3
 ·exact trivial
 intro i hinv
 have ht:0 < i→((i:Int) - 1).toNat=i - 1:=λ_=>J
 refine vm2 ?_
 refine zcd (λh1=>?_) (λh1=>?_)
 ·refine zcd (λh2=>?_) (λh2=>?_)
  ·refine a0G ?_
   refine zcl (R8 _) ?_
   refine zcd (λh3=>?_) (λh3=>?_)
   ·refine zwt ?_
    exact ws7
   refine zcl (U9 _) ?_
   refine zcd (λh4=>?_) (λh4=>?_)
   ·refine zwt ?_
    exact ws7
   refine zcl (B5 sl _ hl) ?_
   refine zcd (λh5=>?_) (λh5=>?_)
   ·exact ws7
   refine zgd ?_
   refine zcd (λh6=>?_) (λh6=>?_)
   ·refine zcl (O6 _ _ _ _) ?_
    refine zcd (λh7=>?_) (λh7=>?_)
    ·exact ws7
    refine zgo ?_
    refine f6 [0,1,5,6] [0] (λ(k:Nat)=>[(7,.v (.int .i64 (k:Int)))]) (λ(k:Nat)=>[]) (λ(k:Nat)=>k<=i/\∀j,j < k→(wa.getD j default).q≠(wa.getD i default).q) (λ(k:Nat)=>i - k) 0 Z Z ?_ ?_ ?_ ?_
    ·exact P3
    ·exact u3
    ·exact trivial
    intro k hk
    refine vm2 ?_
    refine zcd (λh8=>?_) (λh8=>?_)
    ·refine zgd ?_
     refine zcd (λh9=>?_) (λh9=>?_)
     ·exact ws7
     exact b9P
    refine zgo ?_
    refine ⟨(i+1),?_,?_,⟨⟨_,Z,by rfl⟩,Z,trivial⟩,trivial,Z,Z,Z⟩
    ·exact b9E
    omega
   refine zwf ?_
   refine zgo ?_
   refine f6 [0,1,5,6] [0] (λ(k:Nat)=>[(7,.v (.int .i64 (k:Int)))]) (λ(k:Nat)=>[]) (λ(k:Nat)=>k<=i/\∀j,j < k→(wa.getD j default).q≠(wa.getD i default).q) (λ(k:Nat)=>i - k) 0 Z Z ?_ ?_ ?_ ?_
   ·exact P3
   ·exact u3
   ·exact trivial
   intro k hk
   refine vm2 ?_
   refine zcd (λh10=>?_) (λh10=>?_)
   ·refine zgd ?_
    refine zcd (λh11=>?_) (λh11=>?_)
    ·exact ws7
    exact b9P
   refine zgo ?_
   refine ⟨(i+1),?_,?_,⟨⟨_,Z,by rfl⟩,Z,trivial⟩,trivial,Z,Z,Z⟩
   ·exact b9E
   omega
  refine zcl (a35 sl hl) ?_
  refine zcd (λh12=>?_) (λh12=>?_)
  ·exact ws7
  exact ws7
 refine zwf ?_
 refine zcl (a35 sl hl) ?_
 refine zcd (λh13=>?_) (λh13=>?_)
 ·exact ws7
 refine zf1 ?_
 all_goals exact b8B
theorem a1P (q:Que) (hl:q.sl.length<=1048576) (hw:q.wa.length<=1048576) (hd:b4S q.sl):Ctr Tryz.prog 209 [.agg [.lst 3 (q.sl.map f9),.lst 2 (q.wa.map i5)]] (.one (.v (.bool (setd q)))):=by
 have hbb:=@Z1 q.sl false
 refine Ctr.of (n:=33) G Tryz.func209 Z a6 Z Z Z (λw0=>?_)
 refine j8 0 Z (λ_=>Z) (λu0=>?_)
 refine w8 ?_
 refine zcd (λh1=>?_) (λh1=>?_)
 ·exact b1m
 refine zcl (P5 q.sl false hl hd) ?_
 refine zgd ?_
 refine zcl (a02 q.sl hl) ?_
 refine zcd (λh2=>?_) (λh2=>?_)
 ·refine zcd (λh3=>?_) (λh3=>?_)
  ·exact b1m
  refine zcl (B0 _) ?_
  refine zcl (y6 _ _) ?_
  exact b1m
 exact b1m
theorem a1Q (q:Que) (hl:q.sl.length<=1048576) (hw:q.wa.length<=1048576):Ctr Tryz.prog 219 [.agg [.lst 3 (q.sl.map f9),.lst 2 (q.wa.map i5)]] (.one (.v (.bool (setd q)))):=by
 have hbb:=@Z1 q.sl false
 refine Ctr.of (n:=42) G Tryz.func219 Z a6 Z Z Z (λw0=>?_)
 refine j8 0 Z (λ_=>Z) (λu0=>?_)
 refine w8 ?_
 refine zcd (λh1=>?_) (λh1=>?_)
 ·exact b1m
 refine zcl (a1l q.sl hl) ?_
 refine zcd (λh2=>?_) (λh2=>?_)
 ·exact b1m
 refine zcl (a2u q.sl hl) ?_
 refine zgd ?_
 refine zcd (λh3=>?_) (λh3=>?_)
 ·exact b1m
 refine zcl (O6 _ _ _ _) ?_
 exact b1m
theorem a76 (q:Que) (hl:q.sl.length<=1048576) (hw:q.wa.length<=1048576):Ctr Tryz.prog 168 [.agg [.lst 3 (q.sl.map f9),.lst 2 (q.wa.map i5)]] (.one (.v (.bool (a8m q)))):=by
 refine Ctr.of (n:=12) G Tryz.func168 Z a6 Z Z Z (λw0=>?_)
 refine j8 0 Z (λ_=>Z) (λu0=>?_)
 refine w8 ?_
 refine zcl (a6R q.sl q.wa hl hw) ?_
 refine zcd (λh1=>?_) (λh1=>?_)
 ·have hpf:=paF.mp h1
  refine zcl (a1P q hl hw hpf.sl.difS) ?_
  exact b73
 exact b73
theorem a8o (q:Que) (hl:q.sl.length<=1048576) (hw:q.wa.length<=1048576):Ctr Tryz.prog 197 [.agg [.lst 3 (q.sl.map f9),.lst 2 (q.wa.map i5)]] (.one (.v (.bool (a8m q)))):=by
 refine Ctr.of (n:=12) G Tryz.func197 Z a6 Z Z Z (λw0=>?_)
 refine j8 0 Z (λ_=>Z) (λu0=>?_)
 refine w8 ?_
 refine zcl (a6a q.sl q.wa hl hw) ?_
 refine zcd (λh1=>?_) (λh1=>?_)
 ·refine zcl (a1Q q hl hw) ?_
  exact b73
 exact b73
theorem a6S (q:Que) (hl:q.sl.length<=1048576) (hw:q.wa.length<=1048576):Ctr Tryz.prog 189 [.agg [.lst 3 (q.sl.map f9),.lst 2 (q.wa.map i5)]] (.shp true [some 2] [.fr 154 3 (q.sl.map f9),.fr 183 2 (q.wa.map i5) true]):=by
 exact c0u
theorem J8 (xs:List Wtr) (v:Wtr) (i:Nat) (hi:i<=xs.length) (hl:xs.length<=100000):CtrM Tryz.prog 227 [.own 0,.v (.int .i64 (i:Int)),.own 1] [.row 183 2 (xs.map i5),.row 183 2 [i5 v]] (.one (.fr 183 2 ((xs.take i++[v]++xs.drop i).map i5))) [none,some (.row 183 2 [i5 v])]:=by
 refine CtrM.of (n:=95) (k:=2) G Tryz.func227 Z a6 Z Z Z Z Z Z Z (λw0 _ hpin=>?_)
 refine zgn ?_
 refine I2 ?_
 refine G9 ?_
 refine vm4 ?_
 refine c17 ?_
 refine c3C ?_
 refine o7 Z (λh1=>?_) (λh1=>?_)
 ·try rw [h1]
  try simp only [rfb] at h1
  exact absurd h1 (by decide)
 try rw [h1]
 try simp only [rfb] at h1
 refine c3C ?_
 refine o7 Z (λh2=>?_) (λh2=>?_)
 ·try rw [h2]
  try simp only [rfb] at h2
  refine I2 ?_
  refine G9 ?_
  refine vm4 ?_
  refine J2 (tx:=23) 3 Z Z Z Z Z<|i6 G w3 rfl rfl rfl rfl rfl rfl rfl rfl rfl (by simp only [List.length_map,List.length_cons,List.length_nil];omega) rfl rfl ?_
  exact c3P
 try rw [h2]
 try simp only [rfb] at h2
 refine E9 ?_
 refine I2 ?_
 refine G9 ?_
 refine vm4 ?_
 refine vm5 ?_
 refine zst ?_
 refine b5 Z (c0U G Z Z Z Z Z Z t6 (λgs hgs hall=>?_))
 simp only [List.length_map] at hgs
 refine zgn ?_
 refine o7 Z (λh3=>?_) (λh3=>?_)
 ·try rw [h3]
  try simp only [rfb] at h3
  try simp only [List.length_map] at h3
  refine I2 ?_
  refine G9 ?_
  refine vm8 ?_
  refine G9 ?_
  refine vm4 ?_
  refine vm5 ?_
  refine zst ?_
  refine vm4 ?_
  refine vm5 ?_
  refine vm4 ?_
  refine b0B (k:=(xs.length+1 - i)) G 3 Z Z Z Z Z Z Z Z Z t6 t6 t6 t6 t6 t6 (λc hc=>(hall c hc).2) t6 ?_
  refine zgn ?_
  refine I2 ?_
  refine G9 ?_
  refine vm4 ?_
  refine c17 ?_
  refine zst ?_
  refine vm4 ?_
  refine a6s G Z Z Z Z Z Z Z (SrcOK.of (vs:=[i5 v]) b6n (ArgOK.of Z) (by decide)) (by intro c hc;rw [List.mem_singleton.1 hc];exact ⟨Z,a7L v⟩) t6 t6 t6 ?_
  refine zgn ?_
  refine p7 (d7 9 [0,1] mixed a6 Z Z (λr0=>?_) (λ_ h=>h))
  refine c3A ?_
  refine i9 7 Z a6 a6 Z Z Z Z (V6 G Z Z Z Z Z Z t6 t6 t6 t6) (b6 (rs:=[4]) a6 Z (AllB.cons ?_ AllB.nil))
  refine c8 [0,1] Z Z (b7 Z Z (a1r G Z Z Z Z Z Z J a3Z a3Z) (a8 ⟨Z,?_⟩))
  refine b6 (rs:=[8]) a6 Z (AllB.cons ?_ AllB.nil)
  refine c8 [0,1] Z Z (a6s G Z Z Z Z Z Z Z (SrcOK.spare Z t6) (λc hc=>hall c (List.mem_of_mem_drop (List.mem_of_mem_take hc))) t6 t6 t6 (a8 ⟨Z,?_⟩))
  refine vm6 ?_
  exact c3P
 try rw [h3]
 try simp only [rfb] at h3
 try simp only [List.length_map] at h3
 refine E9 ?_
 refine X3 ?_
 refine vm4 ?_
 refine vm5 ?_
 refine vm4 ?_
 refine b1C (N:=(xs.length+1)) G 3 Z Z Z Z Z Z Z Z t6 t6 t6 ?_
 refine E9 ?_
 refine b4f ?_
 refine vm5 ?_
 refine vm8 ?_
 refine vm4 ?_
 refine b7 Z Z (b1D (tr:=4) (t:=109) G Tryz.func257 a6 a6 a6 a6 Z Z Z Z t6 Z Z Z t6 (by decide) t6) ?_
 refine zgn ?_
 refine a09 Z (p7 ?_)
 apply v8 [0,1,2] [1,2] 3 9 [1] mixed a6 Z Z (λ_ h=>znk h)
 ·intro r0
  refine c3A ?_
  refine b6 (rs:=[4,7]) a6 Z (AllB.cons ?_ (AllB.cons ?_ AllB.nil))
  ·refine c8 [1] Z Z (b7 Z Z (V6 G Z Z Z Z Z Z t6 t6 t6 t6) (a8 ⟨Z,?_⟩))
   refine b6 (rs:=[7]) a6 Z (AllB.cons ?_ AllB.nil)
   exact b9Y
  refine c8 [1] Z Z (b7 Z Z (V6 G Z Z Z Z Z Z t6 t6 t6 t6) (a8 ⟨Z,?_⟩))
  refine b6 (rs:=[4]) a6 Z (AllB.cons ?_ AllB.nil)
  exact b9Y
 refine I2 ?_
 refine G9 ?_
 refine vm8 ?_
 refine zst ?_
 refine vm4 ?_
 refine a3V G Z Z Z Z Z Z Z (vs:=[i5 v]) (SrcOK.of (vs:=[i5 v]) b6n (ArgOK.of Z) (by decide)) (L:=1) b9b Z (by intro c hc;rw [List.mem_singleton.1 hc];exact a7L v) b6n t6 t6 ?_
 refine zgn ?_
 refine zgn ?_
 have ht1:((i:Int)+1).toNat=i+1:=by omega
 refine c2z (id:=2) Z (c2A (L0:=(xs.take i++[v]++xs.drop i).map i5) (by (rw [show xs.length+1=(xs.map i5).length+1 from by rw [List.length_map]];simp only [Int.toNat_natCast,ht1,Int.toNat_zero,List.length_drop,List.length_cons,List.length_nil,Nat.zero_add,List.map_append,List.map_take,List.map_drop,List.map_cons,List.map_nil,Nat.sub_zero];exact b0C (by rw [List.length_map];exact hi) J)) (λc hc=>(by obtain ⟨x,_,rfl⟩:=List.mem_map.1 hc;exact a7L x))) (g8 (u6 Z (b8 Z ?_) Z (AftOK.gone (AftOK.stays Z ?_ Z AftOK.nil))))
 all_goals exact b8M
theorem a0Z (wa:List Wtr) (w:Wtr) (hw:wa.length<=100000):Ctr Tryz.prog 193 [.lst 2 (wa.map i5),.v (a3W w)] (.one (.fr 183 2 ((insW wa w).map i5))):=by
 refine Ctr.of (n:=28) G Tryz.func193 Z a6 Z Z Z (λw0=>?_)
 refine w8 ?_
 refine zgo ?_
 refine f6 [0,3] [0] (λ(i:Nat)=>[(5,.v (.int .i64 (i:Int)))]) (λ(i:Nat)=>[]) (λ(i:Nat)=>i<=wa.length/\∀j,j < i→lessW (wa.getD j default) w=true) (λ(i:Nat)=>wa.length - i) 0 Z Z ?_ ?_ ?_ ?_
 ·exact P3
 ·exact u3
 ·exact trivial
 intro i hinv
 refine vm2 ?_
 refine zgd ?_
 refine zcd (λh1=>?_) (λh1=>?_)
 ·refine zcl (y6 _ _) ?_
  refine zcd (λh2=>?_) (λh2=>?_)
  ·exact b9L
  refine zgo ?_
  apply v8 [4] [3] 4 8 [0] mixed a6 Z Z (λ_ h=>znk h)
  ·exact b90
  refine zfo ?_
  all_goals exact b80
 refine zwf ?_
 refine zgo ?_
 apply v8 [4] [3] 4 8 [0] mixed a6 Z Z (λ_ h=>znk h)
 ·exact b90
 refine zfo ?_
 all_goals exact b80
theorem a1j (wa:List Wtr) (w:Wtr) (hw:wa.length<=100000):Ctr Tryz.prog 187 [.lst 2 (wa.map i5),.v (a3W w)] (.one (.fr 183 2 ((insW wa w).map i5))):=by
 refine Ctr.of (n:=41) G Tryz.func187 Z a6 Z Z Z (λw0=>?_)
 refine w8 ?_
 refine zgo ?_
 refine f6 [0,3] [0] (λ(i:Nat)=>[(5,.v (.int .i64 (i:Int)))]) (λ(i:Nat)=>[]) (λ(i:Nat)=>i<=wa.length/\∀j,j < i→lessW (wa.getD j default) w=true) (λ(i:Nat)=>wa.length - i) 0 Z Z ?_ ?_ ?_ ?_
 ·exact P3
 ·exact u3
 ·exact trivial
 intro i hinv
 refine vm2 ?_
 refine zgd ?_
 refine zcd (λh1=>?_) (λh1=>?_)
 ·refine zcl (O6 _ _ _ _) ?_
  refine zcd (λh2=>?_) (λh2=>?_)
  ·exact b9L
  refine zgo ?_
  apply v8 [4] [1] 3 13 [0] mixed a6 Z Z (λ_ h=>znk h)
  ·exact c3I
  refine zfo ?_
  all_goals exact b81
 refine zwf ?_
 refine zgo ?_
 apply v8 [4] [1] 3 13 [0] mixed a6 Z Z (λ_ h=>znk h)
 ·exact c3I
 refine zfo ?_
 all_goals exact b81
theorem a0w (q:Que) (hF:QF q):Ctr Tryz.prog 194 [.agg [.lst 3 (q.sl.map f9),.lst 2 (q.wa.map i5)]] (.shp true [some 2] [.fr 154 3 ((a0F q).sl.map f9),.fr 183 2 ((a0F q).wa.map i5) true]):=by
 have hq4:=hF.sl.len
 have hqw:=hF.wn
 refine Ctr.of (n:=47) G Tryz.func194 Z a6 Z Z Z (λw0=>?_)
 refine j8 0 Z (λ_=>Z) (λu0=>?_)
 refine L6 ?_
 refine m3 ?_
 refine c4 4 Z Z Z (ArgsOK.of Z) (a6S q J J) Z Z ?_
 refine vm4 ?_
 refine a9c ?_
 refine zgo ?_
 refine f6 [2,3] [1,4] (λ(x:Que)=>[]) (λ(x:Que)=>[(2,some (.row 154 3 (x.sl.map f9))),(3,some (.row 183 2 (x.wa.map i5) true))]) (λ(x:Que)=>QF x/\a0F x=a0F q) (λ(x:Que)=>phi x) q Z Z ?_ ?_ ?_ ?_
 ·exact ⟨hF,Z⟩
 ·exact trivial
 ·exact b0c
 intro x hinv
 have hFx:=hinv.1
 have hl4:=hFx.sl.len
 have hwn:=hFx.wn
 have hf:=@b1P x.sl
 have hb:=@Z1 x.sl false
 refine vm2 ?_
 refine zcl (a1P x J J hFx.sl.difS) ?_
 refine zcd (λh1=>?_) (λh1=>?_)
 ·obtain ⟨hw0,hbb⟩:=b2L hFx h1
  have hnx:=a8U hFx h1
  obtain ⟨hF2,hphi⟩:=a7N hFx h1
  refine zgn ?_
  refine r7 (p7 (d7 10 [1,2,3,4] mixed a6 Z Z (λr0=>?_) (λ_ h=>h)))
  refine zsa 0 ?_
  refine zsa 1 ?_
  first | refine i9 2 Z a6 a6 Z Z Z Z (c6 G Z Z Z Z Z J J) ?_ | refine i9 2 Z a6 a6 Z Z Z Z (c6 G Z Z Z Z Z J g0) ?_
  first | refine i9 3 Z a6 a6 Z Z Z Z (d9 G Z Z Z Z (a2S J) Z) ?_ | refine i9 3 Z a6 a6 Z Z Z Z (d9 G Z Z Z Z (C7 J J) Z) ?_ | refine i9 3 Z a6 a6 Z Z Z Z (d9 G Z Z Z Z (w9 J J) Z) ?_ | refine i9 3 Z a6 a6 Z Z Z Z (d9 G Z Z Z Z (w9 J g0) Z) ?_
  refine Q4 ?_
  refine r8 (N:=6) Z (m8 (fuel:=3) [⟨7,4,5,true,.box (avR [.int .i64 0,.int .i64 0] [])⟩] (AllVOK.cons (VOK.boxS G Z Z Z Z Z) (AllVOK.nil)) (λhok=>?_))
  refine i7 [(6,[])] a6 a6 (λe he=>hok e he) a6 (AllVS.cons ?_ AllVS.nil)
  refine VStep.mk0 [1,2,3,4] Z Z (λb1 _ hbn=>b7 Z Z (l9 Z (ArgsOK.of Z) (a02 x.sl J) Z) (a8 Z)) a6 a6 a6 a6 (i7 [(8,[7])] a6 a6 (λe he=>hok e he) a6 (AllVS.cons ?_ AllVS.nil))
  refine VStep.mk1 [1,2,3,4] 4 (.ptr 5 0) 5 (.box (avR [.int .i64 0,.int .i64 0] [])) [] Z Z Z Z Z (λb1 _ hbn=>l5 G Z Z Z Z Z Z Z Z Z Z Z (a8 Z)) a6 a6 a6 a6 (w6 ?_)
  clear hok
  refine zsa 9 ?_
  refine vm6 ?_
  refine m3 ?_
  refine b7d G 7 Z Z Z Z Z Z Z Z t6 t6 ?_
  refine zcd (λh2=>?_) (λh2=>?_)
  ·refine zcl (P5 x.sl false J hFx.sl.difS) ?_
   refine zgo ?_
   apply v8 [2,3,4,5] [1,2,4,5,7] 8 11 [1,2,5,6] mixed a6 Z Z (λ_ h=>znk h)
   ·intro r0
    refine zsa 0 ?_
    refine zsa 2 ?_
    refine zsa 4 ?_
    refine b6 (rs:=[1,3]) a6 Z (AllB.cons ?_ (AllB.cons ?_ AllB.nil))
    ·refine c8 [1,2,5,6] Z Z ?_
     refine F6 ?_
     refine b6 (rs:=[3]) a6 Z (AllB.cons ?_ AllB.nil)
     refine c3e ?_
     exact c0K
    refine c3e ?_
    refine b6 (rs:=[1,7]) a6 Z (AllB.cons ?_ (AllB.cons ?_ AllB.nil))
    ·refine c8 [1,2,5,6] Z Z ?_
     refine F6 ?_
     exact c0K
    refine c8 [1,2,5,6] Z Z (b7 Z Z (l9 Z (ArgsOK.of Z) (B0 _) Z) (a8 ⟨Z,?_⟩))
    refine b6 (rs:=[1]) a6 Z (AllB.cons ?_ AllB.nil)
    refine c8 [1,2,5,6] Z Z ?_
    refine F6 ?_
    exact c0d
   refine A7 (Gh.tl (id:=7) Z) ?_
   refine c3h ?_
   refine m6 (Gh.sub 7 3 np Z Z Z) (a8 ⟨(stQ x),?_,?_,trivial,⟨⟨_,Z,by (first | rfl | (rw [q9 (q:=x) J];exact congrArg (λz=>Row.row _ _ z) (a2B (f:=f9) (x:=⟨1,_,_⟩))) | (rw [s5 (q:=x) J];exact congrArg (λz=>Row.row _ _ z) (a2B (f:=f9) (x:=⟨1,_,_⟩))) | (rw [q9 (q:=x) J];exact congrArg (λz=>Row.row _ _ z true) (List.map_drop).symm) | (rw [s5 (q:=x) J];done) | (rw [s5 (q:=x) J];rfl) | (rw [q9 (q:=x) J];done) | (rw [q9 (q:=x) J];rfl) | (rw [q9 (q:=x) J];exact congrArg (λz=>Row.row _ _ z true) X2)| (rw [s5 (q:=x) J];exact congrArg (λz=>Row.row _ _ z true) X2))⟩,Z,Z,⟨⟨_,Z,by (first | rfl | (rw [q9 (q:=x) J];exact congrArg (λz=>Row.row _ _ z) (a2B (f:=f9) (x:=⟨1,_,_⟩))) | (rw [s5 (q:=x) J];exact congrArg (λz=>Row.row _ _ z) (a2B (f:=f9) (x:=⟨1,_,_⟩))) | (rw [q9 (q:=x) J];exact congrArg (λz=>Row.row _ _ z true) (List.map_drop).symm) | (rw [s5 (q:=x) J];done) | (rw [s5 (q:=x) J];rfl) | (rw [q9 (q:=x) J];done) | (rw [q9 (q:=x) J];rfl) | (rw [q9 (q:=x) J];exact congrArg (λz=>Row.row _ _ z true) X2)| (rw [s5 (q:=x) J];exact congrArg (λz=>Row.row _ _ z true) X2))⟩,Z,Z,trivial⟩⟩,Z,Z,Z⟩)
   ·exact ⟨hF2,hnx▸hinv.2⟩
   exact hphi
  refine zgn ?_
  refine A7 (Gh.tl (id:=6) Z) ?_
  refine c3h ?_
  refine m6 (Gh.sub 6 3 np Z Z Z) (a8 ⟨(stQ x),?_,?_,trivial,⟨⟨_,Z,by (first | rfl | (rw [q9 (q:=x) J];exact congrArg (λz=>Row.row _ _ z) (a2B (f:=f9) (x:=⟨1,_,_⟩))) | (rw [s5 (q:=x) J];exact congrArg (λz=>Row.row _ _ z) (a2B (f:=f9) (x:=⟨1,_,_⟩))) | (rw [q9 (q:=x) J];exact congrArg (λz=>Row.row _ _ z true) (List.map_drop).symm) | (rw [s5 (q:=x) J];done) | (rw [s5 (q:=x) J];rfl) | (rw [q9 (q:=x) J];done) | (rw [q9 (q:=x) J];rfl) | (rw [q9 (q:=x) J];exact congrArg (λz=>Row.row _ _ z true) X2)| (rw [s5 (q:=x) J];exact congrArg (λz=>Row.row _ _ z true) X2))⟩,Z,Z,⟨⟨_,Z,by (first | rfl | (rw [q9 (q:=x) J];exact congrArg (λz=>Row.row _ _ z) (a2B (f:=f9) (x:=⟨1,_,_⟩))) | (rw [s5 (q:=x) J];exact congrArg (λz=>Row.row _ _ z) (a2B (f:=f9) (x:=⟨1,_,_⟩))) | (rw [q9 (q:=x) J];exact congrArg (λz=>Row.row _ _ z true) (List.map_drop).symm) | (rw [s5 (q:=x) J];done) | (rw [s5 (q:=x) J];rfl) | (rw [q9 (q:=x) J];done) | (rw [q9 (q:=x) J];rfl) | (rw [q9 (q:=x) J];exact congrArg (λz=>Row.row _ _ z true) X2)| (rw [s5 (q:=x) J];exact congrArg (λz=>Row.row _ _ z true) X2))⟩,Z,Z,trivial⟩⟩,Z,Z,Z⟩)
  ·exact ⟨hF2,hnx▸hinv.2⟩
  exact hphi
 have hd:=a8V h1
 refine zgo ?_
 refine g8 (m5 Z Z Z Z (a7 (b8 Z ?_) (a7 (b8 Z ?_) d5)))
 all_goals ((rw [← hinv.2,hd];done))
theorem a5B (q:Que) (hl:q.sl.length<=1048576) (hw:q.wa.length<=1048576):Ctr Tryz.prog 218 [.agg [.lst 3 (q.sl.map f9),.lst 2 (q.wa.map i5)]] (.shp true [some 2] [.fr 154 3 (q.sl.map f9),.fr 183 2 (q.wa.map i5)]):=by
 refine Ctr.of (n:=12) G Tryz.func218 Z a6 Z Z Z (λw0=>?_)
 exact c3K
end Go.Proofs.YtcnodpipinlpcaaGreat
