/- Texts merged into one: M2, M4, M12, W5, M3. -/
import Derived.Test.YtpfhomblkgmkkaaGreatDoorPFnExactRunScriptA
set_option maxHeartbeats 4000000
set_option linter.unusedSimpArgs false
set_option linter.unusedVariables false
set_option maxRecDepth 20000
namespace Go.Proofs.YtpfhomblkgmkkaaGreatDoor
open Go Go.Rf
theorem Y6 (sl:List Slot) (i:Int) (x:Slot) (hl:sl.length<=1048576) (hi:0<=i/\i < sl.length):Ctr Tryz.prog 312 [.lst 3 (sl.map e9),.v (.int .i64 i),.v (a2D x)] (.one (.fr 169 3 ((sl.set i.toNat x).map e9))):=by
 refine Ctr.of (n:=16) G Tryz.func312 Z a8 Z Z Z (λw0=>?_)
 exact c73
theorem E8 (sl:List Slot) (i:Int) (x:Slot) (hl:sl.length<=1048576) (hi:0<=i/\i < sl.length):Ctr Tryz.prog 317 [.lst 3 (sl.map e9),.v (.int .i64 i),.v (a2D x)] (.one (.fr 169 3 ((sl.set i.toNat x).map e9))):=by
 refine Ctr.of (n:=16) G Tryz.func317 Z a8 Z Z Z (λw0=>?_)
 exact c73
theorem N1 (sl:List Slot) (most:Bool) (hl:sl.length<=1048576) (hd:b7W sl):Ctr Tryz.prog 250 [.lst 3 (sl.map e9),.v (.bool most)] (.one (.v (.int .i64 (bstS sl most)))):=by
 refine Ctr.of (n:=38) G Tryz.func250 Z a8 Z Z Z (λw0=>?_)
 refine zgo ?_
 refine d9 [0,1,8,9] [] (λ(i:Nat)=>[(5,.v (.int .i64 (G0 sl most i))),(10,.v (.int .i64 (i:Int)))]) (λ(i:Nat)=>[]) (λ(i:Nat)=>i<=sl.length) (λ(i:Nat)=>sl.length - i) 0 Z Z ?_ ?_ ?_ ?_
 ·exact C7
 ·exact a0e
 ·exact trivial
 intro i hinv
 have hb:=@a2m sl most i
 refine vm4 ?_
 refine zcd (λh1=>?_) (λh1=>?_)
 ·refine a6q ?_
  refine zgd ?_
  refine zcd (λh2=>?_) (λh2=>?_)
  ·refine zcd (λh3=>?_) (λh3=>?_)
   ·refine zwt ?_
    exact c1u
   refine zcl (z7 _) ?_
   refine zcl (z7 _) ?_
   refine zcl (w6 _ _) ?_
   refine zgo ?_
   refine b0v ?_
   refine r5 Z Z (c6k (G 4 _ Z).1 Z Z Z) ?_
   refine zcd (λh4=>?_) (λh4=>?_)
   ·exact c1u
   exact c1u
  refine zwf ?_
  exact c1u
 refine zf1 ?_
 all_goals ((rw [b18 J]))
theorem a2G (sl:List Slot) (hl:sl.length<=1048576):Ctr Tryz.prog 240 [.lst 3 (sl.map e9),.v (.bool true)] (.one (.v (.int .i64 (bstS sl true)))):=by
 refine Ctr.of (n:=66) G Tryz.func240 Z a8 Z Z Z (λw0=>?_)
 refine zgo ?_
 refine d9 [0,1] [] (λ(i:Nat)=>[(5,.v (.int .i64 (G0 sl true i))),(6,.v (.int .i64 (i:Int)))]) (λ(i:Nat)=>[]) (λ(i:Nat)=>i<=sl.length) (λ(i:Nat)=>sl.length - i) 0 Z Z ?_ ?_ ?_ ?_
 ·exact C7
 ·exact a0e
 ·exact trivial
 intro i hinv
 have hb:=@a2m sl true i
 refine vm4 ?_
 refine zcd (λh1=>?_) (λh1=>?_)
 ·refine a6q ?_
  refine zcd (λh2=>?_) (λh2=>?_)
  ·exact ws7
  refine zgd ?_
  refine zcd (λh3=>?_) (λh3=>?_)
  ·refine zwt ?_
   exact ws7
  refine zcl (J6 _ _ _ _) ?_
  refine zcd (λh4=>?_) (λh4=>?_)
  ·refine zwt ?_
   exact ws7
  refine zwf ?_
  exact ws7
 refine zf1 ?_
 all_goals ((rw [b18 J]))
theorem a2H (sl:List Slot) (hl:sl.length<=1048576):Ctr Tryz.prog 240 [.lst 3 (sl.map e9),.v (.bool false)] (.one (.v (.int .i64 (bstS sl false)))):=by
 refine Ctr.of (n:=66) G Tryz.func240 Z a8 Z Z Z (λw0=>?_)
 refine zgo ?_
 refine d9 [0,1] [] (λ(i:Nat)=>[(5,.v (.int .i64 (G0 sl false i))),(6,.v (.int .i64 (i:Int)))]) (λ(i:Nat)=>[]) (λ(i:Nat)=>i<=sl.length) (λ(i:Nat)=>sl.length - i) 0 Z Z ?_ ?_ ?_ ?_
 ·exact C7
 ·exact a0e
 ·exact trivial
 intro i hinv
 have hb:=@a2m sl false i
 refine vm4 ?_
 refine zcd (λh1=>?_) (λh1=>?_)
 ·refine a6q ?_
  refine zcd (λh2=>?_) (λh2=>?_)
  ·exact ws7
  refine zgd ?_
  refine zcd (λh3=>?_) (λh3=>?_)
  ·refine zwt ?_
   exact ws7
  refine zcl (J6 _ _ _ _) ?_
  refine zcd (λh4=>?_) (λh4=>?_)
  ·exact ws7
  exact ws7
 refine zf1 ?_
 all_goals ((rw [b18 J]))
theorem a3A (x:Wtr) (irq:Int):Ctr Tryz.prog 296 [.v (a0U x),.ept [.int .i64 irq]] (.one (.v (.bool (decide (x.q=irq))))):=by
 refine Ctr.of (n:=8) G Tryz.func296 Z a8 Z Z Z (λw0=>?_)
 exact c3T
theorem E0 (xs:List Wtr) (f:Nat) (c:List Value) (p:Wtr→Bool) (hl:xs.length<=1048576) (hf:∀i,i < xs.length→Ctr Tryz.prog f [.v (a0U (xs.getD i default)),.ept c] (.one (.v (.bool (p (xs.getD i default)))))):Ctr Tryz.prog 207 [.lst 2 (xs.map f7),.fnc f [.ept c]] (.one (.v (.int .i64 (G3 (λi=>p (xs.getD i default)) xs.length)))):=by
 exact c3S
theorem a0G (wa:List Wtr) (irq:Int) (hw:wa.length<=1048576):Ctr Tryz.prog 249 [.lst 2 (wa.map f7),.v (.int .i64 irq)] (.one (.v (.int .i64 (inW wa irq)))):=by
 refine Ctr.of (n:=8) G Tryz.func249 Z a8 Z Z Z (λw0=>?_)
 refine vm3 ?_
 refine n9 ?_
 refine b5 Z Z (a89 Z Z) ?_
 refine zcl (E0 wa 296 [.int .i64 irq] (λx=>decide (x.q=irq)) hw (λk hk=>a3A _ _)) ?_
 exact a9U
theorem b2L (wa:List Wtr) (irq:Int) (hw:wa.length<=1048576):Ctr Tryz.prog 316 [.lst 2 (wa.map f7),.v (.int .i64 irq)] (.one (.v (.int .i64 (inW wa irq)))):=by
 refine Ctr.of (n:=20) G Tryz.func316 Z a8 Z Z Z (λw0=>?_)
 refine zgo ?_
 refine d9 [0,1] [] (λ(i:Nat)=>[(5,.v (.int .i64 (i:Int)))]) (λ(i:Nat)=>[]) (λ(i:Nat)=>i<=wa.length/\∀j,j < i→decide ((wa.getD j default).q=irq)=false) (λ(i:Nat)=>wa.length - i) 0 Z Z ?_ ?_ ?_ ?_
 ·exact D9
 ·exact u3
 ·exact trivial
 intro i hinv
 refine vm4 ?_
 refine zcd (λh1=>?_) (λh1=>?_)
 ·refine zcd (λh2=>?_) (λh2=>?_)
  ·refine zf1 ?_
   all_goals exact c2D
  refine zgo ?_
  refine ⟨(i+1),?_,?_,⟨⟨_,Z,by rfl⟩,Z,trivial⟩,trivial,Z,Z,Z⟩
  ·exact ⟨by omega,n7 hinv.2 (decide_eq_false i1)⟩
  omega
 refine zf1 ?_
 all_goals exact c2D
theorem G1 (xs:List Wtr) (v:Wtr) (i:Nat) (hi:i<=xs.length) (hl:xs.length<=100000):CtrM Tryz.prog 320 [.own 0,.v (.int .i64 (i:Int)),.own 1] [.row 182 2 (xs.map f7),.row 182 2 [f7 v]] (.one (.fr 182 2 ((xs.take i++[v]++xs.drop i).map f7))) [none,some (.row 182 2 [f7 v])]:=by
 refine CtrM.of (n:=95) (k:=2) G Tryz.func320 Z a8 Z Z Z Z Z Z Z (λw0 _ hpin=>?_)
 refine zgn ?_
 refine a0d ?_
 refine P0 ?_
 refine vm5 ?_
 refine c5R ?_
 refine c7J ?_
 refine m6 Z (λh1=>?_) (λh1=>?_)
 ·try rw [h1]
  try simp only [rfb] at h1
  exact absurd h1 (by decide)
 try rw [h1]
 try simp only [rfb] at h1
 refine c7J ?_
 refine m6 Z (λh2=>?_) (λh2=>?_)
 ·try rw [h2]
  try simp only [rfb] at h2
  refine a0d ?_
  refine P0 ?_
  refine vm5 ?_
  refine a4N (tx:=23) 3 Z Z Z Z Z<|j3 G (by rw [hpin];decide) rfl rfl rfl rfl rfl rfl rfl rfl rfl (by simp only [List.length_map,List.length_cons,List.length_nil];omega) rfl rfl ?_
  exact c7X
 try rw [h2]
 try simp only [rfb] at h2
 refine zgn ?_
 refine p6 ?_
 refine a0d ?_
 refine P0 ?_
 refine vm2 ?_
 refine zst ?_
 refine a7 Z (c4n G Z Z Z Z Z Z s6 (λgs hgs hall=>?_))
 simp only [List.length_map] at hgs
 refine zgn ?_
 refine m6 Z (λh3=>?_) (λh3=>?_)
 ·try rw [h3]
  try simp only [rfb] at h3
  try simp only [List.length_map] at h3
  refine a0d ?_
  refine P0 ?_
  refine vm9 ?_
  refine P0 ?_
  refine vm2 ?_
  refine zst ?_
  refine vm2 ?_
  refine vm5 ?_
  refine b3h (k:=(xs.length+1 - i)) G 3 Z Z Z Z Z Z Z Z Z s6 s6 s6 s6 s6 s6 (λc hc=>(hall c hc).2) s6 ?_
  refine zgn ?_
  refine a0d ?_
  refine P0 ?_
  refine vm5 ?_
  refine c5R ?_
  refine zst ?_
  refine vm5 ?_
  refine a7O G Z Z Z Z Z Z Z (SrcOK.of (vs:=[f7 v]) b9t (ArgOK.of Z) (by decide)) (by intro c hc;rw [List.mem_singleton.1 hc];exact ⟨Z,a9D v⟩) s6 s6 s6 ?_
  refine zgn ?_
  refine p6 (j7 9 [0,1] mixed a8 Z Z (λr0=>?_) (λ_ h=>h))
  refine c7I ?_
  refine d4 7 Z a8 a8 Z Z Z Z (W9 G Z Z Z Z Z Z s6 s6 s6 s6) (b7 (rs:=[4]) a8 Z (AllB.cons ?_ AllB.nil))
  refine f8 [0,1] Z Z (b5 Z Z (a6L G Z Z Z Z Z Z J b5Y b5Y) (b6 ⟨Z,?_⟩))
  refine b7 (rs:=[8]) a8 Z (AllB.cons ?_ AllB.nil)
  refine f8 [0,1] Z Z (a7O G Z Z Z Z Z Z Z (SrcOK.spare Z s6) (λc hc=>hall c (List.mem_of_mem_drop (List.mem_of_mem_take hc))) s6 s6 s6 (b6 ⟨Z,?_⟩))
  refine H4 ?_
  exact c7X
 try rw [h3]
 try simp only [rfb] at h3
 try simp only [List.length_map] at h3
 refine zgn ?_
 refine p6 ?_
 refine a2v ?_
 refine vm2 ?_
 refine vm5 ?_
 refine b4k (N:=(xs.length+1)) G 3 Z Z Z Z Z Z Z Z s6 s6 s6 ?_
 refine zgn ?_
 refine p6 ?_
 refine a0d ?_
 iterate 4 refine zst ?_
 refine vm2 ?_
 refine vm9 ?_
 refine vm5 ?_
 refine b5 Z Z (b4l (tr:=4) (t:=131) G Tryz.func321 a8 a8 a8 a8 Z Z Z Z s6 Z Z Z s6 (by decide) s6) ?_
 refine zgn ?_
 refine J9 Z (p6 ?_)
 apply x8 [0,1,2] [1,2] 3 9 [1] mixed a8 Z Z (λ_ h=>znk h)
 ·intro r0
  refine c7I ?_
  refine b7 (rs:=[4,7]) a8 Z (AllB.cons ?_ (AllB.cons ?_ AllB.nil))
  ·refine f8 [1] Z Z (b5 Z Z (W9 G Z Z Z Z Z Z s6 s6 s6 s6) (b6 ⟨Z,?_⟩))
   refine b7 (rs:=[7]) a8 Z (AllB.cons ?_ AllB.nil)
   exact c7S
  refine f8 [1] Z Z (b5 Z Z (W9 G Z Z Z Z Z Z s6 s6 s6 s6) (b6 ⟨Z,?_⟩))
  refine b7 (rs:=[4]) a8 Z (AllB.cons ?_ AllB.nil)
  exact c7S
 refine a0d ?_
 refine P0 ?_
 refine vm9 ?_
 refine zst ?_
 refine vm5 ?_
 refine a4o G Z Z Z Z Z Z Z (vs:=[f7 v]) (SrcOK.of (vs:=[f7 v]) b9t (ArgOK.of Z) (by decide)) (L:=1) c2P Z (by intro c hc;rw [List.mem_singleton.1 hc];exact a9D v) b9t s6 s6 ?_
 refine zgn ?_
 refine zgn ?_
 have ht1:((i:Int)+1).toNat=i+1:=by omega
 refine c6y (id:=2) Z (c6z (L0:=(xs.take i++[v]++xs.drop i).map f7) (by (rw [show xs.length+1=(xs.map f7).length+1 from by rw [List.length_map]];simp only [Int.toNat_natCast,ht1,Int.toNat_zero,List.length_drop,List.length_cons,List.length_nil,Nat.zero_add,List.map_append,List.map_take,List.map_drop,List.map_cons,List.map_nil,Nat.sub_zero];exact b3i (by rw [List.length_map];exact hi) J)) (λc hc=>(by obtain ⟨x,_,rfl⟩:=List.mem_map.1 hc;exact a9D x))) (e6 (J0 Z (d6 Z ?_) Z (AftOK.gone (AftOK.stays Z ?_ Z AftOK.nil))))
 all_goals exact c2m
theorem a02 (wa:List Wtr) (w:Wtr) (hw:wa.length<=100000):Ctr Tryz.prog 311 [.lst 2 (wa.map f7),.v (a0U w)] (.one (.fr 182 2 ((insW wa w).map f7))):=by
 refine Ctr.of (n:=28) G Tryz.func311 Z a8 Z Z Z (λw0=>?_)
 refine vm3 ?_
 refine zgo ?_
 refine d9 [0,3] [0] (λ(i:Nat)=>[(5,.v (.int .i64 (i:Int)))]) (λ(i:Nat)=>[]) (λ(i:Nat)=>i<=wa.length/\∀j,j < i→lessW (wa.getD j default) w=true) (λ(i:Nat)=>wa.length - i) 0 Z Z ?_ ?_ ?_ ?_
 ·exact D9
 ·exact u3
 ·exact trivial
 intro i hinv
 refine vm4 ?_
 refine zgd ?_
 refine zcd (λh1=>?_) (λh1=>?_)
 ·refine zcl (w6 _ _) ?_
  refine zcd (λh2=>?_) (λh2=>?_)
  ·exact c3f
  refine zgo ?_
  apply x8 [4] [3] 4 8 [0] mixed a8 Z Z (λ_ h=>znk h)
  ·exact c7U
  refine zfo ?_
  all_goals exact c2E
 refine zwf ?_
 refine zgo ?_
 apply x8 [4] [3] 4 8 [0] mixed a8 Z Z (λ_ h=>znk h)
 ·exact c7U
 refine zfo ?_
 all_goals exact c2E
theorem a1l (wa:List Wtr) (w:Wtr) (hw:wa.length<=100000):Ctr Tryz.prog 193 [.lst 2 (wa.map f7),.v (a0U w)] (.one (.fr 182 2 ((insW wa w).map f7))):=by
 refine Ctr.of (n:=41) G Tryz.func193 Z a8 Z Z Z (λw0=>?_)
 refine vm3 ?_
 refine zgo ?_
 refine d9 [0,3] [0] (λ(i:Nat)=>[(5,.v (.int .i64 (i:Int)))]) (λ(i:Nat)=>[]) (λ(i:Nat)=>i<=wa.length/\∀j,j < i→lessW (wa.getD j default) w=true) (λ(i:Nat)=>wa.length - i) 0 Z Z ?_ ?_ ?_ ?_
 ·exact D9
 ·exact u3
 ·exact trivial
 intro i hinv
 refine vm4 ?_
 refine zgd ?_
 refine zcd (λh1=>?_) (λh1=>?_)
 ·refine zcl (J6 _ _ _ _) ?_
  refine zcd (λh2=>?_) (λh2=>?_)
  ·exact c3f
  refine zgo ?_
  apply x8 [4] [1] 3 13 [0] mixed a8 Z Z (λ_ h=>znk h)
  ·exact c7O
  refine zfo ?_
  all_goals exact c2F
 refine zwf ?_
 refine zgo ?_
 apply x8 [4] [1] 3 13 [0] mixed a8 Z Z (λ_ h=>znk h)
 ·exact c7O
 refine zfo ?_
 all_goals exact c2F
theorem a4b (n:Nat) (hn:n<=12):CtrE (α:=Int) Tryz.prog 262 [.v (.int .u64 (n:Int))] (λy=>(.one (.v (.int .i64 y)))):=by
 refine CtrE.of (n:=25) G Tryz.func262 Z a8 Z Z Z (λw0=>?_)
 refine zcd (λh1=>?_) (λh1=>?_)
 ·exfalso;omega
 refine zcd (λh2=>?_) (λh2=>?_)
 ·exfalso;omega
 refine zcd (λh3=>?_) (λh3=>?_)
 ·exfalso;omega
 refine zgo ?_
 refine c5M ?_
 refine vm5 ?_
 refine b5 Z Z (N6 G Z Z Z Z J (Int.lt_of_le_of_lt (show (n:Int)<=12 by omega) (by decide))) ?_
 refine c5M ?_
 refine vm2 ?_
 refine zgo ?_
 refine e6 (c4r (_) (C9 Z (l3 Z)))
 all_goals (rfl)
theorem a6t (n:Nat) (hn:n<=12):CtrE (α:=Int) Tryz.prog 204 [.v (.int .u64 (n:Int))] (λy=>(.one (.v (.int .i64 y)))):=by
 refine CtrE.of (n:=8) G Tryz.func204 Z a8 Z Z Z (λw0=>?_)
 refine zwf ?_
 refine zgo ?_
 refine a7 Z (a9u 0 Z Z Z (ArgsOK.of Z) (a4b n hn) (λ_=>Z) Z (λy1=>?_))
 refine zgo ?_
 refine e6 (c4r (_) (C9 Z (l3 Z)))
 all_goals (rfl)
theorem E3 (d:List Wtr) (hd:b3D d) (hn:d.length<=12):CtrM Tryz.prog 272 [.own 0,.v (.int .i64 0),.v (.int .i64 (d.length:Int)),.v (.func (.func 174) #[] #[])] [.row 182 2 (d.map f7)] (.many []) [some (.row 182 2 ((srtW d).map f7))]:=by
 refine CtrM.of (n:=53) (k:=1) G Tryz.func272 Z a8 Z Z Z Z Z Z Z (λw0 _ hpin=>?_)
 refine p6 (B4 (Gh.fnc (t:=3) Z) ?_)
 refine zgo ?_
 refine d9 [0,1,2,3] [] (λ(i:Nat)=>[(8,.v (.int .i64 (i:Int)))]) (λ(i:Nat)=>[(0,some (.row 182 2 ((a78 d i).map f7)))]) (λ(i:Nat)=>1<=i/\(i<=d.length∨i=1)) (λ(i:Nat)=>d.length - i) 1 Z Z ?_ ?_ ?_ ?_
 ·exact ⟨Nat.le_refl _,.inr Z⟩
 ·exact a8c
 ·exact ⟨⟨_,Z,by (rw [c4G])⟩,Z,Z,trivial⟩
 intro i hi
 refine vm4 ?_
 refine zcd (λh1=>?_) (λh1=>?_)
 ·have hM:=c8s hd (i:=i) J
  have hPl:=hM.len
  have hRl:(d.drop (i+1)).length=d.length - (i+1):=List.length_drop
  refine zgo ?_
  refine d9 [0,1,2,3,8] [] (λ(j:Nat)=>[(9,.v (.int .i64 (j:Int)))]) (λ(j:Nat)=>[(0,some (.row 182 2 ((a2r (srtW (d.take i)) (d.getD i default) (d.drop (i+1)) j).map f7)))]) (λ(j:Nat)=>j<=i/\∀t,j<=t→t < i→lessW (d.getD i default) ((srtW (d.take i)).getD t default)=true) (λ(j:Nat)=>j) i Z Z ?_ ?_ ?_ ?_
  ·exact ⟨Nat.le_refl _,λt h1 h2=>by omega⟩
  ·exact a8c
  ·exact ⟨⟨_,Z,by (rw [b8D J])⟩,Z,Z,trivial⟩
  intro j hj
  have htn:0 < j→((j:Int) - 1).toNat=j - 1:=λ_=>J
  refine vm4 ?_
  refine zgd ?_
  refine zcd (λh2=>?_) (λh2=>?_)
  ·refine c7w ?_
   refine c7w ?_
   refine b0v ?_
   refine r5 Z Z (b1O Z Z (ArgsOK.of Z) Z (w6 _ _) Z) ?_
   refine zcd (λh3=>?_) (λh3=>?_)
   ·refine zgo ?_
    apply x8 [0,1,2,3,8,9] [0] 1 18 [] mixed a8 Z Z (λ_ h=>znk h)
    ·intro r0
     refine a0C ?_
     first | refine d4 4 Z a8 a8 Z Z Z Z (v6 Z Z Z Z J J) ?_ | refine d4 4 Z a8 a8 Z Z Z Z (A4 Z Z Z Z) ?_
     refine zsa 5 ?_
     refine zsa 6 ?_
     first | refine d4 7 Z a8 a8 Z Z Z Z (v6 Z Z Z Z J J) ?_ | refine d4 7 Z a8 a8 Z Z Z Z (A4 Z Z Z Z) ?_
     refine zsa 10 ?_
     refine zsa 11 ?_
     refine b7 (rs:=[8,12]) a8 Z (AllB.cons ?_ (AllB.cons ?_ AllB.nil))
     ·first | refine g8 [] Z Z (b5 Z Z (b9 G Z Z Z Z Z J a7V) (b6 ⟨Z,?_⟩)) | refine g8 [] Z Z (b5 Z Z (b9 G Z Z Z Z Z J a7U) (b6 ⟨Z,?_⟩)) | refine g8 [] Z Z (b5 Z Z (b9 G Z Z Z Z Z J a7S) (b6 ⟨Z,?_⟩))
      refine b7 (rs:=[9,12]) a8 Z (AllB.cons ?_ (AllB.cons ?_ AllB.nil))
      ·first | refine g8 [] Z Z (b5 Z Z (d7 G Z Z Z Z (X3 J) Z) (b6 ⟨Z,?_⟩)) | refine g8 [] Z Z (b5 Z Z (d7 G Z Z Z Z (a0c J J) Z) (b6 ⟨Z,?_⟩)) | refine g8 [] Z Z (b5 Z Z (d7 G Z Z Z Z (a0Y J J) Z) (b6 ⟨Z,?_⟩))
       refine b7 (rs:=[12]) a8 Z (AllB.cons ?_ AllB.nil)
       first | refine g8 [] Z Z (b5 Z Z (b9 G Z Z Z Z Z J a7V) (b6 ⟨Z,?_⟩)) | refine g8 [] Z Z (b5 Z Z (b9 G Z Z Z Z Z J a7U) (b6 ⟨Z,?_⟩)) | refine g8 [] Z Z (b5 Z Z (b9 G Z Z Z Z Z J a7S) (b6 ⟨Z,?_⟩))
       refine b7 (rs:=[13]) a8 Z (AllB.cons ?_ AllB.nil)
       exact ws2
      exact c3v
     first | refine g8 [] Z Z (b5 Z Z (b9 G Z Z Z Z Z J a7V) (b6 ⟨Z,?_⟩)) | refine g8 [] Z Z (b5 Z Z (b9 G Z Z Z Z Z J a7U) (b6 ⟨Z,?_⟩)) | refine g8 [] Z Z (b5 Z Z (b9 G Z Z Z Z Z J a7S) (b6 ⟨Z,?_⟩))
     refine b7 (rs:=[8,13]) a8 Z (AllB.cons ?_ (AllB.cons ?_ AllB.nil))
     ·exact c3v
     first | refine g8 [] Z Z (b5 Z Z (d7 G Z Z Z Z (X3 J) Z) (b6 ⟨Z,?_⟩)) | refine g8 [] Z Z (b5 Z Z (d7 G Z Z Z Z (a0c J J) Z) (b6 ⟨Z,?_⟩)) | refine g8 [] Z Z (b5 Z Z (d7 G Z Z Z Z (a0Y J J) Z) (b6 ⟨Z,?_⟩))
     refine b7 (rs:=[8]) a8 Z (AllB.cons ?_ AllB.nil)
     first | refine g8 [] Z Z (b5 Z Z (b9 G Z Z Z Z Z J a7V) (b6 ⟨Z,?_⟩)) | refine g8 [] Z Z (b5 Z Z (b9 G Z Z Z Z Z J a7U) (b6 ⟨Z,?_⟩)) | refine g8 [] Z Z (b5 Z Z (b9 G Z Z Z Z Z J a7S) (b6 ⟨Z,?_⟩))
     refine b7 (rs:=[9]) a8 Z (AllB.cons ?_ AllB.nil)
     exact ws2
    refine zgo ?_
    refine ⟨(j - 1),?_,?_,⟨⟨_,Z,by (congr 2;omega)⟩,Z,trivial⟩,⟨⟨_,Z,by (exact congrArg (λz=>Row.row _ _ z) (by rw [htn J];exact b6O J J))⟩,Z,Z,trivial⟩,Z,Z,Z⟩
    ·exact ⟨by omega,λt h1 h2=>(by by_cases e:t=j - 1<;>first | (subst e;exact a0V.mp J) | exact hj.2 t J h2)⟩
    omega
   refine zgo ?_
   refine ⟨(i+1),?_,?_,⟨⟨_,Z,by rfl⟩,Z,trivial⟩,⟨⟨_,Z,by (rw [b1g J,← b3I J hM.pw hM.dif (λt ht ht2=>hj.2 t ht J) c2S])⟩,Z,Z,trivial⟩,Z,Z,Z⟩
   ·omega
   omega
  refine zwf ?_
  refine zgo ?_
  refine ⟨(i+1),?_,?_,⟨⟨_,Z,by rfl⟩,Z,trivial⟩,⟨⟨_,Z,by (rw [b1g J,← b3I J hM.pw hM.dif (λt ht ht2=>hj.2 t ht J) c2S])⟩,Z,Z,trivial⟩,Z,Z,Z⟩
  ·omega
  omega
 refine Y1 (a6O Z Z Z Z f6 Z (AftOK.stays Z ?_ Z AftOK.nil))
 all_goals (
  have e:a78 d i=srtW d:=b8C J
  rw [e]
 )
theorem J7 (d:List Wtr) (hd:b3D d) (hn:d.length<=12) (lim:Int):CtrM Tryz.prog 221 [.own 0,.v (.int .i64 0),.v (.int .i64 (d.length:Int)),.v (.int .i64 lim),.v (.func (.func 174) #[] #[])] [.row 182 2 (d.map f7)] (.many []) [some (.row 182 2 ((srtW d).map f7))]:=by
 refine CtrM.of (n:=148) (k:=1) G Tryz.func221 Z a8 Z Z Z Z Z Z Z (λw0 _ hpin=>?_)
 refine zgo ?_
 refine d9 [0,4] [0] (λ(u:Unit)=>[(1,.v (.int .i64 0)),(2,.v (.int .i64 (d.length:Int))),(3,.v (.int .i64 lim)),(10,.v (.bool true)),(11,.v (.bool true))]) (λ(u:Unit)=>[]) (λ(u:Unit)=>True) (λ(u:Unit)=>0) () Z Z ?_ ?_ ?_ ?_
 ·first | trivial | omega | (refine ⟨?_,?_⟩<;>omega)
 ·exact ⟨⟨_,Z,by (first | rfl | (simp;done) | (simp;omega))⟩,Z,⟨⟨_,Z,by (first | rfl | (simp;done) | (simp;omega))⟩,Z,⟨⟨_,Z,by (first | rfl | (simp;done) | (simp;omega))⟩,Z,⟨⟨_,Z,by (first | rfl | (simp;done) | (simp;omega))⟩,Z,⟨⟨_,Z,by (first | rfl | (simp;done) | (simp;omega))⟩,Z,trivial⟩⟩⟩⟩⟩
 ·exact trivial
 intro u hinv
 refine vm4 ?_
 refine zcd (λh1=>?_) (λh1=>?_)
 ·refine n9 ?_
  refine A1 1 [0] Z Z Z (E3 d hd hn) Z (RowsIn.cons Z RowsIn.nil) Z Z Z ?_
  refine zgo ?_
  refine e6 (a6O Z Z Z Z f6 Z (AftOK.stays Z ?_ Z AftOK.nil))
  all_goals (rfl)
 exfalso;omega
theorem E4 (d:List Wtr) (hd:b3D d) (hn:d.length<=12):CtrM Tryz.prog 173 [.own 0,.v (.func (.func 174) #[] #[])] [.row 182 2 (d.map f7)] (.many []) [some (.row 182 2 ((srtW d).map f7))]:=by
 refine CtrM.of (n:=14) (k:=1) G Tryz.func173 Z a8 Z Z Z Z Z Z Z (λw0 _ hpin=>?_)
 refine zgo ?_
 refine c5M ?_
 refine a7 Z (a9u 1 Z Z Z (ArgsOK.of Z) (a6t d.length hn) (λ_=>Z) Z (λy1=>?_))
 refine zgo ?_
 refine a7 Z (A1 1 [0] Z Z Z (J7 d hd hn _) Z (RowsIn.cons Z RowsIn.nil) Z Z Z (b6 (a6O Z Z Z Z f6 Z (AftOK.stays Z ?_ Z AftOK.nil))))
 all_goals (rfl)
theorem z8 (l:List Int) (hn:l.length<=1048576):Ctr Tryz.prog 157 [.lst 1 (l.map Rf.n8)] (.one (.fr 3 1 (l.map Rf.n8))):=by
 refine Ctr.of (n:=6) G Tryz.func157 Z a8 Z Z Z (λw0=>?_)
 exact c3c
theorem E1 (l:List Int) (hn:l.length<=1048576):Ctr Tryz.prog 136 [.lst 1 (l.map Rf.n8)] (.one (.fr 3 1 (l.map Rf.n8))):=by
 refine Ctr.of (n:=6) G Tryz.func136 Z a8 Z Z Z (λw0=>?_)
 exact c3c
theorem a8g (sl:List Slot) (wa:List Wtr) (hl:sl.length<=1048576) (hw:wa.length<=1048576):Ctr Tryz.prog 201 [.lst 3 (sl.map e9),.lst 2 (wa.map f7)] (.one (.v (.bool (a73 ⟨sl,wa⟩)))):=by
 refine Ctr.of (n:=58) G Tryz.func201 Z a8 Z Z Z (λw0=>?_)
 refine zcl (a8f _ a1Q) ?_
 refine zcd (λh1=>?_) (λh1=>?_)
 ·exact ws9
 refine zgo ?_
 refine d9 [0,1,10,11] [] (λ(i:Nat)=>[(12,.v (.int .i64 (i:Int)))]) (λ(i:Nat)=>[]) (λ(i:Nat)=>i<=wa.length/\∀j,j < i→oneWa sl wa j=true) (λ(i:Nat)=>wa.length - i) 0 Z Z ?_ ?_ ?_ ?_
 ·exact D9
 ·exact u3
 ·exact trivial
 intro i hinv
 have ht:0 < i→((i:Int) - 1).toNat=i - 1:=λ_=>J
 refine vm4 ?_
 refine zcd (λh2=>?_) (λh2=>?_)
 ·refine a6q ?_
  refine zgd ?_
  refine zcl (a0f _) ?_
  refine zcd (λh3=>?_) (λh3=>?_)
  ·refine zwt ?_
   exact ws9
  refine zcl (R3 _) ?_
  refine zcd (λh4=>?_) (λh4=>?_)
  ·refine zwt ?_
   exact ws9
  refine zcl (B8 sl _ hl) ?_
  refine zcd (λh5=>?_) (λh5=>?_)
  ·refine zwt ?_
   exact ws9
  refine zgo ?_
  refine c5K ?_
  refine zgo ?_
  refine b0v ?_
  refine r5 Z Z (f9 Z (ArgsOK.of (congrArg some (congrArg (λz=>[AV.lst 2 z,.v (.int .i64 (wa.getD i default).q)]) (a1s (xs:=wa) (i:=i))))) (Ctr.eq (a0G (wa.take i) _ B1) (congrArg (λz=>Res.one (.v (.int .i64 z))) (b75 J))) Z) ?_
  refine zcd (λh6=>?_) (λh6=>?_)
  ·refine zwt ?_
   exact ws9
  refine zcd (λh7=>?_) (λh7=>?_)
  ·refine zcl (w6 _ _) ?_
   refine zcd (λh8=>?_) (λh8=>?_)
   ·exact ws9
   refine zgo ?_
   refine ⟨(i+1),?_,?_,⟨⟨_,Z,by rfl⟩,Z,trivial⟩,trivial,Z,Z,Z⟩
   ·exact c8e
   omega
  refine zwf ?_
  refine zgo ?_
  refine ⟨(i+1),?_,?_,⟨⟨_,Z,by rfl⟩,Z,trivial⟩,trivial,Z,Z,Z⟩
  ·exact c8e
  omega
 refine zf1 ?_
 all_goals exact c7u
theorem a7f (sl:List Slot) (wa:List Wtr) (hl:sl.length<=1048576) (hw:wa.length<=1048576):Ctr Tryz.prog 189 [.lst 3 (sl.map e9),.lst 2 (wa.map f7)] (.one (.v (.bool (a73 ⟨sl,wa⟩)))):=by
 refine Ctr.of (n:=81) G Tryz.func189 Z a8 Z Z Z (λw0=>?_)
 refine zgo ?_
 refine d9 [0,1] [] (λ(i:Nat)=>[(5,.v (.int .i64 (i:Int)))]) (λ(i:Nat)=>[]) (λ(i:Nat)=>i<=wa.length/\∀j,j < i→oneWa sl wa j=true) (λ(i:Nat)=>wa.length - i) 0 Z Z ?_ ?_ ?_ ?_
 ·exact D9
 ·exact u3
 ·exact trivial
 intro i hinv
 have ht:0 < i→((i:Int) - 1).toNat=i - 1:=λ_=>J
 refine vm4 ?_
 refine zcd (λh1=>?_) (λh1=>?_)
 ·refine zcd (λh2=>?_) (λh2=>?_)
  ·refine a6q ?_
   refine zcl (a0g _) ?_
   refine zcd (λh3=>?_) (λh3=>?_)
   ·refine zwt ?_
    exact ws5
   refine zcl (V5 _) ?_
   refine zcd (λh4=>?_) (λh4=>?_)
   ·refine zwt ?_
    exact ws5
   refine zcl (E7 sl _ hl) ?_
   refine zcd (λh5=>?_) (λh5=>?_)
   ·exact ws5
   refine zgd ?_
   refine zcd (λh6=>?_) (λh6=>?_)
   ·refine zcl (J6 _ _ _ _) ?_
    refine zcd (λh7=>?_) (λh7=>?_)
    ·exact ws5
    refine zgo ?_
    refine d9 [0,1,5,6] [0] (λ(k:Nat)=>[(7,.v (.int .i64 (k:Int)))]) (λ(k:Nat)=>[]) (λ(k:Nat)=>k<=i/\∀j,j < k→(wa.getD j default).q≠(wa.getD i default).q) (λ(k:Nat)=>i - k) 0 Z Z ?_ ?_ ?_ ?_
    ·exact D9
    ·exact u3
    ·exact trivial
    intro k hk
    refine vm4 ?_
    refine zcd (λh8=>?_) (λh8=>?_)
    ·refine zgd ?_
     refine zcd (λh9=>?_) (λh9=>?_)
     ·exact ws5
     exact c3j
    refine zgo ?_
    refine ⟨(i+1),?_,?_,⟨⟨_,Z,by rfl⟩,Z,trivial⟩,trivial,Z,Z,Z⟩
    ·exact c29
    omega
   refine zwf ?_
   refine zgo ?_
   refine d9 [0,1,5,6] [0] (λ(k:Nat)=>[(7,.v (.int .i64 (k:Int)))]) (λ(k:Nat)=>[]) (λ(k:Nat)=>k<=i/\∀j,j < k→(wa.getD j default).q≠(wa.getD i default).q) (λ(k:Nat)=>i - k) 0 Z Z ?_ ?_ ?_ ?_
   ·exact D9
   ·exact u3
   ·exact trivial
   intro k hk
   refine vm4 ?_
   refine zcd (λh10=>?_) (λh10=>?_)
   ·refine zgd ?_
    refine zcd (λh11=>?_) (λh11=>?_)
    ·exact ws5
    exact c3j
   refine zgo ?_
   refine ⟨(i+1),?_,?_,⟨⟨_,Z,by rfl⟩,Z,trivial⟩,trivial,Z,Z,Z⟩
   ·exact c29
   omega
  refine zcl (a4z sl hl) ?_
  refine zcd (λh12=>?_) (λh12=>?_)
  ·exact ws5
  exact ws5
 refine zwf ?_
 refine zcl (a4z sl hl) ?_
 refine zcd (λh13=>?_) (λh13=>?_)
 ·exact ws5
 refine zf1 ?_
 all_goals exact c7s
theorem a1R (q:Que) (hl:q.sl.length<=1048576) (hw:q.wa.length<=1048576) (hd:b7W q.sl):Ctr Tryz.prog 202 [.agg [.lst 3 (q.sl.map e9),.lst 2 (q.wa.map f7)]] (.one (.v (.bool (setd q)))):=by
 have hbb:=@a0X q.sl false
 refine Ctr.of (n:=33) G Tryz.func202 Z a8 Z Z Z (λw0=>?_)
 refine j5 0 Z (λ_=>Z) (λu0=>?_)
 refine vm3 ?_
 refine zcd (λh1=>?_) (λh1=>?_)
 ·exact b31
 refine zcl (N1 q.sl false hl hd) ?_
 refine zgd ?_
 refine zcl (a05 q.sl hl) ?_
 refine zcd (λh2=>?_) (λh2=>?_)
 ·refine zcd (λh3=>?_) (λh3=>?_)
  ·exact b31
  refine zcl (z7 _) ?_
  refine zcl (w6 _ _) ?_
  exact b31
 exact b31
theorem a1S (q:Que) (hl:q.sl.length<=1048576) (hw:q.wa.length<=1048576):Ctr Tryz.prog 190 [.agg [.lst 3 (q.sl.map e9),.lst 2 (q.wa.map f7)]] (.one (.v (.bool (setd q)))):=by
 have hbb:=@a0X q.sl false
 refine Ctr.of (n:=42) G Tryz.func190 Z a8 Z Z Z (λw0=>?_)
 refine j5 0 Z (λ_=>Z) (λu0=>?_)
 refine vm3 ?_
 refine zcd (λh1=>?_) (λh1=>?_)
 ·exact b31
 refine zcl (a4y q.sl hl) ?_
 refine zcd (λh2=>?_) (λh2=>?_)
 ·exact b31
 refine zcl (a2H q.sl hl) ?_
 refine zgd ?_
 refine zcd (λh3=>?_) (λh3=>?_)
 ·exact b31
 refine zcl (J6 _ _ _ _) ?_
 exact b31
theorem a9Y (q:Que) (hl:q.sl.length<=1048576) (hw:q.wa.length<=1048576):Ctr Tryz.prog 156 [.agg [.lst 3 (q.sl.map e9),.lst 2 (q.wa.map f7)]] (.one (.v (.bool (b0q q)))):=by
 refine Ctr.of (n:=12) G Tryz.func156 Z a8 Z Z Z (λw0=>?_)
 refine j5 0 Z (λ_=>Z) (λu0=>?_)
 refine vm3 ?_
 refine zcl (a8g q.sl q.wa hl hw) ?_
 refine zcd (λh1=>?_) (λh1=>?_)
 ·have hpf:=paF.mp h1
  refine zcl (a1R q hl hw hpf.sl.difS) ?_
  exact c1G
 exact c1G
theorem b0y (q:Que) (hl:q.sl.length<=1048576) (hw:q.wa.length<=1048576):Ctr Tryz.prog 139 [.agg [.lst 3 (q.sl.map e9),.lst 2 (q.wa.map f7)]] (.one (.v (.bool (b0q q)))):=by
 refine Ctr.of (n:=12) G Tryz.func139 Z a8 Z Z Z (λw0=>?_)
 refine j5 0 Z (λ_=>Z) (λu0=>?_)
 refine vm3 ?_
 refine zcl (a7f q.sl q.wa hl hw) ?_
 refine zcd (λh1=>?_) (λh1=>?_)
 ·refine zcl (a1S q hl hw) ?_
  exact c1G
 exact c1G
theorem a8h (q:Que) (hl:q.sl.length<=1048576) (hw:q.wa.length<=1048576):Ctr Tryz.prog 166 [.agg [.lst 3 (q.sl.map e9),.lst 2 (q.wa.map f7)]] (.shp true [some 2] [.fr 169 3 (q.sl.map e9),.fr 182 2 (q.wa.map f7) true]):=by
 exact c3Q
end Go.Proofs.YtpfhomblkgmkkaaGreatDoor
