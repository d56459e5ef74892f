/- Texts merged into one: M2, M4, M12, W5, M3. -/
import Derived.Test.YtpfhomblkgmkkaaGreatDoorPFnExactExecuteCommandA
set_option maxHeartbeats 4000000
set_option linter.unusedSimpArgs false
set_option linter.unusedVariables false
set_option maxRecDepth 20000
namespace Go.Proofs.YtpfhomblkgmkkaaGreatDoor
open Go Go.Rf
theorem Y5 (sl:List Slot) (i:Int) (x:Slot) (hl:sl.length<=1048576) (hi:0<=i/\i < sl.length):Ctr Tryz.prog 312 [.lst 3 (sl.map e9),.v (.int .i64 i),.v (a2x x)] (.one (.fr 169 3 ((sl.set i.toNat x).map e9))):=by
 refine Ctr.of (n:=16) G Tryz.func312 Z a8 Z Z Z (λw0=>?_)
 exact c77
theorem F2 (sl:List Slot) (i:Int) (x:Slot) (hl:sl.length<=1048576) (hi:0<=i/\i < sl.length):Ctr Tryz.prog 317 [.lst 3 (sl.map e9),.v (.int .i64 i),.v (a2x x)] (.one (.fr 169 3 ((sl.set i.toNat x).map e9))):=by
 refine Ctr.of (n:=16) G Tryz.func317 Z a8 Z Z Z (λw0=>?_)
 exact c77
theorem N4 (sl:List Slot) (most:Bool) (hl:sl.length<=1048576) (hd:b7S sl):Ctr Tryz.prog 250 [.lst 3 (sl.map e9),.v (.bool most)] (.one (.v (.int .i64 (bstS sl most)))):=by
 refine Ctr.of (n:=38) G Tryz.func250 Z a8 Z Z Z (λw0=>?_)
 refine zgo ?_
 refine e6 [0,1,8,9] [] (λ(i:Nat)=>[(5,.v (.int .i64 (G2 sl most i))),(10,.v (.int .i64 (i:Int)))]) (λ(i:Nat)=>[]) (λ(i:Nat)=>i<=sl.length) (λ(i:Nat)=>sl.length - i) 0 Z Z ?_ ?_ ?_ ?_
 ·exact B2
 ·exact R5
 ·exact trivial
 intro i hinv
 have hb:=@a2j sl most i
 refine vm4 ?_
 refine zcd (λh1=>?_) (λh1=>?_)
 ·refine a6x ?_
  refine zgd ?_
  refine zcd (λh2=>?_) (λh2=>?_)
  ·refine zcd (λh3=>?_) (λh3=>?_)
   ·refine zwt ?_
    exact c1s
   refine zcl (z6 _) ?_
   refine zcl (z6 _) ?_
   refine zcl (w7 _ _) ?_
   refine zgo ?_
   refine b0A ?_
   refine s1 Z Z (c6q (G 4 _ Z).1 Z Z Z) ?_
   refine zcd (λh4=>?_) (λh4=>?_)
   ·exact c1s
   exact c1s
  refine zwf ?_
  exact c1s
 refine zf1 ?_
 all_goals ((rw [b2e J]))
theorem a2z (sl:List Slot) (hl:sl.length<=1048576):Ctr Tryz.prog 240 [.lst 3 (sl.map e9),.v (.bool true)] (.one (.v (.int .i64 (bstS sl true)))):=by
 refine Ctr.of (n:=66) G Tryz.func240 Z a8 Z Z Z (λw0=>?_)
 refine zgo ?_
 refine e6 [0,1] [] (λ(i:Nat)=>[(5,.v (.int .i64 (G2 sl true i))),(6,.v (.int .i64 (i:Int)))]) (λ(i:Nat)=>[]) (λ(i:Nat)=>i<=sl.length) (λ(i:Nat)=>sl.length - i) 0 Z Z ?_ ?_ ?_ ?_
 ·exact B2
 ·exact R5
 ·exact trivial
 intro i hinv
 have hb:=@a2j sl true i
 refine vm4 ?_
 refine zcd (λh1=>?_) (λh1=>?_)
 ·refine a6x ?_
  refine zcd (λh2=>?_) (λh2=>?_)
  ·exact ws7
  refine zgd ?_
  refine zcd (λh3=>?_) (λh3=>?_)
  ·refine zwt ?_
   exact ws7
  refine zcl (J8 _ _ _ _) ?_
  refine zcd (λh4=>?_) (λh4=>?_)
  ·refine zwt ?_
   exact ws7
  refine zwf ?_
  exact ws7
 refine zf1 ?_
 all_goals ((rw [b2e J]))
theorem a2A (sl:List Slot) (hl:sl.length<=1048576):Ctr Tryz.prog 240 [.lst 3 (sl.map e9),.v (.bool false)] (.one (.v (.int .i64 (bstS sl false)))):=by
 refine Ctr.of (n:=66) G Tryz.func240 Z a8 Z Z Z (λw0=>?_)
 refine zgo ?_
 refine e6 [0,1] [] (λ(i:Nat)=>[(5,.v (.int .i64 (G2 sl false i))),(6,.v (.int .i64 (i:Int)))]) (λ(i:Nat)=>[]) (λ(i:Nat)=>i<=sl.length) (λ(i:Nat)=>sl.length - i) 0 Z Z ?_ ?_ ?_ ?_
 ·exact B2
 ·exact R5
 ·exact trivial
 intro i hinv
 have hb:=@a2j sl false i
 refine vm4 ?_
 refine zcd (λh1=>?_) (λh1=>?_)
 ·refine a6x ?_
  refine zcd (λh2=>?_) (λh2=>?_)
  ·exact ws7
  refine zgd ?_
  refine zcd (λh3=>?_) (λh3=>?_)
  ·refine zwt ?_
   exact ws7
  refine zcl (J8 _ _ _ _) ?_
  refine zcd (λh4=>?_) (λh4=>?_)
  ·exact ws7
  exact ws7
 refine zf1 ?_
 all_goals ((rw [b2e J]))
theorem a3z (x:Wtr) (irq:Int):Ctr Tryz.prog 296 [.v (a0T x),.ept [.int .i64 irq]] (.one (.v (.bool (decide (x.q=irq))))):=by
 refine Ctr.of (n:=8) G Tryz.func296 Z a8 Z Z Z (λw0=>?_)
 exact c3Z
theorem E2 (xs:List Wtr) (f:Nat) (c:List Value) (p:Wtr→Bool) (hl:xs.length<=1048576) (hf:∀i,i < xs.length→Ctr Tryz.prog f [.v (a0T (xs.getD i default)),.ept c] (.one (.v (.bool (p (xs.getD i default)))))):Ctr Tryz.prog 207 [.lst 2 (xs.map e7),.fnc f [.ept c]] (.one (.v (.int .i64 (G6 (λi=>p (xs.getD i default)) xs.length)))):=by
 exact c3Y
theorem a0E (wa:List Wtr) (irq:Int) (hw:wa.length<=1048576):Ctr Tryz.prog 249 [.lst 2 (wa.map e7),.v (.int .i64 irq)] (.one (.v (.int .i64 (inW wa irq)))):=by
 refine Ctr.of (n:=8) G Tryz.func249 Z a8 Z Z Z (λw0=>?_)
 refine vm3 ?_
 refine p8 ?_
 refine b5 Z Z (a9d Z Z) ?_
 refine zcl (E2 wa 296 [.int .i64 irq] (λx=>decide (x.q=irq)) hw (λk hk=>a3z _ _)) ?_
 exact a9X
theorem b2P (wa:List Wtr) (irq:Int) (hw:wa.length<=1048576):Ctr Tryz.prog 316 [.lst 2 (wa.map e7),.v (.int .i64 irq)] (.one (.v (.int .i64 (inW wa irq)))):=by
 refine Ctr.of (n:=20) G Tryz.func316 Z a8 Z Z Z (λw0=>?_)
 refine zgo ?_
 refine e6 [0,1] [] (λ(i:Nat)=>[(5,.v (.int .i64 (i:Int)))]) (λ(i:Nat)=>[]) (λ(i:Nat)=>i<=wa.length/\∀j,j < i→decide ((wa.getD j default).q=irq)=false) (λ(i:Nat)=>wa.length - i) 0 Z Z ?_ ?_ ?_ ?_
 ·exact E5
 ·exact u6
 ·exact trivial
 intro i hinv
 refine vm4 ?_
 refine zcd (λh1=>?_) (λh1=>?_)
 ·refine zcd (λh2=>?_) (λh2=>?_)
  ·refine zf1 ?_
   all_goals exact c2G
  refine zgo ?_
  refine ⟨(i+1),?_,?_,⟨⟨_,Z,by rfl⟩,Z,trivial⟩,trivial,Z,Z,Z⟩
  ·exact ⟨by omega,o9 hinv.2 (decide_eq_false i6)⟩
  omega
 refine zf1 ?_
 all_goals exact c2G
theorem G3 (xs:List Wtr) (v:Wtr) (i:Nat) (hi:i<=xs.length) (hl:xs.length<=100000):CtrM Tryz.prog 320 [.own 0,.v (.int .i64 (i:Int)),.own 1] [.row 182 2 (xs.map e7),.row 182 2 [e7 v]] (.one (.fr 182 2 ((xs.take i++[v]++xs.drop i).map e7))) [none,some (.row 182 2 [e7 v])]:=by
 refine CtrM.of (n:=95) (k:=2) G Tryz.func320 Z a8 Z Z Z Z Z Z Z (λw0 _ hpin=>?_)
 refine zgn ?_
 refine a45 ?_
 refine c5W ?_
 refine c7L ?_
 refine j9 Z (λh1=>?_) (λh1=>?_)
 ·try rw [h1]
  try simp only [rfb] at h1
  exact absurd h1 (by decide)
 try rw [h1]
 try simp only [rfb] at h1
 refine c7L ?_
 refine j9 Z (λh2=>?_) (λh2=>?_)
 ·try rw [h2]
  try simp only [rfb] at h2
  refine a45 ?_
  refine a4R (tx:=23) 3 Z Z Z Z Z<|j3 G (by rw [hpin];decide) rfl rfl rfl rfl rfl rfl rfl rfl rfl (by simp only [List.length_map,List.length_cons,List.length_nil];omega) rfl rfl ?_
  exact c70
 try rw [h2]
 try simp only [rfb] at h2
 refine zgn ?_
 refine n9 (n9 (b8 ?_))
 refine a3v ?_
 refine vm2 ?_
 refine zst ?_
 refine a7 Z (c4t G Z Z Z Z Z Z s6 (λgs hgs hall=>?_))
 simp only [List.length_map] at hgs
 refine zgn ?_
 refine j9 Z (λh3=>?_) (λh3=>?_)
 ·try rw [h3]
  try simp only [rfb] at h3
  try simp only [List.length_map] at h3
  refine n9 (b8 ?_)
  refine a3v ?_
  refine vm9 ?_
  refine a3v ?_
  refine vm2 ?_
  refine zst ?_
  refine vm2 ?_
  refine vm5 ?_
  refine b3l (k:=(xs.length+1 - i)) G 3 Z Z Z Z Z Z Z Z Z s6 s6 s6 s6 s6 s6 (λc hc=>(hall c hc).2) s6 ?_
  refine zgn ?_
  refine a45 ?_
  refine c5W ?_
  refine zst ?_
  refine vm5 ?_
  refine a7R G Z Z Z Z Z Z Z (SrcOK.of (vs:=[e7 v]) b9t (ArgOK.of Z) (by decide)) (by intro c hc;rw [List.mem_singleton.1 hc];exact ⟨Z,a9H v⟩) s6 s6 s6 ?_
  refine zgn ?_
  refine n9 (l3 9 [0,1] mixed a8 Z Z (λr0=>?_) (λ_ h=>h))
  refine c7K ?_
  refine d5 7 Z a8 a8 Z Z Z Z (V9 G Z Z Z Z Z Z s6 s6 s6 s6) (b7 (rs:=[4]) a8 Z (AllB.cons ?_ AllB.nil))
  refine g9 [0,1] Z Z (b5 Z Z (a6Q G Z Z Z Z Z Z J b53 b53) (b6 ⟨Z,?_⟩))
  refine b7 (rs:=[8]) a8 Z (AllB.cons ?_ AllB.nil)
  refine g9 [0,1] Z Z (a7R G Z Z Z Z Z Z Z (SrcOK.spare Z s6) (λc hc=>hall c (List.mem_of_mem_drop (List.mem_of_mem_take hc))) s6 s6 s6 (b6 ⟨Z,?_⟩))
  refine J1 ?_
  exact c70
 try rw [h3]
 try simp only [rfb] at h3
 try simp only [List.length_map] at h3
 refine zgn ?_
 refine a2G ?_
 refine vm2 ?_
 refine vm5 ?_
 refine b4q (N:=(xs.length+1)) G 3 Z Z Z Z Z Z Z Z s6 s6 s6 ?_
 refine zgn ?_
 refine n9 (n9 (b8 ?_))
 iterate 4 refine zst ?_
 refine vm2 ?_
 refine vm9 ?_
 refine vm5 ?_
 refine b5 Z Z (b4r (tr:=4) (t:=131) G Tryz.func321 a8 a8 a8 a8 Z Z Z Z s6 Z Z Z s6 (by decide) s6) ?_
 refine zgn ?_
 refine L8 Z (n9 ?_)
 apply x7 [0,1,2] [1,2] 3 9 [1] mixed a8 Z Z (λ_ h=>znk h)
 ·intro r0
  refine c7K ?_
  refine b7 (rs:=[4,7]) a8 Z (AllB.cons ?_ (AllB.cons ?_ AllB.nil))
  ·refine g9 [1] Z Z (b5 Z Z (V9 G Z Z Z Z Z Z s6 s6 s6 s6) (b6 ⟨Z,?_⟩))
   refine b7 (rs:=[7]) a8 Z (AllB.cons ?_ AllB.nil)
   exact c7U
  refine g9 [1] Z Z (b5 Z Z (V9 G Z Z Z Z Z Z s6 s6 s6 s6) (b6 ⟨Z,?_⟩))
  refine b7 (rs:=[4]) a8 Z (AllB.cons ?_ AllB.nil)
  exact c7U
 refine n9 (b8 ?_)
 refine a3v ?_
 refine vm9 ?_
 refine zst ?_
 refine vm5 ?_
 refine a4t G Z Z Z Z Z Z Z (vs:=[e7 v]) (SrcOK.of (vs:=[e7 v]) b9t (ArgOK.of Z) (by decide)) (L:=1) c2Q Z (by intro c hc;rw [List.mem_singleton.1 hc];exact a9H v) b9t s6 s6 ?_
 refine C8 ?_
 have ht1:((i:Int)+1).toNat=i+1:=by omega
 refine c6D (id:=2) Z (c6E (L0:=(xs.take i++[v]++xs.drop i).map e7) (by (rw [show xs.length+1=(xs.map e7).length+1 from by rw [List.length_map]];simp only [Int.toNat_natCast,ht1,Int.toNat_zero,List.length_drop,List.length_cons,List.length_nil,Nat.zero_add,List.map_append,List.map_take,List.map_drop,List.map_cons,List.map_nil,Nat.sub_zero];exact b3m (by rw [List.length_map];exact hi) J)) (λc hc=>(by obtain ⟨x,_,rfl⟩:=List.mem_map.1 hc;exact a9H x))) (f6 (G7 Z (d7 Z ?_) Z (AftOK.gone (AftOK.stays Z ?_ Z AftOK.nil))))
 all_goals exact c2o
theorem a00 (wa:List Wtr) (w:Wtr) (hw:wa.length<=100000):Ctr Tryz.prog 311 [.lst 2 (wa.map e7),.v (a0T w)] (.one (.fr 182 2 ((insW wa w).map e7))):=by
 refine Ctr.of (n:=28) G Tryz.func311 Z a8 Z Z Z (λw0=>?_)
 refine vm3 ?_
 refine zgo ?_
 refine e6 [0,3] [0] (λ(i:Nat)=>[(5,.v (.int .i64 (i:Int)))]) (λ(i:Nat)=>[]) (λ(i:Nat)=>i<=wa.length/\∀j,j < i→lessW (wa.getD j default) w=true) (λ(i:Nat)=>wa.length - i) 0 Z Z ?_ ?_ ?_ ?_
 ·exact E5
 ·exact u6
 ·exact trivial
 intro i hinv
 refine vm4 ?_
 refine zgd ?_
 refine zcd (λh1=>?_) (λh1=>?_)
 ·refine zcl (w7 _ _) ?_
  refine zcd (λh2=>?_) (λh2=>?_)
  ·exact c3k
  refine zgo ?_
  apply x7 [4] [3] 4 8 [0] mixed a8 Z Z (λ_ h=>znk h)
  ·exact c7W
  refine zfo ?_
  all_goals exact c2H
 refine zwf ?_
 refine zgo ?_
 apply x7 [4] [3] 4 8 [0] mixed a8 Z Z (λ_ h=>znk h)
 ·exact c7W
 refine zfo ?_
 all_goals exact c2H
theorem a1g (wa:List Wtr) (w:Wtr) (hw:wa.length<=100000):Ctr Tryz.prog 193 [.lst 2 (wa.map e7),.v (a0T w)] (.one (.fr 182 2 ((insW wa w).map e7))):=by
 refine Ctr.of (n:=41) G Tryz.func193 Z a8 Z Z Z (λw0=>?_)
 refine vm3 ?_
 refine zgo ?_
 refine e6 [0,3] [0] (λ(i:Nat)=>[(5,.v (.int .i64 (i:Int)))]) (λ(i:Nat)=>[]) (λ(i:Nat)=>i<=wa.length/\∀j,j < i→lessW (wa.getD j default) w=true) (λ(i:Nat)=>wa.length - i) 0 Z Z ?_ ?_ ?_ ?_
 ·exact E5
 ·exact u6
 ·exact trivial
 intro i hinv
 refine vm4 ?_
 refine zgd ?_
 refine zcd (λh1=>?_) (λh1=>?_)
 ·refine zcl (J8 _ _ _ _) ?_
  refine zcd (λh2=>?_) (λh2=>?_)
  ·exact c3k
  refine zgo ?_
  apply x7 [4] [1] 3 13 [0] mixed a8 Z Z (λ_ h=>znk h)
  ·exact c7P
  refine zfo ?_
  all_goals exact c2I
 refine zwf ?_
 refine zgo ?_
 apply x7 [4] [1] 3 13 [0] mixed a8 Z Z (λ_ h=>znk h)
 ·exact c7P
 refine zfo ?_
 all_goals exact c2I
theorem a4g (n:Nat) (hn:n<=12):CtrE (α:=Int) Tryz.prog 262 [.v (.int .u64 (n:Int))] (λy=>(.one (.v (.int .i64 y)))):=by
 refine CtrE.of (n:=25) G Tryz.func262 Z a8 Z Z Z (λw0=>?_)
 refine zcd (λh1=>?_) (λh1=>?_)
 ·exfalso;omega
 refine zcd (λh2=>?_) (λh2=>?_)
 ·exfalso;omega
 refine zcd (λh3=>?_) (λh3=>?_)
 ·exfalso;omega
 refine zgo ?_
 refine c5R ?_
 refine vm5 ?_
 refine b5 Z Z (N9 G Z Z Z Z J (Int.lt_of_le_of_lt (show (n:Int)<=12 by omega) (by decide))) ?_
 refine c5R ?_
 refine vm2 ?_
 refine zgo ?_
 refine f6 (c4x (_) (D0 Z (l4 Z)))
 all_goals (rfl)
theorem a6z (n:Nat) (hn:n<=12):CtrE (α:=Int) Tryz.prog 204 [.v (.int .u64 (n:Int))] (λy=>(.one (.v (.int .i64 y)))):=by
 refine CtrE.of (n:=8) G Tryz.func204 Z a8 Z Z Z (λw0=>?_)
 refine zwf ?_
 refine zgo ?_
 refine a7 Z (a9x 0 Z Z Z (ArgsOK.of Z) (a4g n hn) (λ_=>Z) Z (λy1=>?_))
 refine zgo ?_
 refine f6 (c4x (_) (D0 Z (l4 Z)))
 all_goals (rfl)
theorem E6 (d:List Wtr) (hd:b3J d) (hn:d.length<=12):CtrM Tryz.prog 272 [.own 0,.v (.int .i64 0),.v (.int .i64 (d.length:Int)),.v (.func (.func 174) #[] #[])] [.row 182 2 (d.map e7)] (.many []) [some (.row 182 2 ((srtW d).map e7))]:=by
 refine CtrM.of (n:=53) (k:=1) G Tryz.func272 Z a8 Z Z Z Z Z Z Z (λw0 _ hpin=>?_)
 refine n9 (C4 (Gh.fnc (t:=3) Z) ?_)
 refine zgo ?_
 refine e6 [0,1,2,3] [] (λ(i:Nat)=>[(8,.v (.int .i64 (i:Int)))]) (λ(i:Nat)=>[(0,some (.row 182 2 ((a8b d i).map e7)))]) (λ(i:Nat)=>1<=i/\(i<=d.length∨i=1)) (λ(i:Nat)=>d.length - i) 1 Z Z ?_ ?_ ?_ ?_
 ·exact ⟨Nat.le_refl _,.inr Z⟩
 ·exact a8g
 ·exact ⟨⟨_,Z,by (rw [c4M])⟩,Z,Z,trivial⟩
 intro i hi
 refine vm4 ?_
 refine zcd (λh1=>?_) (λh1=>?_)
 ·have hM:=c8r hd (i:=i) J
  have hPl:=hM.len
  have hRl:(d.drop (i+1)).length=d.length - (i+1):=List.length_drop
  refine zgo ?_
  refine e6 [0,1,2,3,8] [] (λ(j:Nat)=>[(9,.v (.int .i64 (j:Int)))]) (λ(j:Nat)=>[(0,some (.row 182 2 ((a2o (srtW (d.take i)) (d.getD i default) (d.drop (i+1)) j).map e7)))]) (λ(j:Nat)=>j<=i/\∀t,j<=t→t < i→lessW (d.getD i default) ((srtW (d.take i)).getD t default)=true) (λ(j:Nat)=>j) i Z Z ?_ ?_ ?_ ?_
  ·exact ⟨Nat.le_refl _,λt h1 h2=>by omega⟩
  ·exact a8g
  ·exact ⟨⟨_,Z,by (rw [b8y J])⟩,Z,Z,trivial⟩
  intro j hj
  have htn:0 < j→((j:Int) - 1).toNat=j - 1:=λ_=>J
  refine vm4 ?_
  refine zgd ?_
  refine zcd (λh2=>?_) (λh2=>?_)
  ·refine c7w ?_
   refine c7w ?_
   refine b0A ?_
   refine s1 Z Z (b1U Z Z (ArgsOK.of Z) Z (w7 _ _) Z) ?_
   refine zcd (λh3=>?_) (λh3=>?_)
   ·refine zgo ?_
    apply x7 [0,1,2,3,8,9] [0] 1 18 [] mixed a8 Z Z (λ_ h=>znk h)
    ·intro r0
     refine a0A ?_
     first | refine d5 4 Z a8 a8 Z Z Z Z (v7 Z Z Z Z J J) ?_ | refine d5 4 Z a8 a8 Z Z Z Z (A2 Z Z Z Z) ?_
     refine zsa 5 ?_
     refine zsa 6 ?_
     first | refine d5 7 Z a8 a8 Z Z Z Z (v7 Z Z Z Z J J) ?_ | refine d5 7 Z a8 a8 Z Z Z Z (A2 Z Z Z Z) ?_
     refine zsa 10 ?_
     refine zsa 11 ?_
     refine b7 (rs:=[8,12]) a8 Z (AllB.cons ?_ (AllB.cons ?_ AllB.nil))
     ·first | refine f9 [] Z Z (b5 Z Z (b9 G Z Z Z Z Z J a7Y) (b6 ⟨Z,?_⟩)) | refine f9 [] Z Z (b5 Z Z (b9 G Z Z Z Z Z J a7X) (b6 ⟨Z,?_⟩)) | refine f9 [] Z Z (b5 Z Z (b9 G Z Z Z Z Z J a7V) (b6 ⟨Z,?_⟩))
      refine b7 (rs:=[9,12]) a8 Z (AllB.cons ?_ (AllB.cons ?_ AllB.nil))
      ·first | refine f9 [] Z Z (b5 Z Z (d8 G Z Z Z Z (X0 J) Z) (b6 ⟨Z,?_⟩)) | refine f9 [] Z Z (b5 Z Z (d8 G Z Z Z Z (a0b J J) Z) (b6 ⟨Z,?_⟩)) | refine f9 [] Z Z (b5 Z Z (d8 G Z Z Z Z (a0W J J) Z) (b6 ⟨Z,?_⟩))
       refine b7 (rs:=[12]) a8 Z (AllB.cons ?_ AllB.nil)
       first | refine f9 [] Z Z (b5 Z Z (b9 G Z Z Z Z Z J a7Y) (b6 ⟨Z,?_⟩)) | refine f9 [] Z Z (b5 Z Z (b9 G Z Z Z Z Z J a7X) (b6 ⟨Z,?_⟩)) | refine f9 [] Z Z (b5 Z Z (b9 G Z Z Z Z Z J a7V) (b6 ⟨Z,?_⟩))
       refine b7 (rs:=[13]) a8 Z (AllB.cons ?_ AllB.nil)
       exact ws2
      exact c3z
     first | refine f9 [] Z Z (b5 Z Z (b9 G Z Z Z Z Z J a7Y) (b6 ⟨Z,?_⟩)) | refine f9 [] Z Z (b5 Z Z (b9 G Z Z Z Z Z J a7X) (b6 ⟨Z,?_⟩)) | refine f9 [] Z Z (b5 Z Z (b9 G Z Z Z Z Z J a7V) (b6 ⟨Z,?_⟩))
     refine b7 (rs:=[8,13]) a8 Z (AllB.cons ?_ (AllB.cons ?_ AllB.nil))
     ·exact c3z
     first | refine f9 [] Z Z (b5 Z Z (d8 G Z Z Z Z (X0 J) Z) (b6 ⟨Z,?_⟩)) | refine f9 [] Z Z (b5 Z Z (d8 G Z Z Z Z (a0b J J) Z) (b6 ⟨Z,?_⟩)) | refine f9 [] Z Z (b5 Z Z (d8 G Z Z Z Z (a0W J J) Z) (b6 ⟨Z,?_⟩))
     refine b7 (rs:=[8]) a8 Z (AllB.cons ?_ AllB.nil)
     first | refine f9 [] Z Z (b5 Z Z (b9 G Z Z Z Z Z J a7Y) (b6 ⟨Z,?_⟩)) | refine f9 [] Z Z (b5 Z Z (b9 G Z Z Z Z Z J a7X) (b6 ⟨Z,?_⟩)) | refine f9 [] Z Z (b5 Z Z (b9 G Z Z Z Z Z J a7V) (b6 ⟨Z,?_⟩))
     refine b7 (rs:=[9]) a8 Z (AllB.cons ?_ AllB.nil)
     exact ws2
    refine zgo ?_
    refine ⟨(j - 1),?_,?_,⟨⟨_,Z,by (congr 2;omega)⟩,Z,trivial⟩,⟨⟨_,Z,by (exact congrArg (λz=>Row.row _ _ z) (by rw [htn J];exact b6X J J))⟩,Z,Z,trivial⟩,Z,Z,Z⟩
    ·exact ⟨by omega,λt h1 h2=>(by by_cases e:t=j - 1<;>first | (subst e;exact a0U.mp J) | exact hj.2 t J h2)⟩
    omega
   refine zgo ?_
   refine ⟨(i+1),?_,?_,⟨⟨_,Z,by rfl⟩,Z,trivial⟩,⟨⟨_,Z,by (rw [b1m J,← b3O J hM.pw hM.dif (λt ht ht2=>hj.2 t ht J) c2U])⟩,Z,Z,trivial⟩,Z,Z,Z⟩
   ·omega
   omega
  refine zwf ?_
  refine zgo ?_
  refine ⟨(i+1),?_,?_,⟨⟨_,Z,by rfl⟩,Z,trivial⟩,⟨⟨_,Z,by (rw [b1m J,← b3O J hM.pw hM.dif (λt ht ht2=>hj.2 t ht J) c2U])⟩,Z,Z,trivial⟩,Z,Z,Z⟩
  ·omega
  omega
 refine X9 (a6T Z Z Z Z f8 Z (AftOK.stays Z ?_ Z AftOK.nil))
 all_goals (
  have e:a8b d i=srtW d:=b8x J
  rw [e]
 )
theorem J9 (d:List Wtr) (hd:b3J d) (hn:d.length<=12) (lim:Int):CtrM Tryz.prog 221 [.own 0,.v (.int .i64 0),.v (.int .i64 (d.length:Int)),.v (.int .i64 lim),.v (.func (.func 174) #[] #[])] [.row 182 2 (d.map e7)] (.many []) [some (.row 182 2 ((srtW d).map e7))]:=by
 refine CtrM.of (n:=148) (k:=1) G Tryz.func221 Z a8 Z Z Z Z Z Z Z (λw0 _ hpin=>?_)
 refine zgo ?_
 refine e6 [0,4] [0] (λ(u:Unit)=>[(1,.v (.int .i64 0)),(2,.v (.int .i64 (d.length:Int))),(3,.v (.int .i64 lim)),(10,.v (.bool true)),(11,.v (.bool true))]) (λ(u:Unit)=>[]) (λ(u:Unit)=>True) (λ(u:Unit)=>0) () Z Z ?_ ?_ ?_ ?_
 ·first | trivial | omega | (refine ⟨?_,?_⟩<;>omega)
 ·exact ⟨⟨_,Z,by (first | rfl | (simp;done) | (simp;omega))⟩,Z,⟨⟨_,Z,by (first | rfl | (simp;done) | (simp;omega))⟩,Z,⟨⟨_,Z,by (first | rfl | (simp;done) | (simp;omega))⟩,Z,⟨⟨_,Z,by (first | rfl | (simp;done) | (simp;omega))⟩,Z,⟨⟨_,Z,by (first | rfl | (simp;done) | (simp;omega))⟩,Z,trivial⟩⟩⟩⟩⟩
 ·exact trivial
 intro u hinv
 refine vm4 ?_
 refine zcd (λh1=>?_) (λh1=>?_)
 ·refine p8 ?_
  refine w4 1 [0] Z Z Z (E6 d hd hn) Z (RowsIn.cons Z RowsIn.nil) Z Z Z ?_
  refine zgo ?_
  refine f6 (a6T Z Z Z Z f8 Z (AftOK.stays Z ?_ Z AftOK.nil))
  all_goals (rfl)
 exfalso;omega
theorem E7 (d:List Wtr) (hd:b3J d) (hn:d.length<=12):CtrM Tryz.prog 173 [.own 0,.v (.func (.func 174) #[] #[])] [.row 182 2 (d.map e7)] (.many []) [some (.row 182 2 ((srtW d).map e7))]:=by
 refine CtrM.of (n:=14) (k:=1) G Tryz.func173 Z a8 Z Z Z Z Z Z Z (λw0 _ hpin=>?_)
 refine zgo ?_
 refine c5R ?_
 refine a7 Z (a9x 1 Z Z Z (ArgsOK.of Z) (a6z d.length hn) (λ_=>Z) Z (λy1=>?_))
 refine zgo ?_
 refine a7 Z (w4 1 [0] Z Z Z (J9 d hd hn _) Z (RowsIn.cons Z RowsIn.nil) Z Z Z (b6 (a6T Z Z Z Z f8 Z (AftOK.stays Z ?_ Z AftOK.nil))))
 all_goals (rfl)
theorem z7 (l:List Int) (hn:l.length<=1048576):Ctr Tryz.prog 157 [.lst 1 (l.map Rf.n7)] (.one (.fr 3 1 (l.map Rf.n7))):=by
 refine Ctr.of (n:=6) G Tryz.func157 Z a8 Z Z Z (λw0=>?_)
 exact c3h
theorem E3 (l:List Int) (hn:l.length<=1048576):Ctr Tryz.prog 136 [.lst 1 (l.map Rf.n7)] (.one (.fr 3 1 (l.map Rf.n7))):=by
 refine Ctr.of (n:=6) G Tryz.func136 Z a8 Z Z Z (λw0=>?_)
 exact c3h
theorem a8l (sl:List Slot) (wa:List Wtr) (hl:sl.length<=1048576) (hw:wa.length<=1048576):Ctr Tryz.prog 201 [.lst 3 (sl.map e9),.lst 2 (wa.map e7)] (.one (.v (.bool (a78 ⟨sl,wa⟩)))):=by
 refine Ctr.of (n:=58) G Tryz.func201 Z a8 Z Z Z (λw0=>?_)
 refine zcl (a8k _ a1O) ?_
 refine zcd (λh1=>?_) (λh1=>?_)
 ·exact ws9
 refine zgo ?_
 refine e6 [0,1,10,11] [] (λ(i:Nat)=>[(12,.v (.int .i64 (i:Int)))]) (λ(i:Nat)=>[]) (λ(i:Nat)=>i<=wa.length/\∀j,j < i→oneWa sl wa j=true) (λ(i:Nat)=>wa.length - i) 0 Z Z ?_ ?_ ?_ ?_
 ·exact E5
 ·exact u6
 ·exact trivial
 intro i hinv
 have ht:0 < i→((i:Int) - 1).toNat=i - 1:=λ_=>J
 refine vm4 ?_
 refine zcd (λh2=>?_) (λh2=>?_)
 ·refine a6x ?_
  refine zgd ?_
  refine zcl (a0c _) ?_
  refine zcd (λh3=>?_) (λh3=>?_)
  ·refine zwt ?_
   exact ws9
  refine zcl (R6 _) ?_
  refine zcd (λh4=>?_) (λh4=>?_)
  ·refine zwt ?_
   exact ws9
  refine zcl (B7 sl _ hl) ?_
  refine zcd (λh5=>?_) (λh5=>?_)
  ·refine zwt ?_
   exact ws9
  refine zgo ?_
  refine c5Q ?_
  refine zgo ?_
  refine b0A ?_
  refine s1 Z Z (f7 Z (ArgsOK.of (congrArg some (congrArg (λz=>[AV.lst 2 z,.v (.int .i64 (wa.getD i default).q)]) (a1m (xs:=wa) (i:=i))))) (Ctr.eq (a0E (wa.take i) _ B1) (congrArg (λz=>Res.one (.v (.int .i64 z))) (b71 J))) Z) ?_
  refine zcd (λh6=>?_) (λh6=>?_)
  ·refine zwt ?_
   exact ws9
  refine zcd (λh7=>?_) (λh7=>?_)
  ·refine zcl (w7 _ _) ?_
   refine zcd (λh8=>?_) (λh8=>?_)
   ·exact ws9
   refine zgo ?_
   refine ⟨(i+1),?_,?_,⟨⟨_,Z,by rfl⟩,Z,trivial⟩,trivial,Z,Z,Z⟩
   ·exact c8g
   omega
  refine zwf ?_
  refine zgo ?_
  refine ⟨(i+1),?_,?_,⟨⟨_,Z,by rfl⟩,Z,trivial⟩,trivial,Z,Z,Z⟩
  ·exact c8g
  omega
 refine zf1 ?_
 all_goals exact c2j
theorem a7l (sl:List Slot) (wa:List Wtr) (hl:sl.length<=1048576) (hw:wa.length<=1048576):Ctr Tryz.prog 189 [.lst 3 (sl.map e9),.lst 2 (wa.map e7)] (.one (.v (.bool (a78 ⟨sl,wa⟩)))):=by
 refine Ctr.of (n:=81) G Tryz.func189 Z a8 Z Z Z (λw0=>?_)
 refine zgo ?_
 refine e6 [0,1] [] (λ(i:Nat)=>[(5,.v (.int .i64 (i:Int)))]) (λ(i:Nat)=>[]) (λ(i:Nat)=>i<=wa.length/\∀j,j < i→oneWa sl wa j=true) (λ(i:Nat)=>wa.length - i) 0 Z Z ?_ ?_ ?_ ?_
 ·exact E5
 ·exact u6
 ·exact trivial
 intro i hinv
 have ht:0 < i→((i:Int) - 1).toNat=i - 1:=λ_=>J
 refine vm4 ?_
 refine zcd (λh1=>?_) (λh1=>?_)
 ·refine zcd (λh2=>?_) (λh2=>?_)
  ·refine a6x ?_
   refine zcl (a0d _) ?_
   refine zcd (λh3=>?_) (λh3=>?_)
   ·refine zwt ?_
    exact ws5
   refine zcl (V2 _) ?_
   refine zcd (λh4=>?_) (λh4=>?_)
   ·refine zwt ?_
    exact ws5
   refine zcl (F0 sl _ hl) ?_
   refine zcd (λh5=>?_) (λh5=>?_)
   ·exact ws5
   refine zgd ?_
   refine zcd (λh6=>?_) (λh6=>?_)
   ·refine zcl (J8 _ _ _ _) ?_
    refine zcd (λh7=>?_) (λh7=>?_)
    ·exact ws5
    refine zgo ?_
    refine e6 [0,1,5,6] [0] (λ(k:Nat)=>[(7,.v (.int .i64 (k:Int)))]) (λ(k:Nat)=>[]) (λ(k:Nat)=>k<=i/\∀j,j < k→(wa.getD j default).q≠(wa.getD i default).q) (λ(k:Nat)=>i - k) 0 Z Z ?_ ?_ ?_ ?_
    ·exact E5
    ·exact u6
    ·exact trivial
    intro k hk
    refine vm4 ?_
    refine zcd (λh8=>?_) (λh8=>?_)
    ·refine zgd ?_
     refine zcd (λh9=>?_) (λh9=>?_)
     ·exact ws5
     exact c3n
    refine zgo ?_
    refine ⟨(i+1),?_,?_,⟨⟨_,Z,by rfl⟩,Z,trivial⟩,trivial,Z,Z,Z⟩
    ·exact c3e
    omega
   refine zwf ?_
   refine zgo ?_
   refine e6 [0,1,5,6] [0] (λ(k:Nat)=>[(7,.v (.int .i64 (k:Int)))]) (λ(k:Nat)=>[]) (λ(k:Nat)=>k<=i/\∀j,j < k→(wa.getD j default).q≠(wa.getD i default).q) (λ(k:Nat)=>i - k) 0 Z Z ?_ ?_ ?_ ?_
   ·exact E5
   ·exact u6
   ·exact trivial
   intro k hk
   refine vm4 ?_
   refine zcd (λh10=>?_) (λh10=>?_)
   ·refine zgd ?_
    refine zcd (λh11=>?_) (λh11=>?_)
    ·exact ws5
    exact c3n
   refine zgo ?_
   refine ⟨(i+1),?_,?_,⟨⟨_,Z,by rfl⟩,Z,trivial⟩,trivial,Z,Z,Z⟩
   ·exact c3e
   omega
  refine zcl (a4D sl hl) ?_
  refine zcd (λh12=>?_) (λh12=>?_)
  ·exact ws5
  exact ws5
 refine zwf ?_
 refine zcl (a4D sl hl) ?_
 refine zcd (λh13=>?_) (λh13=>?_)
 ·exact ws5
 refine zf1 ?_
 all_goals exact c2h
theorem a1R (q:Que) (hl:q.sl.length<=1048576) (hw:q.wa.length<=1048576) (hd:b7S q.sl):Ctr Tryz.prog 202 [.agg [.lst 3 (q.sl.map e9),.lst 2 (q.wa.map e7)]] (.one (.v (.bool (setd q)))):=by
 have hbb:=@a0V q.sl false
 refine Ctr.of (n:=33) G Tryz.func202 Z a8 Z Z Z (λw0=>?_)
 refine j5 0 Z (λ_=>Z) (λu0=>?_)
 refine vm3 ?_
 refine zcd (λh1=>?_) (λh1=>?_)
 ·exact b38
 refine zcl (N4 q.sl false hl hd) ?_
 refine zgd ?_
 refine zcl (a03 q.sl hl) ?_
 refine zcd (λh2=>?_) (λh2=>?_)
 ·refine zcd (λh3=>?_) (λh3=>?_)
  ·exact b38
  refine zcl (z6 _) ?_
  refine zcl (w7 _ _) ?_
  exact b38
 exact b38
theorem a1S (q:Que) (hl:q.sl.length<=1048576) (hw:q.wa.length<=1048576):Ctr Tryz.prog 190 [.agg [.lst 3 (q.sl.map e9),.lst 2 (q.wa.map e7)]] (.one (.v (.bool (setd q)))):=by
 have hbb:=@a0V q.sl false
 refine Ctr.of (n:=42) G Tryz.func190 Z a8 Z Z Z (λw0=>?_)
 refine j5 0 Z (λ_=>Z) (λu0=>?_)
 refine vm3 ?_
 refine zcd (λh1=>?_) (λh1=>?_)
 ·exact b38
 refine zcl (a4C q.sl hl) ?_
 refine zcd (λh2=>?_) (λh2=>?_)
 ·exact b38
 refine zcl (a2A q.sl hl) ?_
 refine zgd ?_
 refine zcd (λh3=>?_) (λh3=>?_)
 ·exact b38
 refine zcl (J8 _ _ _ _) ?_
 exact b38
theorem a91 (q:Que) (hl:q.sl.length<=1048576) (hw:q.wa.length<=1048576):Ctr Tryz.prog 156 [.agg [.lst 3 (q.sl.map e9),.lst 2 (q.wa.map e7)]] (.one (.v (.bool (b0u q)))):=by
 refine Ctr.of (n:=12) G Tryz.func156 Z a8 Z Z Z (λw0=>?_)
 refine j5 0 Z (λ_=>Z) (λu0=>?_)
 refine vm3 ?_
 refine zcl (a8l q.sl q.wa hl hw) ?_
 refine zcd (λh1=>?_) (λh1=>?_)
 ·have hpf:=paF.mp h1
  refine zcl (a1R q hl hw hpf.sl.difS) ?_
  exact c1H
 exact c1H
theorem b0E (q:Que) (hl:q.sl.length<=1048576) (hw:q.wa.length<=1048576):Ctr Tryz.prog 139 [.agg [.lst 3 (q.sl.map e9),.lst 2 (q.wa.map e7)]] (.one (.v (.bool (b0u q)))):=by
 refine Ctr.of (n:=12) G Tryz.func139 Z a8 Z Z Z (λw0=>?_)
 refine j5 0 Z (λ_=>Z) (λu0=>?_)
 refine vm3 ?_
 refine zcl (a7l q.sl q.wa hl hw) ?_
 refine zcd (λh1=>?_) (λh1=>?_)
 ·refine zcl (a1S q hl hw) ?_
  exact c1H
 exact c1H
theorem a8m (q:Que) (hl:q.sl.length<=1048576) (hw:q.wa.length<=1048576):Ctr Tryz.prog 166 [.agg [.lst 3 (q.sl.map e9),.lst 2 (q.wa.map e7)]] (.shp true [some 2] [.fr 169 3 (q.sl.map e9),.fr 182 2 (q.wa.map e7) true]):=by
 exact c3W
end Go.Proofs.YtpfhomblkgmkkaaGreatDoor
