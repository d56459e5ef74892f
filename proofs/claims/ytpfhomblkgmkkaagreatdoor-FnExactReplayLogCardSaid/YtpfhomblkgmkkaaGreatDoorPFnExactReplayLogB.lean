/- Texts merged into one: M2, M4, M12, W5, M3. -/
import Derived.Test.YtpfhomblkgmkkaaGreatDoorPFnExactReplayLogA
set_option maxHeartbeats 4000000
set_option linter.unusedSimpArgs false
set_option linter.unusedVariables false
set_option maxRecDepth 20000
namespace Go.Proofs.YtpfhomblkgmkkaaGreatDoor
open Go Go.Rf
theorem a2M (sl:List Slot) (i:Int) (x:Slot) (hl:sl.length≤1048576) (hi:0≤i∧i < sl.length):Ctr Tryz.prog 312 [.lst 3 (sl.map j8),.v (.int .i64 i),.v (a7w x)] (.one (.fr 169 3 ((sl.set i.toNat x).map j8))):=by
 refine Ctr.of (n:=16) G Tryz.func312 rfl b3 rfl rfl rfl (fun w0=>?_)
 refine c3W ?_
 all_goals (first | rfl | exact a12 | (simp only [List.nil_append];exact a12))
theorem P8 (sl:List Slot) (i:Int) (x:Slot) (hl:sl.length≤1048576) (hi:0≤i∧i < sl.length):Ctr Tryz.prog 317 [.lst 3 (sl.map j8),.v (.int .i64 i),.v (a7w x)] (.one (.fr 169 3 ((sl.set i.toNat x).map j8))):=by
 refine Ctr.of (n:=16) G Tryz.func317 rfl b3 rfl rfl rfl (fun w0=>?_)
 refine c3W ?_
 all_goals (first | rfl | exact a12 | (simp only [List.nil_append];exact a12))
theorem R7 (sl:List Slot) (most:Bool) (hl:sl.length≤1048576) (hd:b66 sl):Ctr Tryz.prog 250 [.lst 3 (sl.map j8),.v (.bool most)] (.one (.v (.int .i64 (bstS sl most)))):=by
 refine Ctr.of (n:=38) G Tryz.func250 rfl b3 rfl rfl rfl (fun w0=>?_)
 refine zgo ?_
 refine i7 [0,1,8,9] [] (fun (i:Nat)=>[(5,.v (.int .i64 (I5 sl most i))),(10,.v (.int .i64 (i:Int)))]) (fun (i:Nat)=>[]) (fun (i:Nat)=>i≤sl.length) (fun (i:Nat)=>sl.length - i) 0 rfl rfl ?_ ?_ ?_ ?_
 ·exact Nat.zero_le _
 ·exact ⟨⟨_,rfl,by rfl⟩,rfl,⟨⟨_,rfl,by rfl⟩,rfl,trivial⟩⟩
 ·exact trivial
 intro i hinv
 have hb:=@a2y sl most i
 simp only [List.cons_append,List.nil_append]
 refine zcd (fun h1=>?_) (fun h1=>?_)
 ·refine a3x ?_
  refine zgd ?_
  refine zcd (fun h2=>?_) (fun h2=>?_)
  ·refine zcd (fun h3=>?_) (fun h3=>?_)
   ·refine zwt ?_
    refine zgo ?_
    refine ⟨(i+1),?_,?_,⟨⟨_,rfl,by (first | rfl | (rw [s5 (A3 c8)];done) | (rw [s4 (A4 c8 c8)];done) | (rw [s4 ((O2 hd (by omega) c8 (by omega)).trans X7)];done) | (rw [s5 ((O2 hd (by omega) c8 (by omega)).trans X7)];done))⟩,rfl,⟨⟨_,rfl,by (first | rfl | (rw [s5 (A3 c8)];done) | (rw [s4 (A4 c8 c8)];done) | (rw [s4 ((O2 hd (by omega) c8 (by omega)).trans X7)];done) | (rw [s5 ((O2 hd (by omega) c8 (by omega)).trans X7)];done))⟩,rfl,trivial⟩⟩,trivial,rfl,rfl,rfl⟩
    ·omega
    omega
   refine zcl (y8 _) ?_
   refine zcl (y8 _) ?_
   refine zcl (B1 _ _) ?_
   refine zgo ?_
   refine a97 ?_
   refine u9 rfl rfl (c24 (G 4 _ rfl).1 rfl rfl rfl) ?_
   refine zcd (fun h4=>?_) (fun h4=>?_)
   ·refine zgo ?_
    refine ⟨(i+1),?_,?_,⟨⟨_,rfl,by (first | rfl | (rw [s5 (A3 c8)];done) | (rw [s4 (A4 c8 c8)];done) | (rw [s4 ((O2 hd (by omega) c8 (by omega)).trans X7)];done) | (rw [s5 ((O2 hd (by omega) c8 (by omega)).trans X7)];done))⟩,rfl,⟨⟨_,rfl,by (first | rfl | (rw [s5 (A3 c8)];done) | (rw [s4 (A4 c8 c8)];done) | (rw [s4 ((O2 hd (by omega) c8 (by omega)).trans X7)];done) | (rw [s5 ((O2 hd (by omega) c8 (by omega)).trans X7)];done))⟩,rfl,trivial⟩⟩,trivial,rfl,rfl,rfl⟩
    ·omega
    omega
   refine zgo ?_
   refine ⟨(i+1),?_,?_,⟨⟨_,rfl,by (first | rfl | (rw [s5 (A3 c8)];done) | (rw [s4 (A4 c8 c8)];done) | (rw [s4 ((O2 hd (by omega) c8 (by omega)).trans X7)];done) | (rw [s5 ((O2 hd (by omega) c8 (by omega)).trans X7)];done))⟩,rfl,⟨⟨_,rfl,by (first | rfl | (rw [s5 (A3 c8)];done) | (rw [s4 (A4 c8 c8)];done) | (rw [s4 ((O2 hd (by omega) c8 (by omega)).trans X7)];done) | (rw [s5 ((O2 hd (by omega) c8 (by omega)).trans X7)];done))⟩,rfl,trivial⟩⟩,trivial,rfl,rfl,rfl⟩
   ·omega
   omega
  refine zwf ?_
  refine zgo ?_
  refine ⟨(i+1),?_,?_,⟨⟨_,rfl,by (first | rfl | (rw [s5 (A3 c8)];done) | (rw [s4 (A4 c8 c8)];done) | (rw [s4 ((O2 hd (by omega) c8 (by omega)).trans X7)];done) | (rw [s5 ((O2 hd (by omega) c8 (by omega)).trans X7)];done))⟩,rfl,⟨⟨_,rfl,by (first | rfl | (rw [s5 (A3 c8)];done) | (rw [s4 (A4 c8 c8)];done) | (rw [s4 ((O2 hd (by omega) c8 (by omega)).trans X7)];done) | (rw [s5 ((O2 hd (by omega) c8 (by omega)).trans X7)];done))⟩,rfl,trivial⟩⟩,trivial,rfl,rfl,rfl⟩
  ·omega
  omega
 refine zf1 ?_
 all_goals ((rw [b1y (by omega)]))
theorem a2O (sl:List Slot) (hl:sl.length≤1048576):Ctr Tryz.prog 240 [.lst 3 (sl.map j8),.v (.bool true)] (.one (.v (.int .i64 (bstS sl true)))):=by
 refine Ctr.of (n:=66) G Tryz.func240 rfl b3 rfl rfl rfl (fun w0=>?_)
 refine zgo ?_
 refine i7 [0,1] [] (fun (i:Nat)=>[(5,.v (.int .i64 (I5 sl true i))),(6,.v (.int .i64 (i:Int)))]) (fun (i:Nat)=>[]) (fun (i:Nat)=>i≤sl.length) (fun (i:Nat)=>sl.length - i) 0 rfl rfl ?_ ?_ ?_ ?_
 ·exact Nat.zero_le _
 ·exact ⟨⟨_,rfl,by rfl⟩,rfl,⟨⟨_,rfl,by rfl⟩,rfl,trivial⟩⟩
 ·exact trivial
 intro i hinv
 have hb:=@a2y sl true i
 simp only [List.cons_append,List.nil_append]
 refine zcd (fun h1=>?_) (fun h1=>?_)
 ·refine a3x ?_
  refine zcd (fun h2=>?_) (fun h2=>?_)
  ·refine zgo ?_
   refine ⟨(i+1),?_,?_,⟨⟨_,rfl,by (first | rfl | (rw [s5 (A3 c8)];done) | (rw [s4 (A4 (by omega) c8)];done) | (rw [s4 ((x6 (by omega) (by omega)).trans E0)];done) | (rw [s5 ((x6 (by omega) (by omega)).trans E0)];done))⟩,rfl,⟨⟨_,rfl,by (first | rfl | (rw [s5 (A3 c8)];done) | (rw [s4 (A4 (by omega) c8)];done) | (rw [s4 ((x6 (by omega) (by omega)).trans E0)];done) | (rw [s5 ((x6 (by omega) (by omega)).trans E0)];done))⟩,rfl,trivial⟩⟩,trivial,rfl,rfl,rfl⟩
   ·omega
   omega
  refine zgd ?_
  refine zcd (fun h3=>?_) (fun h3=>?_)
  ·refine zwt ?_
   refine zgo ?_
   refine ⟨(i+1),?_,?_,⟨⟨_,rfl,by (first | rfl | (rw [s5 (A3 c8)];done) | (rw [s4 (A4 (by omega) c8)];done) | (rw [s4 ((x6 (by omega) (by omega)).trans E0)];done) | (rw [s5 ((x6 (by omega) (by omega)).trans E0)];done))⟩,rfl,⟨⟨_,rfl,by (first | rfl | (rw [s5 (A3 c8)];done) | (rw [s4 (A4 (by omega) c8)];done) | (rw [s4 ((x6 (by omega) (by omega)).trans E0)];done) | (rw [s5 ((x6 (by omega) (by omega)).trans E0)];done))⟩,rfl,trivial⟩⟩,trivial,rfl,rfl,rfl⟩
   ·omega
   omega
  refine zcl (P9 _ _ _ _) ?_
  refine zcd (fun h4=>?_) (fun h4=>?_)
  ·refine zwt ?_
   refine zgo ?_
   refine ⟨(i+1),?_,?_,⟨⟨_,rfl,by (first | rfl | (rw [s5 (A3 c8)];done) | (rw [s4 (A4 (by omega) c8)];done) | (rw [s4 ((x6 (by omega) (by omega)).trans E0)];done) | (rw [s5 ((x6 (by omega) (by omega)).trans E0)];done))⟩,rfl,⟨⟨_,rfl,by (first | rfl | (rw [s5 (A3 c8)];done) | (rw [s4 (A4 (by omega) c8)];done) | (rw [s4 ((x6 (by omega) (by omega)).trans E0)];done) | (rw [s5 ((x6 (by omega) (by omega)).trans E0)];done))⟩,rfl,trivial⟩⟩,trivial,rfl,rfl,rfl⟩
   ·omega
   omega
  refine zwf ?_
  refine zgo ?_
  refine ⟨(i+1),?_,?_,⟨⟨_,rfl,by (first | rfl | (rw [s5 (A3 c8)];done) | (rw [s4 (A4 (by omega) c8)];done) | (rw [s4 ((x6 (by omega) (by omega)).trans E0)];done) | (rw [s5 ((x6 (by omega) (by omega)).trans E0)];done))⟩,rfl,⟨⟨_,rfl,by (first | rfl | (rw [s5 (A3 c8)];done) | (rw [s4 (A4 (by omega) c8)];done) | (rw [s4 ((x6 (by omega) (by omega)).trans E0)];done) | (rw [s5 ((x6 (by omega) (by omega)).trans E0)];done))⟩,rfl,trivial⟩⟩,trivial,rfl,rfl,rfl⟩
  ·omega
  omega
 refine zf1 ?_
 all_goals ((rw [b1y (by omega)]))
theorem a2P (sl:List Slot) (hl:sl.length≤1048576):Ctr Tryz.prog 240 [.lst 3 (sl.map j8),.v (.bool false)] (.one (.v (.int .i64 (bstS sl false)))):=by
 refine Ctr.of (n:=66) G Tryz.func240 rfl b3 rfl rfl rfl (fun w0=>?_)
 refine zgo ?_
 refine i7 [0,1] [] (fun (i:Nat)=>[(5,.v (.int .i64 (I5 sl false i))),(6,.v (.int .i64 (i:Int)))]) (fun (i:Nat)=>[]) (fun (i:Nat)=>i≤sl.length) (fun (i:Nat)=>sl.length - i) 0 rfl rfl ?_ ?_ ?_ ?_
 ·exact Nat.zero_le _
 ·exact ⟨⟨_,rfl,by rfl⟩,rfl,⟨⟨_,rfl,by rfl⟩,rfl,trivial⟩⟩
 ·exact trivial
 intro i hinv
 have hb:=@a2y sl false i
 simp only [List.cons_append,List.nil_append]
 refine zcd (fun h1=>?_) (fun h1=>?_)
 ·refine a3x ?_
  refine zcd (fun h2=>?_) (fun h2=>?_)
  ·refine zgo ?_
   refine ⟨(i+1),?_,?_,⟨⟨_,rfl,by (first | rfl | (rw [s5 (A3 c8)];done) | (rw [s4 (A4 (by omega) c8)];done) | (rw [s4 ((x6 (by omega) (by omega)).trans E0)];done) | (rw [s5 ((x6 (by omega) (by omega)).trans E0)];done))⟩,rfl,⟨⟨_,rfl,by (first | rfl | (rw [s5 (A3 c8)];done) | (rw [s4 (A4 (by omega) c8)];done) | (rw [s4 ((x6 (by omega) (by omega)).trans E0)];done) | (rw [s5 ((x6 (by omega) (by omega)).trans E0)];done))⟩,rfl,trivial⟩⟩,trivial,rfl,rfl,rfl⟩
   ·omega
   omega
  refine zgd ?_
  refine zcd (fun h3=>?_) (fun h3=>?_)
  ·refine zwt ?_
   refine zgo ?_
   refine ⟨(i+1),?_,?_,⟨⟨_,rfl,by (first | rfl | (rw [s5 (A3 c8)];done) | (rw [s4 (A4 (by omega) c8)];done) | (rw [s4 ((x6 (by omega) (by omega)).trans E0)];done) | (rw [s5 ((x6 (by omega) (by omega)).trans E0)];done))⟩,rfl,⟨⟨_,rfl,by (first | rfl | (rw [s5 (A3 c8)];done) | (rw [s4 (A4 (by omega) c8)];done) | (rw [s4 ((x6 (by omega) (by omega)).trans E0)];done) | (rw [s5 ((x6 (by omega) (by omega)).trans E0)];done))⟩,rfl,trivial⟩⟩,trivial,rfl,rfl,rfl⟩
   ·omega
   omega
  refine zcl (P9 _ _ _ _) ?_
  refine zcd (fun h4=>?_) (fun h4=>?_)
  ·refine zgo ?_
   refine ⟨(i+1),?_,?_,⟨⟨_,rfl,by (first | rfl | (rw [s5 (A3 c8)];done) | (rw [s4 (A4 (by omega) c8)];done) | (rw [s4 ((x6 (by omega) (by omega)).trans E0)];done) | (rw [s5 ((x6 (by omega) (by omega)).trans E0)];done))⟩,rfl,⟨⟨_,rfl,by (first | rfl | (rw [s5 (A3 c8)];done) | (rw [s4 (A4 (by omega) c8)];done) | (rw [s4 ((x6 (by omega) (by omega)).trans E0)];done) | (rw [s5 ((x6 (by omega) (by omega)).trans E0)];done))⟩,rfl,trivial⟩⟩,trivial,rfl,rfl,rfl⟩
   ·omega
   omega
  refine zgo ?_
  refine ⟨(i+1),?_,?_,⟨⟨_,rfl,by (first | rfl | (rw [s5 (A3 c8)];done) | (rw [s4 (A4 (by omega) c8)];done) | (rw [s4 ((x6 (by omega) (by omega)).trans E0)];done) | (rw [s5 ((x6 (by omega) (by omega)).trans E0)];done))⟩,rfl,⟨⟨_,rfl,by (first | rfl | (rw [s5 (A3 c8)];done) | (rw [s4 (A4 (by omega) c8)];done) | (rw [s4 ((x6 (by omega) (by omega)).trans E0)];done) | (rw [s5 ((x6 (by omega) (by omega)).trans E0)];done))⟩,rfl,trivial⟩⟩,trivial,rfl,rfl,rfl⟩
  ·omega
  omega
 refine zf1 ?_
 all_goals ((rw [b1y (by omega)]))
theorem a3z (x:Wtr) (irq:Int):Ctr Tryz.prog 296 [.v (a4j x),.ept [.int .i64 irq]] (.one (.v (.bool (decide (x.q=irq))))):=by
 refine Ctr.of (n:=8) G Tryz.func296 rfl b3 rfl rfl rfl (fun w0=>?_)
 refine vm1 ?_
 refine zf1 ?_
 all_goals (rfl)
theorem H4 (xs:List Wtr) (f:Nat) (c:List Value) (p:Wtr→Bool) (hl:xs.length≤1048576) (hf:∀ i,i < xs.length→Ctr Tryz.prog f [.v (a4j (xs.getD i default)),.ept c] (.one (.v (.bool (p (xs.getD i default)))))):Ctr Tryz.prog 207 [.lst 2 (xs.map l1),.fnc f [.ept c]] (.one (.v (.int .i64 (G5 (fun i=>p (xs.getD i default)) xs.length)))):=by
 refine Ctr.of (n:=19) G Tryz.func207 rfl b3 rfl rfl rfl (fun w0=>?_)
 refine zgo ?_
 refine i7 [0,1,7] [] (fun (i:Nat)=>[(8,.v (.int .i64 (i:Int)))]) (fun (i:Nat)=>[]) (fun (i:Nat)=>i≤xs.length∧∀ j,j < i→p (xs.getD j default)=false) (fun (i:Nat)=>xs.length - i) 0 rfl rfl ?_ ?_ ?_ ?_
 ·exact ⟨Nat.zero_le _,fun j hj=>by omega⟩
 ·exact ⟨⟨_,rfl,by (first | rfl | (simp;done) | (simp;omega))⟩,rfl,trivial⟩
 ·exact trivial
 intro i hinv
 simp only [List.cons_append,List.nil_append]
 refine zcd (fun h1=>?_) (fun h1=>?_)
 ·refine b6n ?_
  refine zcd (fun h2=>?_) (fun h2=>?_)
  ·refine zf1 ?_
   all_goals exact a7M
  refine zgo ?_
  refine ⟨(i+1),?_,?_,⟨⟨_,rfl,by rfl⟩,rfl,trivial⟩,trivial,rfl,rfl,rfl⟩
  ·exact ⟨by omega,i8 hinv.2 c8⟩
  omega
 refine zf1 ?_
 all_goals exact a7M
theorem a1h (wa:List Wtr) (irq:Int) (hw:wa.length≤1048576):Ctr Tryz.prog 249 [.lst 2 (wa.map l1),.v (.int .i64 irq)] (.one (.v (.int .i64 (inW wa irq)))):=by
 refine Ctr.of (n:=8) G Tryz.func249 rfl b3 rfl rfl rfl (fun w0=>?_)
 refine vm1 ?_
 refine vm5 ?_
 refine b6 rfl rfl (a8I rfl rfl) ?_
 refine zcl (H4 wa 296 [.int .i64 irq] (fun x=>decide (x.q=irq)) hw (fun k hk=>a3z _ _)) ?_
 refine zf1 ?_
 all_goals (rfl)
theorem b19 (wa:List Wtr) (irq:Int) (hw:wa.length≤1048576):Ctr Tryz.prog 316 [.lst 2 (wa.map l1),.v (.int .i64 irq)] (.one (.v (.int .i64 (inW wa irq)))):=by
 refine Ctr.of (n:=20) G Tryz.func316 rfl b3 rfl rfl rfl (fun w0=>?_)
 refine zgo ?_
 refine i7 [0,1] [] (fun (i:Nat)=>[(5,.v (.int .i64 (i:Int)))]) (fun (i:Nat)=>[]) (fun (i:Nat)=>i≤wa.length∧∀ j,j < i→decide ((wa.getD j default).q=irq)=false) (fun (i:Nat)=>wa.length - i) 0 rfl rfl ?_ ?_ ?_ ?_
 ·exact ⟨Nat.zero_le _,fun j hj=>by omega⟩
 ·exact ⟨⟨_,rfl,by (first | rfl | (simp;done) | (simp;omega))⟩,rfl,trivial⟩
 ·exact trivial
 intro i hinv
 simp only [List.cons_append,List.nil_append]
 refine zcd (fun h1=>?_) (fun h1=>?_)
 ·refine zcd (fun h2=>?_) (fun h2=>?_)
  ·refine zf1 ?_
   all_goals exact c0V
  refine zgo ?_
  refine ⟨(i+1),?_,?_,⟨⟨_,rfl,by rfl⟩,rfl,trivial⟩,trivial,rfl,rfl,rfl⟩
  ·exact ⟨by omega,i8 hinv.2 (decide_eq_false c8)⟩
  omega
 refine zf1 ?_
 all_goals exact c0V
end Go.Proofs.YtpfhomblkgmkkaaGreatDoor
set_option maxRecDepth 20000
namespace Go.Proofs.YtpfhomblkgmkkaaGreatDoor
open Go Go.Rf
theorem s9 (xs:List Wtr) (v:Wtr) (i:Nat) (hi:i≤xs.length) (hl:xs.length≤100000):CtrM Tryz.prog 320 [.own 0,.v (.int .i64 (i:Int)),.own 1] [.row 182 2 (xs.map l1),.row 182 2 [l1 v]] (.one (.fr 182 2 ((xs.take i++[v]++xs.drop i).map l1))) [none,some (.row 182 2 [l1 v])]:=by
 refine CtrM.of (n:=95) (k:=2) G Tryz.func320 rfl b3 rfl rfl rfl rfl rfl rfl rfl (fun w0 _ hpin=>?_)
 refine zgn ?_
 refine a33 ?_
 refine a18 ?_
 refine o9 ?_
 refine c2P ?_
 refine c33 ?_
 refine r7 rfl (fun h1=>?_) (fun h1=>?_)
 ·try rw [h1]
  try simp only [rfb] at h1
  exact absurd h1 (by decide)
 try rw [h1]
 try simp only [rfb] at h1
 refine c33 ?_
 refine r7 rfl (fun h2=>?_) (fun h2=>?_)
 ·try rw [h2]
  try simp only [rfb] at h2
  refine a33 ?_
  refine a18 ?_
  refine o9 ?_
  refine C6 (tx:=23) 3 rfl rfl rfl rfl rfl<|g9 G (by rw [hpin];decide) rfl rfl rfl rfl rfl rfl rfl rfl rfl (by simp only [List.length_map,List.length_cons,List.length_nil];omega) rfl rfl ?_
  refine zgn ?_
  refine c6 (a8M rfl (b7 rfl ?_) rfl (AftOK.gone (AftOK.stays rfl ?_ rfl AftOK.nil)))
  all_goals exact b8C
 try rw [h2]
 try simp only [rfb] at h2
 refine zgn ?_
 refine u4 ?_
 refine a33 ?_
 refine a18 ?_
 refine a9D ?_
 refine zst ?_
 refine a8 rfl (c1t G rfl rfl rfl rfl rfl rfl u5 (fun gs hgs hall=>?_))
 simp only [List.length_map] at hgs
 refine zgn ?_
 refine r7 rfl (fun h3=>?_) (fun h3=>?_)
 ·try rw [h3]
  try simp only [rfb] at h3
  try simp only [List.length_map] at h3
  refine a33 ?_
  refine a18 ?_
  refine vm8 ?_
  refine a18 ?_
  refine a9D ?_
  refine zst ?_
  refine a9D ?_
  refine o9 ?_
  refine b2C (k:=(xs.length+1 - i)) G 3 rfl rfl rfl rfl rfl rfl rfl rfl rfl u5 u5 u5 u5 u5 u5 (fun c hc=>(hall c hc).2) u5 ?_
  refine zgn ?_
  refine a33 ?_
  refine a18 ?_
  refine o9 ?_
  refine c2P ?_
  refine zst ?_
  refine o9 ?_
  refine a7s G rfl rfl rfl rfl rfl rfl rfl (SrcOK.of (vs:=[l1 v]) b8N (ArgOK.of rfl) (by decide)) (by intro c hc;rw [List.mem_singleton.1 hc];exact ⟨rfl,a9i v⟩) u5 u5 u5 ?_
  refine zgn ?_
  refine u4 (l4 9 [0,1] mixed b3 rfl rfl (fun r0=>?_) (fun _ h=>h))
  refine c32 ?_
  refine e9 7 rfl b3 b3 rfl rfl rfl rfl (S8 G rfl rfl rfl rfl rfl rfl u5 u5 u5 u5) (b5 (rs:=[4]) b3 rfl (AllB.cons ?_ AllB.nil))
  refine i1 [0,1] rfl rfl (b6 rfl rfl (a6E G rfl rfl rfl rfl rfl rfl (by omega) b5w b5w) (b4 ⟨rfl,?_⟩))
  refine b5 (rs:=[8]) b3 rfl (AllB.cons ?_ AllB.nil)
  refine i1 [0,1] rfl rfl (a7s G rfl rfl rfl rfl rfl rfl rfl (SrcOK.spare rfl u5) (fun c hc=>hall c (List.mem_of_mem_drop (List.mem_of_mem_take hc))) u5 u5 u5 (b4 ⟨rfl,?_⟩))
  refine G3 ?_
  refine zgn ?_
  refine c6 (a8M rfl (b7 rfl ?_) rfl (AftOK.gone (AftOK.stays rfl ?_ rfl AftOK.nil)))
  all_goals exact b8C
 try rw [h3]
 try simp only [rfb] at h3
 try simp only [List.length_map] at h3
 refine zgn ?_
 refine u4 ?_
 refine a94 ?_
 refine a9D ?_
 refine o9 ?_
 refine b3I (N:=(xs.length+1)) G 3 rfl rfl rfl rfl rfl rfl rfl rfl u5 u5 u5 ?_
 refine zgn ?_
 refine u4 ?_
 refine a33 ?_
 iterate 4 refine zst ?_
 refine a9D ?_
 refine vm8 ?_
 refine o9 ?_
 refine b6 rfl rfl (b3J (tr:=4) (t:=131) G Tryz.func321 b3 b3 b3 b3 rfl rfl rfl rfl u5 rfl rfl rfl u5 (by decide) u5) ?_
 refine zgn ?_
 refine J6 rfl (u4 ?_)
 apply x5 [0,1,2] [1,2] 3 9 [1] mixed b3 rfl rfl (fun _ h=>znk h)
 ·intro r0
  refine c32 ?_
  refine b5 (rs:=[4,7]) b3 rfl (AllB.cons ?_ (AllB.cons ?_ AllB.nil))
  ·refine i1 [1] rfl rfl (b6 rfl rfl (S8 G rfl rfl rfl rfl rfl rfl u5 u5 u5 u5) (b4 ⟨rfl,?_⟩))
   refine b5 (rs:=[7]) b3 rfl (AllB.cons ?_ AllB.nil)
   refine i1 [1] rfl rfl (b6 rfl rfl (S8 G rfl rfl rfl rfl rfl rfl u5 u5 u5 u5) (b4 ⟨rfl,?_⟩))
   refine b5 (rs:=[8]) b3 rfl (AllB.cons ?_ AllB.nil)
   refine i1 [1] rfl rfl (a1G G rfl rfl rfl rfl rfl rfl rfl (vs:=(xs.map l1).drop i) (SrcOK.spare rfl u5) (L:=xs.length - i) b8M (b4x a1z (by omega) u5 (by rw [List.length_map]) (by rw [List.length_map])) (fun c hc=>(hall c (List.mem_of_mem_drop hc)).2) (fun c hc=>(hall c (List.mem_of_mem_drop hc)).1) u5 u5 (b4 ⟨rfl,?_⟩))
   exact l6 b3 (Meet.mk rfl rfl rfl rfl)
  refine i1 [1] rfl rfl (b6 rfl rfl (S8 G rfl rfl rfl rfl rfl rfl u5 u5 u5 u5) (b4 ⟨rfl,?_⟩))
  refine b5 (rs:=[4]) b3 rfl (AllB.cons ?_ AllB.nil)
  refine i1 [1] rfl rfl (b6 rfl rfl (S8 G rfl rfl rfl rfl rfl rfl u5 u5 u5 u5) (b4 ⟨rfl,?_⟩))
  refine b5 (rs:=[8]) b3 rfl (AllB.cons ?_ AllB.nil)
  refine i1 [1] rfl rfl (a1G G rfl rfl rfl rfl rfl rfl rfl (vs:=(xs.map l1).drop i) (SrcOK.spare rfl u5) (L:=xs.length - i) b8M (b4x a1z (by omega) u5 (by rw [List.length_map]) (by rw [List.length_map])) (fun c hc=>(hall c (List.mem_of_mem_drop hc)).2) (fun c hc=>(hall c (List.mem_of_mem_drop hc)).1) u5 u5 (b4 ⟨rfl,?_⟩))
  exact l6 b3 (Meet.mk rfl rfl rfl rfl)
 refine a33 ?_
 refine a18 ?_
 refine vm8 ?_
 refine zst ?_
 refine o9 ?_
 refine a1G G rfl rfl rfl rfl rfl rfl rfl (vs:=[l1 v]) (SrcOK.of (vs:=[l1 v]) b8N (ArgOK.of rfl) (by decide)) (L:=1) b8M rfl (by intro c hc;rw [List.mem_singleton.1 hc];exact a9i v) b8N u5 u5 ?_
 refine zgn ?_
 refine zgn ?_
 have ht1:((i:Int)+1).toNat=i+1:=by omega
 refine c3i (id:=2) rfl (c3j (L0:=(xs.take i++[v]++xs.drop i).map l1) (by (rw [show xs.length+1=(xs.map l1).length+1 from by rw [List.length_map]];simp only [Int.toNat_natCast,ht1,Int.toNat_zero,List.length_drop,List.length_cons,List.length_nil,Nat.zero_add,List.map_append,List.map_take,List.map_drop,List.map_cons,List.map_nil,Nat.sub_zero];exact b2D (by rw [List.length_map];exact hi) (by omega))) (fun c hc=>(by obtain ⟨x,_,rfl⟩:=List.mem_map.1 hc;exact a9i x))) (c6 (a8M rfl (b7 rfl ?_) rfl (AftOK.gone (AftOK.stays rfl ?_ rfl AftOK.nil))))
 all_goals exact b8C
theorem J2 (wa:List Wtr) (w:Wtr) (hw:wa.length≤100000):Ctr Tryz.prog 311 [.lst 2 (wa.map l1),.v (a4j w)] (.one (.fr 182 2 ((insW wa w).map l1))):=by
 refine Ctr.of (n:=28) G Tryz.func311 rfl b3 rfl rfl rfl (fun w0=>?_)
 refine vm1 ?_
 refine zgo ?_
 refine i7 [0,3] [0] (fun (i:Nat)=>[(5,.v (.int .i64 (i:Int)))]) (fun (i:Nat)=>[]) (fun (i:Nat)=>i≤wa.length∧∀ j,j < i→lessW (wa.getD j default) w=true) (fun (i:Nat)=>wa.length - i) 0 rfl rfl ?_ ?_ ?_ ?_
 ·exact ⟨Nat.zero_le _,fun j hj=>by omega⟩
 ·exact ⟨⟨_,rfl,by (first | rfl | (simp;done) | (simp;omega))⟩,rfl,trivial⟩
 ·exact trivial
 intro i hinv
 simp only [List.cons_append,List.nil_append]
 refine zgd ?_
 refine zcd (fun h1=>?_) (fun h1=>?_)
 ·refine zcl (B1 _ _) ?_
  refine zcd (fun h2=>?_) (fun h2=>?_)
  ·refine zgo ?_
   refine ⟨(i+1),?_,?_,⟨⟨_,rfl,by rfl⟩,rfl,trivial⟩,trivial,rfl,rfl,rfl⟩
   ·exact ⟨by omega,i8 hinv.2 (by first | assumption | exact a0M.mp c8)⟩
   omega
  refine zgo ?_
  apply x5 [4] [3] 4 8 [0] mixed b3 rfl rfl (fun _ h=>znk h)
  ·intro r0
   refine zsa 1 ?_
   refine zsa 3 ?_
   refine zsa 4 ?_
   refine w3 (N:=2) rfl (p4 (fuel:=4) [⟨0,21,1,false,.row 182 2 []⟩] (AllVOK.cons (VOK.lit G rfl rfl rfl rfl rfl) (AllVOK.nil)) (fun hok=>?_))
   refine j3 [(2,[0]),(5,[])] b3 b3 (fun e he=>hok e he) b3 (AllVS.cons ?_ (AllVS.cons ?_ AllVS.nil))
   ·refine b96 ?_
    clear hok
    refine b5 (rs:=[5]) b3 rfl (AllB.cons ?_ AllB.nil)
    refine i1 [0] rfl rfl (s2 G 3 rfl rfl rfl rfl rfl rfl rfl rfl (b4 ⟨rfl,?_⟩))
    refine b5 (rs:=[6]) b3 rfl (AllB.cons ?_ AllB.nil)
    refine i1 [0] rfl rfl (U2 4 [1,2] rfl rfl rfl (s9 wa w i (by omega) (by omega)) rfl (RowsIn.cons rfl (RowsIn.cons rfl RowsIn.nil)) rfl rfl rfl (b4 ⟨rfl,?_⟩))
    refine zsa 7 ?_
    exact l6 b3 (Meet.mk rfl rfl rfl rfl)
   refine VStep.mk0 [0] rfl rfl (fun b1 _ hbn=>s2 G 3 rfl rfl rfl rfl rfl rfl rfl rfl (b4 rfl)) b3 b3 b3 b3 (j3 [(2,[0])] b3 b3 (fun e he=>hok e he) b3 (AllVS.cons ?_ AllVS.nil))
   refine b96 ?_
   clear hok
   refine b5 (rs:=[6]) b3 rfl (AllB.cons ?_ AllB.nil)
   refine i1 [0] rfl rfl (U2 4 [1,2] rfl rfl rfl (s9 wa w i (by omega) (by omega)) rfl (RowsIn.cons rfl (RowsIn.cons rfl RowsIn.nil)) rfl rfl rfl (b4 ⟨rfl,?_⟩))
   refine zsa 7 ?_
   exact l6 b3 (Meet.mk rfl rfl rfl rfl)
  refine zfo ?_
  all_goals exact c0W
 refine zwf ?_
 refine zgo ?_
 apply x5 [4] [3] 4 8 [0] mixed b3 rfl rfl (fun _ h=>znk h)
 ·intro r0
  refine zsa 1 ?_
  refine zsa 3 ?_
  refine zsa 4 ?_
  refine w3 (N:=2) rfl (p4 (fuel:=4) [⟨0,21,1,false,.row 182 2 []⟩] (AllVOK.cons (VOK.lit G rfl rfl rfl rfl rfl) (AllVOK.nil)) (fun hok=>?_))
  refine j3 [(2,[0]),(5,[])] b3 b3 (fun e he=>hok e he) b3 (AllVS.cons ?_ (AllVS.cons ?_ AllVS.nil))
  ·refine b96 ?_
   clear hok
   refine b5 (rs:=[5]) b3 rfl (AllB.cons ?_ AllB.nil)
   refine i1 [0] rfl rfl (s2 G 3 rfl rfl rfl rfl rfl rfl rfl rfl (b4 ⟨rfl,?_⟩))
   refine b5 (rs:=[6]) b3 rfl (AllB.cons ?_ AllB.nil)
   refine i1 [0] rfl rfl (U2 4 [1,2] rfl rfl rfl (s9 wa w i (by omega) (by omega)) rfl (RowsIn.cons rfl (RowsIn.cons rfl RowsIn.nil)) rfl rfl rfl (b4 ⟨rfl,?_⟩))
   refine zsa 7 ?_
   exact l6 b3 (Meet.mk rfl rfl rfl rfl)
  refine VStep.mk0 [0] rfl rfl (fun b1 _ hbn=>s2 G 3 rfl rfl rfl rfl rfl rfl rfl rfl (b4 rfl)) b3 b3 b3 b3 (j3 [(2,[0])] b3 b3 (fun e he=>hok e he) b3 (AllVS.cons ?_ AllVS.nil))
  refine b96 ?_
  clear hok
  refine b5 (rs:=[6]) b3 rfl (AllB.cons ?_ AllB.nil)
  refine i1 [0] rfl rfl (U2 4 [1,2] rfl rfl rfl (s9 wa w i (by omega) (by omega)) rfl (RowsIn.cons rfl (RowsIn.cons rfl RowsIn.nil)) rfl rfl rfl (b4 ⟨rfl,?_⟩))
  refine zsa 7 ?_
  exact l6 b3 (Meet.mk rfl rfl rfl rfl)
 refine zfo ?_
 all_goals exact c0W
theorem a0a (wa:List Wtr) (w:Wtr) (hw:wa.length≤100000):Ctr Tryz.prog 193 [.lst 2 (wa.map l1),.v (a4j w)] (.one (.fr 182 2 ((insW wa w).map l1))):=by
 refine Ctr.of (n:=41) G Tryz.func193 rfl b3 rfl rfl rfl (fun w0=>?_)
 refine vm1 ?_
 refine zgo ?_
 refine i7 [0,3] [0] (fun (i:Nat)=>[(5,.v (.int .i64 (i:Int)))]) (fun (i:Nat)=>[]) (fun (i:Nat)=>i≤wa.length∧∀ j,j < i→lessW (wa.getD j default) w=true) (fun (i:Nat)=>wa.length - i) 0 rfl rfl ?_ ?_ ?_ ?_
 ·exact ⟨Nat.zero_le _,fun j hj=>by omega⟩
 ·exact ⟨⟨_,rfl,by (first | rfl | (simp;done) | (simp;omega))⟩,rfl,trivial⟩
 ·exact trivial
 intro i hinv
 simp only [List.cons_append,List.nil_append]
 refine zgd ?_
 refine zcd (fun h1=>?_) (fun h1=>?_)
 ·refine zcl (P9 _ _ _ _) ?_
  refine zcd (fun h2=>?_) (fun h2=>?_)
  ·refine zgo ?_
   refine ⟨(i+1),?_,?_,⟨⟨_,rfl,by rfl⟩,rfl,trivial⟩,trivial,rfl,rfl,rfl⟩
   ·exact ⟨by omega,i8 hinv.2 (by first | assumption | exact a0M.mp c8)⟩
   omega
  refine zgo ?_
  apply x5 [4] [1] 3 13 [0] mixed b3 rfl rfl (fun _ h=>znk h)
  ·intro r0
   refine vm2 ?_
   refine w3 (N:=2) rfl (p4 (fuel:=5) [⟨0,29,1,false,.row 182 2 []⟩] (AllVOK.cons (VOK.lit G rfl rfl rfl rfl rfl) (AllVOK.nil)) (fun hok=>?_))
   refine j3 [(4,[0]),(6,[])] b3 b3 (fun e he=>hok e he) b3 (AllVS.cons ?_ (AllVS.cons ?_ AllVS.nil))
   ·refine b94 ?_
    clear hok
    refine b5 (rs:=[6]) b3 rfl (AllB.cons ?_ AllB.nil)
    refine i1 [0] rfl rfl (s2 G 3 rfl rfl rfl rfl rfl rfl rfl rfl (b4 ⟨rfl,?_⟩))
    refine b5 (rs:=[7]) b3 rfl (AllB.cons ?_ AllB.nil)
    refine i1 [0] rfl rfl (g9 G A1 rfl rfl rfl rfl rfl rfl rfl rfl rfl H0 rfl rfl (b4 ⟨rfl,?_⟩))
    refine b5 (rs:=[11]) b3 rfl (AllB.cons ?_ AllB.nil)
    refine i1 [0] rfl rfl (g9 G A1 rfl rfl rfl rfl rfl rfl rfl rfl rfl H0 rfl rfl (b4 ⟨rfl,?_⟩))
    refine zsa 12 ?_
    exact l6 b3 (Meet.mk rfl rfl rfl rfl)
   refine VStep.mk0 [0] rfl rfl (fun b1 _ hbn=>s2 G 3 rfl rfl rfl rfl rfl rfl rfl rfl (b4 rfl)) b3 b3 b3 b3 (j3 [(4,[0])] b3 b3 (fun e he=>hok e he) b3 (AllVS.cons ?_ AllVS.nil))
   refine b94 ?_
   clear hok
   refine b5 (rs:=[7]) b3 rfl (AllB.cons ?_ AllB.nil)
   refine i1 [0] rfl rfl (g9 G A1 rfl rfl rfl rfl rfl rfl rfl rfl rfl H0 rfl rfl (b4 ⟨rfl,?_⟩))
   refine b5 (rs:=[11]) b3 rfl (AllB.cons ?_ AllB.nil)
   refine i1 [0] rfl rfl (g9 G A1 rfl rfl rfl rfl rfl rfl rfl rfl rfl H0 rfl rfl (b4 ⟨rfl,?_⟩))
   refine zsa 12 ?_
   exact l6 b3 (Meet.mk rfl rfl rfl rfl)
  refine zfo ?_
  all_goals exact c0X
 refine zwf ?_
 refine zgo ?_
 apply x5 [4] [1] 3 13 [0] mixed b3 rfl rfl (fun _ h=>znk h)
 ·intro r0
  refine vm2 ?_
  refine w3 (N:=2) rfl (p4 (fuel:=5) [⟨0,29,1,false,.row 182 2 []⟩] (AllVOK.cons (VOK.lit G rfl rfl rfl rfl rfl) (AllVOK.nil)) (fun hok=>?_))
  refine j3 [(4,[0]),(6,[])] b3 b3 (fun e he=>hok e he) b3 (AllVS.cons ?_ (AllVS.cons ?_ AllVS.nil))
  ·refine b94 ?_
   clear hok
   refine b5 (rs:=[6]) b3 rfl (AllB.cons ?_ AllB.nil)
   refine i1 [0] rfl rfl (s2 G 3 rfl rfl rfl rfl rfl rfl rfl rfl (b4 ⟨rfl,?_⟩))
   refine b5 (rs:=[7]) b3 rfl (AllB.cons ?_ AllB.nil)
   refine i1 [0] rfl rfl (g9 G A1 rfl rfl rfl rfl rfl rfl rfl rfl rfl H0 rfl rfl (b4 ⟨rfl,?_⟩))
   refine b5 (rs:=[11]) b3 rfl (AllB.cons ?_ AllB.nil)
   refine i1 [0] rfl rfl (g9 G A1 rfl rfl rfl rfl rfl rfl rfl rfl rfl H0 rfl rfl (b4 ⟨rfl,?_⟩))
   refine zsa 12 ?_
   exact l6 b3 (Meet.mk rfl rfl rfl rfl)
  refine VStep.mk0 [0] rfl rfl (fun b1 _ hbn=>s2 G 3 rfl rfl rfl rfl rfl rfl rfl rfl (b4 rfl)) b3 b3 b3 b3 (j3 [(4,[0])] b3 b3 (fun e he=>hok e he) b3 (AllVS.cons ?_ AllVS.nil))
  refine b94 ?_
  clear hok
  refine b5 (rs:=[7]) b3 rfl (AllB.cons ?_ AllB.nil)
  refine i1 [0] rfl rfl (g9 G A1 rfl rfl rfl rfl rfl rfl rfl rfl rfl H0 rfl rfl (b4 ⟨rfl,?_⟩))
  refine b5 (rs:=[11]) b3 rfl (AllB.cons ?_ AllB.nil)
  refine i1 [0] rfl rfl (g9 G A1 rfl rfl rfl rfl rfl rfl rfl rfl rfl H0 rfl rfl (b4 ⟨rfl,?_⟩))
  refine zsa 12 ?_
  exact l6 b3 (Meet.mk rfl rfl rfl rfl)
 refine zfo ?_
 all_goals exact c0X
end Go.Proofs.YtpfhomblkgmkkaaGreatDoor
set_option maxRecDepth 20000
namespace Go.Proofs.YtpfhomblkgmkkaaGreatDoor
open Go Go.Rf
theorem a35 (n:Nat) (hn:n≤12):CtrE (α:=Int) Tryz.prog 262 [.v (.int .u64 (n:Int))] (fun y=>(.one (.v (.int .i64 y)))):=by
 refine CtrE.of (n:=25) G Tryz.func262 rfl b3 rfl rfl rfl (fun w0=>?_)
 refine zcd (fun h1=>?_) (fun h1=>?_)
 ·exfalso;omega
 refine zcd (fun h2=>?_) (fun h2=>?_)
 ·exfalso;omega
 refine zcd (fun h3=>?_) (fun h3=>?_)
 ·exfalso;omega
 refine vm5 ?_
 refine c2J ?_
 refine o9 ?_
 refine b6 rfl rfl (S3 G rfl rfl rfl rfl (by omega) (Int.lt_of_le_of_lt (show (n:Int)≤12 by omega) (by decide))) ?_
 refine o9 ?_
 refine c2J ?_
 refine a9D ?_
 refine zgo ?_
 refine c6 (c1x (_) (H1 rfl (c1 rfl)))
 all_goals (rfl)
theorem a6g (n:Nat) (hn:n≤12):CtrE (α:=Int) Tryz.prog 204 [.v (.int .u64 (n:Int))] (fun y=>(.one (.v (.int .i64 y)))):=by
 refine CtrE.of (n:=8) G Tryz.func204 rfl b3 rfl rfl rfl (fun w0=>?_)
 refine zwf ?_
 refine zgo ?_
 refine a8 rfl (a87 0 rfl rfl rfl (ArgsOK.of rfl) (a35 n hn) (fun _=>rfl) rfl (fun y1=>?_))
 refine zgo ?_
 refine c6 (c1x (_) (H1 rfl (c1 rfl)))
 all_goals (rfl)
theorem H9 (d:List Wtr) (hd:b2Z d) (hn:d.length≤12):CtrM Tryz.prog 272 [.own 0,.v (.int .i64 0),.v (.int .i64 (d.length:Int)),.v (.func (.func 174) #[] #[])] [.row 182 2 (d.map l1)] (.many []) [some (.row 182 2 ((srtW d).map l1))]:=by
 refine CtrM.of (n:=53) (k:=1) G Tryz.func272 rfl b3 rfl rfl rfl rfl rfl rfl rfl (fun w0 _ hpin=>?_)
 refine u4 (H6 (Gh.fnc (t:=3) rfl) ?_)
 refine zgo ?_
 refine i7 [0,1,2,3] [] (fun (i:Nat)=>[(8,.v (.int .i64 (i:Int)))]) (fun (i:Nat)=>[(0,some (.row 182 2 ((a7H d i).map l1)))]) (fun (i:Nat)=>1≤i∧(i≤d.length∨i=1)) (fun (i:Nat)=>d.length - i) 1 rfl rfl ?_ ?_ ?_ ?_
 ·exact ⟨Nat.le_refl _,.inr rfl⟩
 ·exact ⟨⟨_,rfl,by rfl⟩,rfl,trivial⟩
 ·exact ⟨⟨_,rfl,by (rw [c1M])⟩,rfl,rfl,trivial⟩
 intro i hi
 simp only [List.cons_append,List.nil_append]
 refine zcd (fun h1=>?_) (fun h1=>?_)
 ·have hM:=c4h hd (i:=i) (by omega)
  have hPl:=hM.len
  have hRl:(d.drop (i+1)).length=d.length - (i+1):=List.length_drop
  refine zgo ?_
  refine i7 [0,1,2,3,8] [] (fun (j:Nat)=>[(9,.v (.int .i64 (j:Int)))]) (fun (j:Nat)=>[(0,some (.row 182 2 ((a14 (srtW (d.take i)) (d.getD i default) (d.drop (i+1)) j).map l1)))]) (fun (j:Nat)=>j≤i∧∀ t,j≤t→t < i→lessW (d.getD i default) ((srtW (d.take i)).getD t default)=true) (fun (j:Nat)=>j) i rfl rfl ?_ ?_ ?_ ?_
  ·exact ⟨Nat.le_refl _,fun t h1 h2=>by omega⟩
  ·exact ⟨⟨_,rfl,by rfl⟩,rfl,trivial⟩
  ·exact ⟨⟨_,rfl,by (rw [b7J (by omega)])⟩,rfl,rfl,trivial⟩
  intro j hj
  have htn:0 < j→((j:Int) - 1).toNat=j - 1:=fun _=>(by omega)
  simp only [List.cons_append,List.nil_append]
  refine zgd ?_
  refine zcd (fun h2=>?_) (fun h2=>?_)
  ·refine c3U ?_
   refine c3U ?_
   refine a97 ?_
   refine u9 rfl rfl (b1g rfl rfl (ArgsOK.of rfl) rfl (B1 _ _) rfl) ?_
   refine zcd (fun h3=>?_) (fun h3=>?_)
   ·refine zgo ?_
    apply x5 [0,1,2,3,8,9] [0] 1 18 [] mixed b3 rfl rfl (fun _ h=>znk h)
    ·intro r0
     refine a1e ?_
     first | refine e9 4 rfl b3 b3 rfl rfl rfl rfl (x8 rfl rfl rfl rfl (by omega) (by omega)) ?_ | refine e9 4 rfl b3 b3 rfl rfl rfl rfl (C5 rfl rfl rfl rfl) ?_
     refine a1f ?_
     first | refine e9 7 rfl b3 b3 rfl rfl rfl rfl (x8 rfl rfl rfl rfl (by omega) (by omega)) ?_ | refine e9 7 rfl b3 b3 rfl rfl rfl rfl (C5 rfl rfl rfl rfl) ?_
     refine zsa 10 ?_
     refine zsa 11 ?_
     refine b5 (rs:=[8,12]) b3 rfl (AllB.cons ?_ (AllB.cons ?_ AllB.nil))
     ·first | refine c7 [] rfl rfl (b6 rfl rfl (b8 G rfl rfl rfl rfl rfl (by omega) V2) (b4 ⟨rfl,?_⟩)) | refine c7 [] rfl rfl (b6 rfl rfl (b8 G rfl rfl rfl rfl rfl (by omega) V0) (b4 ⟨rfl,?_⟩)) | refine c7 [] rfl rfl (b6 rfl rfl (b8 G rfl rfl rfl rfl rfl (by omega) U9) (b4 ⟨rfl,?_⟩))
      refine b5 (rs:=[9,12]) b3 rfl (AllB.cons ?_ (AllB.cons ?_ AllB.nil))
      ·first | refine c7 [] rfl rfl (b6 rfl rfl (d3 G rfl rfl rfl rfl (w4 (by omega)) rfl) (b4 ⟨rfl,?_⟩)) | refine c7 [] rfl rfl (b6 rfl rfl (d3 G rfl rfl rfl rfl (x3 (by omega) (by omega)) rfl) (b4 ⟨rfl,?_⟩)) | refine c7 [] rfl rfl (b6 rfl rfl (d3 G rfl rfl rfl rfl (x9 (by omega) (by omega)) rfl) (b4 ⟨rfl,?_⟩))
       refine b5 (rs:=[12]) b3 rfl (AllB.cons ?_ AllB.nil)
       first | refine c7 [] rfl rfl (b6 rfl rfl (b8 G rfl rfl rfl rfl rfl (by omega) V2) (b4 ⟨rfl,?_⟩)) | refine c7 [] rfl rfl (b6 rfl rfl (b8 G rfl rfl rfl rfl rfl (by omega) V0) (b4 ⟨rfl,?_⟩)) | refine c7 [] rfl rfl (b6 rfl rfl (b8 G rfl rfl rfl rfl rfl (by omega) U9) (b4 ⟨rfl,?_⟩))
       refine b5 (rs:=[13]) b3 rfl (AllB.cons ?_ AllB.nil)
       first | refine c7 [] rfl rfl (b6 rfl rfl (d3 G rfl rfl rfl rfl (w4 (by omega)) rfl) (b4 ⟨rfl,?_⟩)) | refine c7 [] rfl rfl (b6 rfl rfl (d3 G rfl rfl rfl rfl (x3 (by omega) (by omega)) rfl) (b4 ⟨rfl,?_⟩)) | refine c7 [] rfl rfl (b6 rfl rfl (d3 G rfl rfl rfl rfl (x9 (by omega) (by omega)) rfl) (b4 ⟨rfl,?_⟩))
       refine b5 (rs:=[14]) b3 rfl (AllB.cons ?_ AllB.nil)
       first | refine c7 [] rfl rfl (b6 rfl rfl (b8 G rfl rfl rfl rfl rfl (by omega) V2) (b4 ⟨rfl,?_⟩)) | refine c7 [] rfl rfl (b6 rfl rfl (b8 G rfl rfl rfl rfl rfl (by omega) V0) (b4 ⟨rfl,?_⟩)) | refine c7 [] rfl rfl (b6 rfl rfl (b8 G rfl rfl rfl rfl rfl (by omega) U9) (b4 ⟨rfl,?_⟩))
       refine b5 (rs:=[15]) b3 rfl (AllB.cons ?_ AllB.nil)
       first | refine c7 [] rfl rfl (f8 G rfl rfl rfl rfl rfl (w4 (by omega)) rfl rfl rfl rfl rfl (Nat.le_of_ble_eq_true rfl) rfl (b4 ⟨rfl,?_⟩)) | refine c7 [] rfl rfl (f8 G rfl rfl rfl rfl rfl (x3 (by omega) (by omega)) rfl rfl rfl rfl rfl (Nat.le_of_ble_eq_true rfl) rfl (b4 ⟨rfl,?_⟩)) | refine c7 [] rfl rfl (f8 G rfl rfl rfl rfl rfl (x9 (by omega) (by omega)) rfl rfl rfl rfl rfl (Nat.le_of_ble_eq_true rfl) rfl (b4 ⟨rfl,?_⟩))
       refine b5 (rs:=[16]) b3 rfl (AllB.cons ?_ AllB.nil)
       first | refine c7 [] rfl rfl (b6 rfl rfl (b8 G rfl rfl rfl rfl rfl (by omega) V2) (b4 ⟨rfl,?_⟩)) | refine c7 [] rfl rfl (b6 rfl rfl (b8 G rfl rfl rfl rfl rfl (by omega) V0) (b4 ⟨rfl,?_⟩)) | refine c7 [] rfl rfl (b6 rfl rfl (b8 G rfl rfl rfl rfl rfl (by omega) U9) (b4 ⟨rfl,?_⟩))
       refine b5 (rs:=[17]) b3 rfl (AllB.cons ?_ AllB.nil)
       first | refine c7 [] rfl rfl (f8 G rfl rfl rfl rfl rfl (w4 (by omega)) rfl rfl rfl rfl rfl (Nat.le_of_ble_eq_true rfl) rfl (b4 ⟨rfl,?_⟩)) | refine c7 [] rfl rfl (f8 G rfl rfl rfl rfl rfl (x3 (by omega) (by omega)) rfl rfl rfl rfl rfl (Nat.le_of_ble_eq_true rfl) rfl (b4 ⟨rfl,?_⟩)) | refine c7 [] rfl rfl (f8 G rfl rfl rfl rfl rfl (x9 (by omega) (by omega)) rfl rfl rfl rfl rfl (Nat.le_of_ble_eq_true rfl) rfl (b4 ⟨rfl,?_⟩))
       exact l6 b3 (Meet.mk rfl rfl rfl rfl)
      first | refine c7 [] rfl rfl (b6 rfl rfl (b8 G rfl rfl rfl rfl rfl (by omega) V2) (b4 ⟨rfl,?_⟩)) | refine c7 [] rfl rfl (b6 rfl rfl (b8 G rfl rfl rfl rfl rfl (by omega) V0) (b4 ⟨rfl,?_⟩)) | refine c7 [] rfl rfl (b6 rfl rfl (b8 G rfl rfl rfl rfl rfl (by omega) U9) (b4 ⟨rfl,?_⟩))
      refine b5 (rs:=[9,13]) b3 rfl (AllB.cons ?_ (AllB.cons ?_ AllB.nil))
      ·first | refine c7 [] rfl rfl (b6 rfl rfl (d3 G rfl rfl rfl rfl (w4 (by omega)) rfl) (b4 ⟨rfl,?_⟩)) | refine c7 [] rfl rfl (b6 rfl rfl (d3 G rfl rfl rfl rfl (x3 (by omega) (by omega)) rfl) (b4 ⟨rfl,?_⟩)) | refine c7 [] rfl rfl (b6 rfl rfl (d3 G rfl rfl rfl rfl (x9 (by omega) (by omega)) rfl) (b4 ⟨rfl,?_⟩))
       refine b5 (rs:=[13]) b3 rfl (AllB.cons ?_ AllB.nil)
       first | refine c7 [] rfl rfl (b6 rfl rfl (d3 G rfl rfl rfl rfl (w4 (by omega)) rfl) (b4 ⟨rfl,?_⟩)) | refine c7 [] rfl rfl (b6 rfl rfl (d3 G rfl rfl rfl rfl (x3 (by omega) (by omega)) rfl) (b4 ⟨rfl,?_⟩)) | refine c7 [] rfl rfl (b6 rfl rfl (d3 G rfl rfl rfl rfl (x9 (by omega) (by omega)) rfl) (b4 ⟨rfl,?_⟩))
       refine b5 (rs:=[14]) b3 rfl (AllB.cons ?_ AllB.nil)
       first | refine c7 [] rfl rfl (b6 rfl rfl (b8 G rfl rfl rfl rfl rfl (by omega) V2) (b4 ⟨rfl,?_⟩)) | refine c7 [] rfl rfl (b6 rfl rfl (b8 G rfl rfl rfl rfl rfl (by omega) V0) (b4 ⟨rfl,?_⟩)) | refine c7 [] rfl rfl (b6 rfl rfl (b8 G rfl rfl rfl rfl rfl (by omega) U9) (b4 ⟨rfl,?_⟩))
       refine b5 (rs:=[15]) b3 rfl (AllB.cons ?_ AllB.nil)
       first | refine c7 [] rfl rfl (f8 G rfl rfl rfl rfl rfl (w4 (by omega)) rfl rfl rfl rfl rfl (Nat.le_of_ble_eq_true rfl) rfl (b4 ⟨rfl,?_⟩)) | refine c7 [] rfl rfl (f8 G rfl rfl rfl rfl rfl (x3 (by omega) (by omega)) rfl rfl rfl rfl rfl (Nat.le_of_ble_eq_true rfl) rfl (b4 ⟨rfl,?_⟩)) | refine c7 [] rfl rfl (f8 G rfl rfl rfl rfl rfl (x9 (by omega) (by omega)) rfl rfl rfl rfl rfl (Nat.le_of_ble_eq_true rfl) rfl (b4 ⟨rfl,?_⟩))
       refine b5 (rs:=[16]) b3 rfl (AllB.cons ?_ AllB.nil)
       first | refine c7 [] rfl rfl (b6 rfl rfl (b8 G rfl rfl rfl rfl rfl (by omega) V2) (b4 ⟨rfl,?_⟩)) | refine c7 [] rfl rfl (b6 rfl rfl (b8 G rfl rfl rfl rfl rfl (by omega) V0) (b4 ⟨rfl,?_⟩)) | refine c7 [] rfl rfl (b6 rfl rfl (b8 G rfl rfl rfl rfl rfl (by omega) U9) (b4 ⟨rfl,?_⟩))
       refine b5 (rs:=[17]) b3 rfl (AllB.cons ?_ AllB.nil)
       first | refine c7 [] rfl rfl (f8 G rfl rfl rfl rfl rfl (w4 (by omega)) rfl rfl rfl rfl rfl (Nat.le_of_ble_eq_true rfl) rfl (b4 ⟨rfl,?_⟩)) | refine c7 [] rfl rfl (f8 G rfl rfl rfl rfl rfl (x3 (by omega) (by omega)) rfl rfl rfl rfl rfl (Nat.le_of_ble_eq_true rfl) rfl (b4 ⟨rfl,?_⟩)) | refine c7 [] rfl rfl (f8 G rfl rfl rfl rfl rfl (x9 (by omega) (by omega)) rfl rfl rfl rfl rfl (Nat.le_of_ble_eq_true rfl) rfl (b4 ⟨rfl,?_⟩))
       exact l6 b3 (Meet.mk rfl rfl rfl rfl)
      first | refine c7 [] rfl rfl (b6 rfl rfl (d3 G rfl rfl rfl rfl (w4 (by omega)) rfl) (b4 ⟨rfl,?_⟩)) | refine c7 [] rfl rfl (b6 rfl rfl (d3 G rfl rfl rfl rfl (x3 (by omega) (by omega)) rfl) (b4 ⟨rfl,?_⟩)) | refine c7 [] rfl rfl (b6 rfl rfl (d3 G rfl rfl rfl rfl (x9 (by omega) (by omega)) rfl) (b4 ⟨rfl,?_⟩))
      refine b5 (rs:=[9]) b3 rfl (AllB.cons ?_ AllB.nil)
      first | refine c7 [] rfl rfl (b6 rfl rfl (d3 G rfl rfl rfl rfl (w4 (by omega)) rfl) (b4 ⟨rfl,?_⟩)) | refine c7 [] rfl rfl (b6 rfl rfl (d3 G rfl rfl rfl rfl (x3 (by omega) (by omega)) rfl) (b4 ⟨rfl,?_⟩)) | refine c7 [] rfl rfl (b6 rfl rfl (d3 G rfl rfl rfl rfl (x9 (by omega) (by omega)) rfl) (b4 ⟨rfl,?_⟩))
      refine b5 (rs:=[14]) b3 rfl (AllB.cons ?_ AllB.nil)
      first | refine c7 [] rfl rfl (b6 rfl rfl (b8 G rfl rfl rfl rfl rfl (by omega) V2) (b4 ⟨rfl,?_⟩)) | refine c7 [] rfl rfl (b6 rfl rfl (b8 G rfl rfl rfl rfl rfl (by omega) V0) (b4 ⟨rfl,?_⟩)) | refine c7 [] rfl rfl (b6 rfl rfl (b8 G rfl rfl rfl rfl rfl (by omega) U9) (b4 ⟨rfl,?_⟩))
      refine b5 (rs:=[15]) b3 rfl (AllB.cons ?_ AllB.nil)
      first | refine c7 [] rfl rfl (f8 G rfl rfl rfl rfl rfl (w4 (by omega)) rfl rfl rfl rfl rfl (Nat.le_of_ble_eq_true rfl) rfl (b4 ⟨rfl,?_⟩)) | refine c7 [] rfl rfl (f8 G rfl rfl rfl rfl rfl (x3 (by omega) (by omega)) rfl rfl rfl rfl rfl (Nat.le_of_ble_eq_true rfl) rfl (b4 ⟨rfl,?_⟩)) | refine c7 [] rfl rfl (f8 G rfl rfl rfl rfl rfl (x9 (by omega) (by omega)) rfl rfl rfl rfl rfl (Nat.le_of_ble_eq_true rfl) rfl (b4 ⟨rfl,?_⟩))
      refine b5 (rs:=[16]) b3 rfl (AllB.cons ?_ AllB.nil)
      first | refine c7 [] rfl rfl (b6 rfl rfl (b8 G rfl rfl rfl rfl rfl (by omega) V2) (b4 ⟨rfl,?_⟩)) | refine c7 [] rfl rfl (b6 rfl rfl (b8 G rfl rfl rfl rfl rfl (by omega) V0) (b4 ⟨rfl,?_⟩)) | refine c7 [] rfl rfl (b6 rfl rfl (b8 G rfl rfl rfl rfl rfl (by omega) U9) (b4 ⟨rfl,?_⟩))
      refine b5 (rs:=[17]) b3 rfl (AllB.cons ?_ AllB.nil)
      first | refine c7 [] rfl rfl (f8 G rfl rfl rfl rfl rfl (w4 (by omega)) rfl rfl rfl rfl rfl (Nat.le_of_ble_eq_true rfl) rfl (b4 ⟨rfl,?_⟩)) | refine c7 [] rfl rfl (f8 G rfl rfl rfl rfl rfl (x3 (by omega) (by omega)) rfl rfl rfl rfl rfl (Nat.le_of_ble_eq_true rfl) rfl (b4 ⟨rfl,?_⟩)) | refine c7 [] rfl rfl (f8 G rfl rfl rfl rfl rfl (x9 (by omega) (by omega)) rfl rfl rfl rfl rfl (Nat.le_of_ble_eq_true rfl) rfl (b4 ⟨rfl,?_⟩))
      exact l6 b3 (Meet.mk rfl rfl rfl rfl)
     first | refine c7 [] rfl rfl (b6 rfl rfl (b8 G rfl rfl rfl rfl rfl (by omega) V2) (b4 ⟨rfl,?_⟩)) | refine c7 [] rfl rfl (b6 rfl rfl (b8 G rfl rfl rfl rfl rfl (by omega) V0) (b4 ⟨rfl,?_⟩)) | refine c7 [] rfl rfl (b6 rfl rfl (b8 G rfl rfl rfl rfl rfl (by omega) U9) (b4 ⟨rfl,?_⟩))
     refine b5 (rs:=[8,13]) b3 rfl (AllB.cons ?_ (AllB.cons ?_ AllB.nil))
     ·first | refine c7 [] rfl rfl (b6 rfl rfl (b8 G rfl rfl rfl rfl rfl (by omega) V2) (b4 ⟨rfl,?_⟩)) | refine c7 [] rfl rfl (b6 rfl rfl (b8 G rfl rfl rfl rfl rfl (by omega) V0) (b4 ⟨rfl,?_⟩)) | refine c7 [] rfl rfl (b6 rfl rfl (b8 G rfl rfl rfl rfl rfl (by omega) U9) (b4 ⟨rfl,?_⟩))
      refine b5 (rs:=[9,13]) b3 rfl (AllB.cons ?_ (AllB.cons ?_ AllB.nil))
      ·first | refine c7 [] rfl rfl (b6 rfl rfl (d3 G rfl rfl rfl rfl (w4 (by omega)) rfl) (b4 ⟨rfl,?_⟩)) | refine c7 [] rfl rfl (b6 rfl rfl (d3 G rfl rfl rfl rfl (x3 (by omega) (by omega)) rfl) (b4 ⟨rfl,?_⟩)) | refine c7 [] rfl rfl (b6 rfl rfl (d3 G rfl rfl rfl rfl (x9 (by omega) (by omega)) rfl) (b4 ⟨rfl,?_⟩))
       refine b5 (rs:=[13]) b3 rfl (AllB.cons ?_ AllB.nil)
       first | refine c7 [] rfl rfl (b6 rfl rfl (d3 G rfl rfl rfl rfl (w4 (by omega)) rfl) (b4 ⟨rfl,?_⟩)) | refine c7 [] rfl rfl (b6 rfl rfl (d3 G rfl rfl rfl rfl (x3 (by omega) (by omega)) rfl) (b4 ⟨rfl,?_⟩)) | refine c7 [] rfl rfl (b6 rfl rfl (d3 G rfl rfl rfl rfl (x9 (by omega) (by omega)) rfl) (b4 ⟨rfl,?_⟩))
       refine b5 (rs:=[14]) b3 rfl (AllB.cons ?_ AllB.nil)
       first | refine c7 [] rfl rfl (b6 rfl rfl (b8 G rfl rfl rfl rfl rfl (by omega) V2) (b4 ⟨rfl,?_⟩)) | refine c7 [] rfl rfl (b6 rfl rfl (b8 G rfl rfl rfl rfl rfl (by omega) V0) (b4 ⟨rfl,?_⟩)) | refine c7 [] rfl rfl (b6 rfl rfl (b8 G rfl rfl rfl rfl rfl (by omega) U9) (b4 ⟨rfl,?_⟩))
       refine b5 (rs:=[15]) b3 rfl (AllB.cons ?_ AllB.nil)
       first | refine c7 [] rfl rfl (f8 G rfl rfl rfl rfl rfl (w4 (by omega)) rfl rfl rfl rfl rfl (Nat.le_of_ble_eq_true rfl) rfl (b4 ⟨rfl,?_⟩)) | refine c7 [] rfl rfl (f8 G rfl rfl rfl rfl rfl (x3 (by omega) (by omega)) rfl rfl rfl rfl rfl (Nat.le_of_ble_eq_true rfl) rfl (b4 ⟨rfl,?_⟩)) | refine c7 [] rfl rfl (f8 G rfl rfl rfl rfl rfl (x9 (by omega) (by omega)) rfl rfl rfl rfl rfl (Nat.le_of_ble_eq_true rfl) rfl (b4 ⟨rfl,?_⟩))
       refine b5 (rs:=[16]) b3 rfl (AllB.cons ?_ AllB.nil)
       first | refine c7 [] rfl rfl (b6 rfl rfl (b8 G rfl rfl rfl rfl rfl (by omega) V2) (b4 ⟨rfl,?_⟩)) | refine c7 [] rfl rfl (b6 rfl rfl (b8 G rfl rfl rfl rfl rfl (by omega) V0) (b4 ⟨rfl,?_⟩)) | refine c7 [] rfl rfl (b6 rfl rfl (b8 G rfl rfl rfl rfl rfl (by omega) U9) (b4 ⟨rfl,?_⟩))
       refine b5 (rs:=[17]) b3 rfl (AllB.cons ?_ AllB.nil)
       first | refine c7 [] rfl rfl (f8 G rfl rfl rfl rfl rfl (w4 (by omega)) rfl rfl rfl rfl rfl (Nat.le_of_ble_eq_true rfl) rfl (b4 ⟨rfl,?_⟩)) | refine c7 [] rfl rfl (f8 G rfl rfl rfl rfl rfl (x3 (by omega) (by omega)) rfl rfl rfl rfl rfl (Nat.le_of_ble_eq_true rfl) rfl (b4 ⟨rfl,?_⟩)) | refine c7 [] rfl rfl (f8 G rfl rfl rfl rfl rfl (x9 (by omega) (by omega)) rfl rfl rfl rfl rfl (Nat.le_of_ble_eq_true rfl) rfl (b4 ⟨rfl,?_⟩))
       exact l6 b3 (Meet.mk rfl rfl rfl rfl)
      first | refine c7 [] rfl rfl (b6 rfl rfl (d3 G rfl rfl rfl rfl (w4 (by omega)) rfl) (b4 ⟨rfl,?_⟩)) | refine c7 [] rfl rfl (b6 rfl rfl (d3 G rfl rfl rfl rfl (x3 (by omega) (by omega)) rfl) (b4 ⟨rfl,?_⟩)) | refine c7 [] rfl rfl (b6 rfl rfl (d3 G rfl rfl rfl rfl (x9 (by omega) (by omega)) rfl) (b4 ⟨rfl,?_⟩))
      refine b5 (rs:=[9]) b3 rfl (AllB.cons ?_ AllB.nil)
      first | refine c7 [] rfl rfl (b6 rfl rfl (d3 G rfl rfl rfl rfl (w4 (by omega)) rfl) (b4 ⟨rfl,?_⟩)) | refine c7 [] rfl rfl (b6 rfl rfl (d3 G rfl rfl rfl rfl (x3 (by omega) (by omega)) rfl) (b4 ⟨rfl,?_⟩)) | refine c7 [] rfl rfl (b6 rfl rfl (d3 G rfl rfl rfl rfl (x9 (by omega) (by omega)) rfl) (b4 ⟨rfl,?_⟩))
      refine b5 (rs:=[14]) b3 rfl (AllB.cons ?_ AllB.nil)
      first | refine c7 [] rfl rfl (b6 rfl rfl (b8 G rfl rfl rfl rfl rfl (by omega) V2) (b4 ⟨rfl,?_⟩)) | refine c7 [] rfl rfl (b6 rfl rfl (b8 G rfl rfl rfl rfl rfl (by omega) V0) (b4 ⟨rfl,?_⟩)) | refine c7 [] rfl rfl (b6 rfl rfl (b8 G rfl rfl rfl rfl rfl (by omega) U9) (b4 ⟨rfl,?_⟩))
      refine b5 (rs:=[15]) b3 rfl (AllB.cons ?_ AllB.nil)
      first | refine c7 [] rfl rfl (f8 G rfl rfl rfl rfl rfl (w4 (by omega)) rfl rfl rfl rfl rfl (Nat.le_of_ble_eq_true rfl) rfl (b4 ⟨rfl,?_⟩)) | refine c7 [] rfl rfl (f8 G rfl rfl rfl rfl rfl (x3 (by omega) (by omega)) rfl rfl rfl rfl rfl (Nat.le_of_ble_eq_true rfl) rfl (b4 ⟨rfl,?_⟩)) | refine c7 [] rfl rfl (f8 G rfl rfl rfl rfl rfl (x9 (by omega) (by omega)) rfl rfl rfl rfl rfl (Nat.le_of_ble_eq_true rfl) rfl (b4 ⟨rfl,?_⟩))
      refine b5 (rs:=[16]) b3 rfl (AllB.cons ?_ AllB.nil)
      first | refine c7 [] rfl rfl (b6 rfl rfl (b8 G rfl rfl rfl rfl rfl (by omega) V2) (b4 ⟨rfl,?_⟩)) | refine c7 [] rfl rfl (b6 rfl rfl (b8 G rfl rfl rfl rfl rfl (by omega) V0) (b4 ⟨rfl,?_⟩)) | refine c7 [] rfl rfl (b6 rfl rfl (b8 G rfl rfl rfl rfl rfl (by omega) U9) (b4 ⟨rfl,?_⟩))
      refine b5 (rs:=[17]) b3 rfl (AllB.cons ?_ AllB.nil)
      first | refine c7 [] rfl rfl (f8 G rfl rfl rfl rfl rfl (w4 (by omega)) rfl rfl rfl rfl rfl (Nat.le_of_ble_eq_true rfl) rfl (b4 ⟨rfl,?_⟩)) | refine c7 [] rfl rfl (f8 G rfl rfl rfl rfl rfl (x3 (by omega) (by omega)) rfl rfl rfl rfl rfl (Nat.le_of_ble_eq_true rfl) rfl (b4 ⟨rfl,?_⟩)) | refine c7 [] rfl rfl (f8 G rfl rfl rfl rfl rfl (x9 (by omega) (by omega)) rfl rfl rfl rfl rfl (Nat.le_of_ble_eq_true rfl) rfl (b4 ⟨rfl,?_⟩))
      exact l6 b3 (Meet.mk rfl rfl rfl rfl)
     first | refine c7 [] rfl rfl (b6 rfl rfl (d3 G rfl rfl rfl rfl (w4 (by omega)) rfl) (b4 ⟨rfl,?_⟩)) | refine c7 [] rfl rfl (b6 rfl rfl (d3 G rfl rfl rfl rfl (x3 (by omega) (by omega)) rfl) (b4 ⟨rfl,?_⟩)) | refine c7 [] rfl rfl (b6 rfl rfl (d3 G rfl rfl rfl rfl (x9 (by omega) (by omega)) rfl) (b4 ⟨rfl,?_⟩))
     refine b5 (rs:=[8]) b3 rfl (AllB.cons ?_ AllB.nil)
     first | refine c7 [] rfl rfl (b6 rfl rfl (b8 G rfl rfl rfl rfl rfl (by omega) V2) (b4 ⟨rfl,?_⟩)) | refine c7 [] rfl rfl (b6 rfl rfl (b8 G rfl rfl rfl rfl rfl (by omega) V0) (b4 ⟨rfl,?_⟩)) | refine c7 [] rfl rfl (b6 rfl rfl (b8 G rfl rfl rfl rfl rfl (by omega) U9) (b4 ⟨rfl,?_⟩))
     refine b5 (rs:=[9]) b3 rfl (AllB.cons ?_ AllB.nil)
     first | refine c7 [] rfl rfl (b6 rfl rfl (d3 G rfl rfl rfl rfl (w4 (by omega)) rfl) (b4 ⟨rfl,?_⟩)) | refine c7 [] rfl rfl (b6 rfl rfl (d3 G rfl rfl rfl rfl (x3 (by omega) (by omega)) rfl) (b4 ⟨rfl,?_⟩)) | refine c7 [] rfl rfl (b6 rfl rfl (d3 G rfl rfl rfl rfl (x9 (by omega) (by omega)) rfl) (b4 ⟨rfl,?_⟩))
     refine b5 (rs:=[14]) b3 rfl (AllB.cons ?_ AllB.nil)
     first | refine c7 [] rfl rfl (b6 rfl rfl (b8 G rfl rfl rfl rfl rfl (by omega) V2) (b4 ⟨rfl,?_⟩)) | refine c7 [] rfl rfl (b6 rfl rfl (b8 G rfl rfl rfl rfl rfl (by omega) V0) (b4 ⟨rfl,?_⟩)) | refine c7 [] rfl rfl (b6 rfl rfl (b8 G rfl rfl rfl rfl rfl (by omega) U9) (b4 ⟨rfl,?_⟩))
     refine b5 (rs:=[15]) b3 rfl (AllB.cons ?_ AllB.nil)
     first | refine c7 [] rfl rfl (f8 G rfl rfl rfl rfl rfl (w4 (by omega)) rfl rfl rfl rfl rfl (Nat.le_of_ble_eq_true rfl) rfl (b4 ⟨rfl,?_⟩)) | refine c7 [] rfl rfl (f8 G rfl rfl rfl rfl rfl (x3 (by omega) (by omega)) rfl rfl rfl rfl rfl (Nat.le_of_ble_eq_true rfl) rfl (b4 ⟨rfl,?_⟩)) | refine c7 [] rfl rfl (f8 G rfl rfl rfl rfl rfl (x9 (by omega) (by omega)) rfl rfl rfl rfl rfl (Nat.le_of_ble_eq_true rfl) rfl (b4 ⟨rfl,?_⟩))
     refine b5 (rs:=[16]) b3 rfl (AllB.cons ?_ AllB.nil)
     first | refine c7 [] rfl rfl (b6 rfl rfl (b8 G rfl rfl rfl rfl rfl (by omega) V2) (b4 ⟨rfl,?_⟩)) | refine c7 [] rfl rfl (b6 rfl rfl (b8 G rfl rfl rfl rfl rfl (by omega) V0) (b4 ⟨rfl,?_⟩)) | refine c7 [] rfl rfl (b6 rfl rfl (b8 G rfl rfl rfl rfl rfl (by omega) U9) (b4 ⟨rfl,?_⟩))
     refine b5 (rs:=[17]) b3 rfl (AllB.cons ?_ AllB.nil)
     first | refine c7 [] rfl rfl (f8 G rfl rfl rfl rfl rfl (w4 (by omega)) rfl rfl rfl rfl rfl (Nat.le_of_ble_eq_true rfl) rfl (b4 ⟨rfl,?_⟩)) | refine c7 [] rfl rfl (f8 G rfl rfl rfl rfl rfl (x3 (by omega) (by omega)) rfl rfl rfl rfl rfl (Nat.le_of_ble_eq_true rfl) rfl (b4 ⟨rfl,?_⟩)) | refine c7 [] rfl rfl (f8 G rfl rfl rfl rfl rfl (x9 (by omega) (by omega)) rfl rfl rfl rfl rfl (Nat.le_of_ble_eq_true rfl) rfl (b4 ⟨rfl,?_⟩))
     exact l6 b3 (Meet.mk rfl rfl rfl rfl)
    refine zgo ?_
    refine ⟨(j - 1),?_,?_,⟨⟨_,rfl,by (congr 2;omega)⟩,rfl,trivial⟩,⟨⟨_,rfl,by (exact congrArg (fun z=>Row.row _ _ z) (by rw [htn (by omega)];exact b6b (by omega) (by omega)))⟩,rfl,rfl,trivial⟩,rfl,rfl,rfl⟩
    ·exact ⟨by omega,fun t h1 h2=>(by by_cases e:t=j - 1<;>first | (subst e;exact a0M.mp (by omega)) | exact hj.2 t (by omega) h2)⟩
    omega
   refine zgo ?_
   refine ⟨(i+1),?_,?_,⟨⟨_,rfl,by rfl⟩,rfl,trivial⟩,⟨⟨_,rfl,by (rw [b0J (by omega),← b24 (by omega) hM.pw hM.dif (fun t ht ht2=>hj.2 t ht (by omega)) c1a])⟩,rfl,rfl,trivial⟩,rfl,rfl,rfl⟩
   ·omega
   omega
  refine zwf ?_
  refine zgo ?_
  refine ⟨(i+1),?_,?_,⟨⟨_,rfl,by rfl⟩,rfl,trivial⟩,⟨⟨_,rfl,by (rw [b0J (by omega),← b24 (by omega) hM.pw hM.dif (fun t ht ht2=>hj.2 t ht (by omega)) c1a])⟩,rfl,rfl,trivial⟩,rfl,rfl,rfl⟩
  ·omega
  omega
 refine Y0 (a6I rfl rfl rfl rfl b9 rfl (AftOK.stays rfl ?_ rfl AftOK.nil))
 all_goals (
  have e:a7H d i=srtW d:=b7I (by omega)
  rw [e]
 )
theorem Q0 (d:List Wtr) (hd:b2Z d) (hn:d.length≤12) (lim:Int):CtrM Tryz.prog 221 [.own 0,.v (.int .i64 0),.v (.int .i64 (d.length:Int)),.v (.int .i64 lim),.v (.func (.func 174) #[] #[])] [.row 182 2 (d.map l1)] (.many []) [some (.row 182 2 ((srtW d).map l1))]:=by
 refine CtrM.of (n:=148) (k:=1) G Tryz.func221 rfl b3 rfl rfl rfl rfl rfl rfl rfl (fun w0 _ hpin=>?_)
 refine zgo ?_
 refine i7 [0,4] [0] (fun (u:Unit)=>[(1,.v (.int .i64 0)),(2,.v (.int .i64 (d.length:Int))),(3,.v (.int .i64 lim)),(10,.v (.bool true)),(11,.v (.bool true))]) (fun (u:Unit)=>[]) (fun (u:Unit)=>True) (fun (u:Unit)=>0) () rfl rfl ?_ ?_ ?_ ?_
 ·first | trivial | omega | (refine ⟨?_,?_⟩<;>omega)
 ·exact ⟨⟨_,rfl,by (first | rfl | (simp;done) | (simp;omega))⟩,rfl,⟨⟨_,rfl,by (first | rfl | (simp;done) | (simp;omega))⟩,rfl,⟨⟨_,rfl,by (first | rfl | (simp;done) | (simp;omega))⟩,rfl,⟨⟨_,rfl,by (first | rfl | (simp;done) | (simp;omega))⟩,rfl,⟨⟨_,rfl,by (first | rfl | (simp;done) | (simp;omega))⟩,rfl,trivial⟩⟩⟩⟩⟩
 ·exact trivial
 intro u hinv
 simp only [List.cons_append,List.nil_append]
 refine zcd (fun h1=>?_) (fun h1=>?_)
 ·refine vm5 ?_
  refine U2 1 [0] rfl rfl rfl (H9 d hd hn) rfl (RowsIn.cons rfl RowsIn.nil) rfl rfl rfl ?_
  refine zgo ?_
  refine c6 (a6I rfl rfl rfl rfl b9 rfl (AftOK.stays rfl ?_ rfl AftOK.nil))
  all_goals (rfl)
 exfalso;omega
theorem I0 (d:List Wtr) (hd:b2Z d) (hn:d.length≤12):CtrM Tryz.prog 173 [.own 0,.v (.func (.func 174) #[] #[])] [.row 182 2 (d.map l1)] (.many []) [some (.row 182 2 ((srtW d).map l1))]:=by
 refine CtrM.of (n:=14) (k:=1) G Tryz.func173 rfl b3 rfl rfl rfl rfl rfl rfl rfl (fun w0 _ hpin=>?_)
 refine vm5 ?_
 refine c2J ?_
 refine a8 rfl (a87 1 rfl rfl rfl (ArgsOK.of rfl) (a6g d.length hn) (fun _=>rfl) rfl (fun y1=>?_))
 refine zgo ?_
 refine a8 rfl (U2 1 [0] rfl rfl rfl (Q0 d hd hn _) rfl (RowsIn.cons rfl RowsIn.nil) rfl rfl rfl (b4 (a6I rfl rfl rfl rfl b9 rfl (AftOK.stays rfl ?_ rfl AftOK.nil))))
 all_goals (rfl)
end Go.Proofs.YtpfhomblkgmkkaaGreatDoor
set_option maxRecDepth 20000
namespace Go.Proofs.YtpfhomblkgmkkaaGreatDoor
open Go Go.Rf
theorem C8 (l:List Int) (hn:l.length≤1048576):Ctr Tryz.prog 157 [.lst 1 (l.map Rf.r9)] (.one (.fr 3 1 (l.map Rf.r9))):=by
 refine Ctr.of (n:=6) G Tryz.func157 rfl b3 rfl rfl rfl (fun w0=>?_)
 refine b14 ?_
 refine vm5 ?_
 refine c0a ?_
 refine zfo ?_
 all_goals (first | rfl | simp)
theorem H5 (l:List Int) (hn:l.length≤1048576):Ctr Tryz.prog 136 [.lst 1 (l.map Rf.r9)] (.one (.fr 3 1 (l.map Rf.r9))):=by
 refine Ctr.of (n:=6) G Tryz.func136 rfl b3 rfl rfl rfl (fun w0=>?_)
 refine b14 ?_
 refine vm5 ?_
 refine c0a ?_
 refine zfo ?_
 all_goals (first | rfl | simp)
end Go.Proofs.YtpfhomblkgmkkaaGreatDoor
set_option maxRecDepth 20000
namespace Go.Proofs.YtpfhomblkgmkkaaGreatDoor
open Go Go.Rf
theorem a7S (sl:List Slot) (wa:List Wtr) (hl:sl.length≤1048576) (hw:wa.length≤1048576):Ctr Tryz.prog 201 [.lst 3 (sl.map j8),.lst 2 (wa.map l1)] (.one (.v (.bool (a7E ⟨sl,wa⟩)))):=by
 refine Ctr.of (n:=58) G Tryz.func201 rfl b3 rfl rfl rfl (fun w0=>?_)
 refine zcl (a7R _ V3) ?_
 refine zcd (fun h1=>?_) (fun h1=>?_)
 ·refine zf1 ?_
  all_goals exact a9B
 refine zgo ?_
 refine i7 [0,1,10,11] [] (fun (i:Nat)=>[(12,.v (.int .i64 (i:Int)))]) (fun (i:Nat)=>[]) (fun (i:Nat)=>i≤wa.length∧∀ j,j < i→oneWa sl wa j=true) (fun (i:Nat)=>wa.length - i) 0 rfl rfl ?_ ?_ ?_ ?_
 ·exact ⟨Nat.zero_le _,fun j hj=>by omega⟩
 ·exact ⟨⟨_,rfl,by (first | rfl | (simp;done) | (simp;omega))⟩,rfl,trivial⟩
 ·exact trivial
 intro i hinv
 have ht:0 < i→((i:Int) - 1).toNat=i - 1:=fun _=>(by omega)
 simp only [List.cons_append,List.nil_append]
 refine zcd (fun h2=>?_) (fun h2=>?_)
 ·refine a3x ?_
  refine zgd ?_
  refine zcl (a0Q _) ?_
  refine zcd (fun h3=>?_) (fun h3=>?_)
  ·refine H3 ?_
   all_goals exact a9B
  refine zcl (V4 _) ?_
  refine zcd (fun h4=>?_) (fun h4=>?_)
  ·refine H3 ?_
   all_goals exact a9B
  refine zcl (E7 sl _ hl) ?_
  refine zcd (fun h5=>?_) (fun h5=>?_)
  ·refine H3 ?_
   all_goals exact a9B
  refine zgo ?_
  refine c2I ?_
  refine zgo ?_
  refine a97 ?_
  refine u9 rfl rfl (f6 rfl (ArgsOK.of (congrArg some (congrArg (fun z=>[AV.lst 2 z,.v (.int .i64 (wa.getD i default).q)]) (a1Q (xs:=wa) (i:=i))))) (Ctr.eq (a1h (wa.take i) _ C3) (congrArg (fun z=>Res.one (.v (.int .i64 z))) (b7f (by omega)))) rfl) ?_
  refine zcd (fun h6=>?_) (fun h6=>?_)
  ·refine H3 ?_
   all_goals exact a9B
  refine zcd (fun h7=>?_) (fun h7=>?_)
  ·refine zcl (B1 _ _) ?_
   refine zcd (fun h8=>?_) (fun h8=>?_)
   ·refine zf1 ?_
    all_goals exact a9B
   refine zgo ?_
   refine ⟨(i+1),?_,?_,⟨⟨_,rfl,by rfl⟩,rfl,trivial⟩,trivial,rfl,rfl,rfl⟩
   ·exact ⟨by omega,i8 hinv.2 (G2.mpr ⟨p7.mp c8,p7.mp c8,by omega,(fun j hj=>by have:=Z7.mp (a5G.mp (show G5 (fun j=>decide ((wa.getD j default).q=(wa.getD i default).q)) i < 0 by omega)) j hj;exact of_decide_eq_false this),b5t⟩)⟩
   omega
  refine zwf ?_
  refine zgo ?_
  refine ⟨(i+1),?_,?_,⟨⟨_,rfl,by rfl⟩,rfl,trivial⟩,trivial,rfl,rfl,rfl⟩
  ·exact ⟨by omega,i8 hinv.2 (G2.mpr ⟨p7.mp c8,p7.mp c8,by omega,(fun j hj=>by have:=Z7.mp (a5G.mp (show G5 (fun j=>decide ((wa.getD j default).q=(wa.getD i default).q)) i < 0 by omega)) j hj;exact of_decide_eq_false this),b5t⟩)⟩
  omega
 refine zf1 ?_
 all_goals exact a9B
theorem a66 (sl:List Slot) (wa:List Wtr) (hl:sl.length≤1048576) (hw:wa.length≤1048576):Ctr Tryz.prog 189 [.lst 3 (sl.map j8),.lst 2 (wa.map l1)] (.one (.v (.bool (a7E ⟨sl,wa⟩)))):=by
 refine Ctr.of (n:=81) G Tryz.func189 rfl b3 rfl rfl rfl (fun w0=>?_)
 refine zgo ?_
 refine i7 [0,1] [] (fun (i:Nat)=>[(5,.v (.int .i64 (i:Int)))]) (fun (i:Nat)=>[]) (fun (i:Nat)=>i≤wa.length∧∀ j,j < i→oneWa sl wa j=true) (fun (i:Nat)=>wa.length - i) 0 rfl rfl ?_ ?_ ?_ ?_
 ·exact ⟨Nat.zero_le _,fun j hj=>by omega⟩
 ·exact ⟨⟨_,rfl,by (first | rfl | (simp;done) | (simp;omega))⟩,rfl,trivial⟩
 ·exact trivial
 intro i hinv
 have ht:0 < i→((i:Int) - 1).toNat=i - 1:=fun _=>(by omega)
 simp only [List.cons_append,List.nil_append]
 refine zcd (fun h1=>?_) (fun h1=>?_)
 ·refine zcd (fun h2=>?_) (fun h2=>?_)
  ·refine a3x ?_
   refine zcl (a0R _) ?_
   refine zcd (fun h3=>?_) (fun h3=>?_)
   ·refine H3 ?_
    all_goals exact a93
   refine zcl (Z9 _) ?_
   refine zcd (fun h4=>?_) (fun h4=>?_)
   ·refine H3 ?_
    all_goals exact a93
   refine zcl (F6 sl _ hl) ?_
   refine zcd (fun h5=>?_) (fun h5=>?_)
   ·refine zf1 ?_
    all_goals exact a93
   refine zgd ?_
   refine zcd (fun h6=>?_) (fun h6=>?_)
   ·refine zcl (P9 _ _ _ _) ?_
    refine zcd (fun h7=>?_) (fun h7=>?_)
    ·refine zf1 ?_
     all_goals exact a93
    refine zgo ?_
    refine i7 [0,1,5,6] [0] (fun (k:Nat)=>[(7,.v (.int .i64 (k:Int)))]) (fun (k:Nat)=>[]) (fun (k:Nat)=>k≤i∧∀ j,j < k→(wa.getD j default).q≠(wa.getD i default).q) (fun (k:Nat)=>i - k) 0 rfl rfl ?_ ?_ ?_ ?_
    ·exact ⟨Nat.zero_le _,fun j hj=>by omega⟩
    ·exact ⟨⟨_,rfl,by (first | rfl | (simp;done) | (simp;omega))⟩,rfl,trivial⟩
    ·exact trivial
    intro k hk
    simp only [List.cons_append,List.nil_append]
    refine zcd (fun h8=>?_) (fun h8=>?_)
    ·refine zgd ?_
     refine zcd (fun h9=>?_) (fun h9=>?_)
     ·refine zf1 ?_
      all_goals exact a93
     refine zgo ?_
     refine ⟨(k+1),?_,?_,⟨⟨_,rfl,by rfl⟩,rfl,trivial⟩,trivial,rfl,rfl,rfl⟩
     ·exact ⟨by omega,a8W hk.2 c8⟩
     omega
    refine zgo ?_
    refine ⟨(i+1),?_,?_,⟨⟨_,rfl,by rfl⟩,rfl,trivial⟩,trivial,rfl,rfl,rfl⟩
    ·exact ⟨by omega,i8 hinv.2 (G2.mpr ⟨p7.mp c8,p7.mp c8,by omega,fun j hj=>hk.2 j (by omega),b5t⟩)⟩
    omega
   refine zwf ?_
   refine zgo ?_
   refine i7 [0,1,5,6] [0] (fun (k:Nat)=>[(7,.v (.int .i64 (k:Int)))]) (fun (k:Nat)=>[]) (fun (k:Nat)=>k≤i∧∀ j,j < k→(wa.getD j default).q≠(wa.getD i default).q) (fun (k:Nat)=>i - k) 0 rfl rfl ?_ ?_ ?_ ?_
   ·exact ⟨Nat.zero_le _,fun j hj=>by omega⟩
   ·exact ⟨⟨_,rfl,by (first | rfl | (simp;done) | (simp;omega))⟩,rfl,trivial⟩
   ·exact trivial
   intro k hk
   simp only [List.cons_append,List.nil_append]
   refine zcd (fun h10=>?_) (fun h10=>?_)
   ·refine zgd ?_
    refine zcd (fun h11=>?_) (fun h11=>?_)
    ·refine zf1 ?_
     all_goals exact a93
    refine zgo ?_
    refine ⟨(k+1),?_,?_,⟨⟨_,rfl,by rfl⟩,rfl,trivial⟩,trivial,rfl,rfl,rfl⟩
    ·exact ⟨by omega,a8W hk.2 c8⟩
    omega
   refine zgo ?_
   refine ⟨(i+1),?_,?_,⟨⟨_,rfl,by rfl⟩,rfl,trivial⟩,trivial,rfl,rfl,rfl⟩
   ·exact ⟨by omega,i8 hinv.2 (G2.mpr ⟨p7.mp c8,p7.mp c8,by omega,fun j hj=>hk.2 j (by omega),b5t⟩)⟩
   omega
  refine zcl (a4p sl hl) ?_
  refine zcd (fun h12=>?_) (fun h12=>?_)
  ·refine zf1 ?_
   all_goals exact a93
  refine zf1 ?_
  all_goals exact a93
 refine zwf ?_
 refine zcl (a4p sl hl) ?_
 refine zcd (fun h13=>?_) (fun h13=>?_)
 ·refine zf1 ?_
  all_goals exact a93
 refine zf1 ?_
 all_goals exact a93
theorem a19 (q:Que) (hl:q.sl.length≤1048576) (hw:q.wa.length≤1048576) (hd:b66 q.sl):Ctr Tryz.prog 202 [.agg [.lst 3 (q.sl.map j8),.lst 2 (q.wa.map l1)]] (.one (.v (.bool (setd q)))):=by
 have hbb:=@a1w q.sl false
 refine Ctr.of (n:=33) G Tryz.func202 rfl b3 rfl rfl rfl (fun w0=>?_)
 refine o7 0 rfl (fun _=>rfl) (fun u0=>?_)
 refine vm1 ?_
 refine zcd (fun h1=>?_) (fun h1=>?_)
 ·refine zf1 ?_
  all_goals exact a7y
 refine zcl (R7 q.sl false hl hd) ?_
 refine zgd ?_
 refine zcl (a1B q.sl hl) ?_
 refine zcd (fun h2=>?_) (fun h2=>?_)
 ·refine zcd (fun h3=>?_) (fun h3=>?_)
  ·refine zf1 ?_
   all_goals exact a7y
  refine zcl (y8 _) ?_
  refine zcl (B1 _ _) ?_
  refine zf1 ?_
  all_goals exact a7y
 refine zf1 ?_
 all_goals exact a7y
theorem a2a (q:Que) (hl:q.sl.length≤1048576) (hw:q.wa.length≤1048576):Ctr Tryz.prog 190 [.agg [.lst 3 (q.sl.map j8),.lst 2 (q.wa.map l1)]] (.one (.v (.bool (setd q)))):=by
 have hbb:=@a1w q.sl false
 refine Ctr.of (n:=42) G Tryz.func190 rfl b3 rfl rfl rfl (fun w0=>?_)
 refine o7 0 rfl (fun _=>rfl) (fun u0=>?_)
 refine vm1 ?_
 refine zcd (fun h1=>?_) (fun h1=>?_)
 ·refine zf1 ?_
  all_goals exact a7y
 refine zcl (a4o q.sl hl) ?_
 refine zcd (fun h2=>?_) (fun h2=>?_)
 ·refine zf1 ?_
  all_goals exact a7y
 refine zcl (a2P q.sl hl) ?_
 refine zgd ?_
 refine zcd (fun h3=>?_) (fun h3=>?_)
 ·refine zf1 ?_
  all_goals exact a7y
 refine zcl (P9 _ _ _ _) ?_
 refine zf1 ?_
 all_goals exact a7y
theorem a9G (q:Que) (hl:q.sl.length≤1048576) (hw:q.wa.length≤1048576):Ctr Tryz.prog 156 [.agg [.lst 3 (q.sl.map j8),.lst 2 (q.wa.map l1)]] (.one (.v (.bool (a91 q)))):=by
 refine Ctr.of (n:=12) G Tryz.func156 rfl b3 rfl rfl rfl (fun w0=>?_)
 refine o7 0 rfl (fun _=>rfl) (fun u0=>?_)
 refine vm1 ?_
 refine zcl (a7S q.sl q.wa hl hw) ?_
 refine zcd (fun h1=>?_) (fun h1=>?_)
 ·have hpf:=paF.mp h1
  refine zcl (a19 q hl hw hpf.sl.difS) ?_
  refine zf1 ?_
  all_goals exact b5e
 refine zf1 ?_
 all_goals exact b5e
theorem a98 (q:Que) (hl:q.sl.length≤1048576) (hw:q.wa.length≤1048576):Ctr Tryz.prog 139 [.agg [.lst 3 (q.sl.map j8),.lst 2 (q.wa.map l1)]] (.one (.v (.bool (a91 q)))):=by
 refine Ctr.of (n:=12) G Tryz.func139 rfl b3 rfl rfl rfl (fun w0=>?_)
 refine o7 0 rfl (fun _=>rfl) (fun u0=>?_)
 refine vm1 ?_
 refine zcl (a66 q.sl q.wa hl hw) ?_
 refine zcd (fun h1=>?_) (fun h1=>?_)
 ·refine zcl (a2a q hl hw) ?_
  refine zf1 ?_
  all_goals exact b5e
 refine zf1 ?_
 all_goals exact b5e
theorem a7T (q:Que) (hl:q.sl.length≤1048576) (hw:q.wa.length≤1048576):Ctr Tryz.prog 166 [.agg [.lst 3 (q.sl.map j8),.lst 2 (q.wa.map l1)]] (.shp true [some 2] [.fr 169 3 (q.sl.map j8),.fr 182 2 (q.wa.map l1) true]):=by
 refine Ctr.of (n:=12) G Tryz.func166 rfl b3 rfl rfl rfl (fun w0=>?_)
 refine o7 0 rfl (fun _=>rfl) (fun u0=>?_)
 refine T5 ?_
 refine zgn ?_
 refine u4 (l4 10 [0] mixed b3 rfl rfl (fun r0=>?_) (fun _ h=>h))
 refine zsa 1 ?_
 refine zsa 2 ?_
 refine a1f ?_
 refine w3 (N:=4) rfl (p4 (fuel:=4) [⟨0,3,2,false,.row 169 3 []⟩,⟨4,7,3,false,.row 182 2 []⟩] (AllVOK.cons (VOK.lit G rfl rfl rfl rfl rfl) (AllVOK.cons (VOK.lit G rfl rfl rfl rfl rfl) (AllVOK.nil))) (fun hok=>?_))
 refine j3 [(3,[0])] b3 b3 (fun e he=>hok e he) b3 (AllVS.cons ?_ AllVS.nil)
 refine VStep.mk1 [0] 3 (.own 2) 2 (.row 169 3 []) [⟨4,7,3,false,.row 182 2 []⟩] rfl rfl rfl rfl rfl (fun b1 _ hbn=>g9 G N3 rfl rfl rfl rfl rfl rfl rfl rfl rfl C3 rfl rfl (b4 rfl)) b3 b3 b3 b3 (j3 [(7,[4])] b3 b3 (fun e he=>hok e (vin (is:=[0]) rfl he)) b3 (AllVS.cons ?_ AllVS.nil))
 refine c2H ?_
 clear hok
 refine b5 (rs:=[8]) b3 rfl (AllB.cons ?_ AllB.nil)
 refine a2U ?_
 refine b5 (rs:=[9]) b3 rfl (AllB.cons ?_ AllB.nil)
 refine a2U ?_
 refine G3 ?_
 refine c6 (d9 rfl rfl rfl rfl (a7 (b7 rfl ?_) (a7 (b7 rfl ?_) b9)))
 all_goals (first | rfl | simp)
end Go.Proofs.YtpfhomblkgmkkaaGreatDoor
