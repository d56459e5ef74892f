/- Texts merged into one: M12, M13, M15, M16, M17, Q4, P1, P2. -/
import Derived.Test.YtdhckhjphmjniaaGreatDoorPFnConsoleF
set_option maxHeartbeats 4000000
set_option linter.unusedSimpArgs false
set_option linter.unusedVariables false
set_option maxRecDepth 20000
namespace Go.Proofs.YtdhckhjphmjniaaGreatDoor
open Go Go.Rf
theorem a5C (n:Nat) (hn:n<=12):CtrE (α:=Int) Tryz.prog 216 [.v (.int .u64 (n:Int))] (λy=>(.one (.v (.int .i64 y)))):=by
 refine CtrE.of (n:=25) G Tryz.func216 Z a8 Z Z Z (λw0=>?_)
 refine zcd (λh1=>?_) (λh1=>?_)
 ·exfalso;omega
 refine zcd (λh2=>?_) (λh2=>?_)
 ·exfalso;omega
 refine zcd (λh3=>?_) (λh3=>?_)
 ·exfalso;omega
 refine vm3 ?_
 refine c63 ?_
 refine p6 ?_
 refine b5 Z Z (U8 G Z Z Z Z J (Int.lt_of_le_of_lt (show (n:Int)<=12 by omega) (by decide))) ?_
 refine p6 ?_
 refine c63 ?_
 refine vm7 ?_
 refine zgo ?_
 refine d8 (c5y (_) (O2 Z (j4 Z)))
 all_goals (rfl)
theorem a7S (n:Nat) (hn:n<=12):CtrE (α:=Int) Tryz.prog 193 [.v (.int .u64 (n:Int))] (λy=>(.one (.v (.int .i64 y)))):=by
 refine CtrE.of (n:=8) G Tryz.func193 Z a8 Z Z Z (λw0=>?_)
 refine zwf ?_
 refine zgo ?_
 refine a7 Z (b0j 0 Z Z Z (ArgsOK.of Z) (a5C n hn) (λ_=>Z) Z (λy1=>?_))
 refine zgo ?_
 refine d8 (c5y (_) (O2 Z (j4 Z)))
 all_goals (rfl)
theorem L9 (d:List Wtr) (hd:b4l d) (hn:d.length<=12):CtrM Tryz.prog 269 [.own 0,.v (.int .i64 0),.v (.int .i64 (d.length:Int)),.v (.func (.func 176) #[] #[])] [.row 76 2 (d.map j6)] (.many []) [some (.row 76 2 ((srtW d).map j6))]:=by
 refine CtrM.of (n:=53) (k:=1) G Tryz.func269 Z a8 Z Z Z Z Z Z Z (λw0 _ hpin=>?_)
 refine s5 (N4 (Gh.fnc (t:=3) Z) ?_)
 refine zgo ?_
 refine g9 [0,1,2,3] [] (λ(i:Nat)=>[(8,.v (.int .i64 (i:Int)))]) (λ(i:Nat)=>[(0,some (.row 76 2 ((a86 d i).map j6)))]) (λ(i:Nat)=>1<=i/\(i<=d.length∨i=1)) (λ(i:Nat)=>d.length - i) 1 Z Z ?_ ?_ ?_ ?_
 ·exact ⟨Nat.le_refl _,.inr Z⟩
 ·exact a88
 ·exact ⟨⟨_,Z,by (rw [c5K])⟩,Z,Z,trivial⟩
 intro i hi
 refine vm2 ?_
 refine zcd (λh1=>?_) (λh1=>?_)
 ·have hM:=c9X hd (i:=i) J
  have hPl:=hM.len
  have hRl:(d.drop (i+1)).length=d.length - (i+1):=List.length_drop
  refine zgo ?_
  refine g9 [0,1,2,3,8] [] (λ(j:Nat)=>[(9,.v (.int .i64 (j:Int)))]) (λ(j:Nat)=>[(0,some (.row 76 2 ((a3G (srtW (d.take i)) (d.getD i default) (d.drop (i+1)) j).map j6)))]) (λ(j:Nat)=>j<=i/\∀t,j<=t→t < i→lessW (d.getD i default) ((srtW (d.take i)).getD t default)=true) (λ(j:Nat)=>j) i Z Z ?_ ?_ ?_ ?_
  ·exact ⟨Nat.le_refl _,λt h1 h2=>by omega⟩
  ·exact a88
  ·exact ⟨⟨_,Z,by (rw [b9k J])⟩,Z,Z,trivial⟩
  intro j hj
  have htn:0 < j→((j:Int) - 1).toNat=j - 1:=λ_=>J
  refine vm2 ?_
  refine zgd ?_
  refine zcd (λh2=>?_) (λh2=>?_)
  ·refine c8Q ?_
   refine c8Q ?_
   refine b1d ?_
   refine l2 Z Z (b2x Z Z (ArgsOK.of Z) Z (B8 _ _) Z) ?_
   refine zcd (λh3=>?_) (λh3=>?_)
   ·refine zgo ?_
    apply C6 [0,1,2,3,8,9] [0] 1 18 [] mixed a8 Z Z (λ_ h=>znk h)
    ·intro r0
     refine a06 ?_
     first | refine d7 4 Z a8 a8 Z Z Z Z (r3 Z Z Z Z J J) ?_ | refine d7 4 Z a8 a8 Z Z Z Z (t7 Z Z Z Z) ?_
     refine zsa 5 ?_
     refine zsa 6 ?_
     first | refine d7 7 Z a8 a8 Z Z Z Z (r3 Z Z Z Z J J) ?_ | refine d7 7 Z a8 a8 Z Z Z Z (t7 Z Z Z Z) ?_
     refine zsa 10 ?_
     refine zsa 11 ?_
     refine b6 (rs:=[8,12]) a8 Z (AllB.cons ?_ (AllB.cons ?_ AllB.nil))
     ·first | refine f7 [] Z Z (b5 Z Z (c8 G Z Z Z Z Z J a8X) (b4 ⟨Z,?_⟩)) | refine f7 [] Z Z (b5 Z Z (c8 G Z Z Z Z Z J a8W) (b4 ⟨Z,?_⟩)) | refine f7 [] Z Z (b5 Z Z (c8 G Z Z Z Z Z J a8V) (b4 ⟨Z,?_⟩))
      refine b6 (rs:=[9,12]) a8 Z (AllB.cons ?_ (AllB.cons ?_ AllB.nil))
      ·first | refine f7 [] Z Z (b5 Z Z (f6 G Z Z Z Z (a0B J) Z) (b4 ⟨Z,?_⟩)) | refine f7 [] Z Z (b5 Z Z (f6 G Z Z Z Z (a05 J J) Z) (b4 ⟨Z,?_⟩)) | refine f7 [] Z Z (b5 Z Z (f6 G Z Z Z Z (a11 J J) Z) (b4 ⟨Z,?_⟩))
       refine b6 (rs:=[12]) a8 Z (AllB.cons ?_ AllB.nil)
       first | refine f7 [] Z Z (b5 Z Z (c8 G Z Z Z Z Z J a8X) (b4 ⟨Z,?_⟩)) | refine f7 [] Z Z (b5 Z Z (c8 G Z Z Z Z Z J a8W) (b4 ⟨Z,?_⟩)) | refine f7 [] Z Z (b5 Z Z (c8 G Z Z Z Z Z J a8V) (b4 ⟨Z,?_⟩))
       refine b6 (rs:=[13]) a8 Z (AllB.cons ?_ AllB.nil)
       exact ws2
      exact c4C
     first | refine f7 [] Z Z (b5 Z Z (c8 G Z Z Z Z Z J a8X) (b4 ⟨Z,?_⟩)) | refine f7 [] Z Z (b5 Z Z (c8 G Z Z Z Z Z J a8W) (b4 ⟨Z,?_⟩)) | refine f7 [] Z Z (b5 Z Z (c8 G Z Z Z Z Z J a8V) (b4 ⟨Z,?_⟩))
     refine b6 (rs:=[8,13]) a8 Z (AllB.cons ?_ (AllB.cons ?_ AllB.nil))
     ·exact c4C
     first | refine f7 [] Z Z (b5 Z Z (f6 G Z Z Z Z (a0B J) Z) (b4 ⟨Z,?_⟩)) | refine f7 [] Z Z (b5 Z Z (f6 G Z Z Z Z (a05 J J) Z) (b4 ⟨Z,?_⟩)) | refine f7 [] Z Z (b5 Z Z (f6 G Z Z Z Z (a11 J J) Z) (b4 ⟨Z,?_⟩))
     refine b6 (rs:=[8]) a8 Z (AllB.cons ?_ AllB.nil)
     first | refine f7 [] Z Z (b5 Z Z (c8 G Z Z Z Z Z J a8X) (b4 ⟨Z,?_⟩)) | refine f7 [] Z Z (b5 Z Z (c8 G Z Z Z Z Z J a8W) (b4 ⟨Z,?_⟩)) | refine f7 [] Z Z (b5 Z Z (c8 G Z Z Z Z Z J a8V) (b4 ⟨Z,?_⟩))
     refine b6 (rs:=[9]) a8 Z (AllB.cons ?_ AllB.nil)
     exact ws2
    refine zgo ?_
    refine ⟨(j - 1),?_,?_,⟨⟨_,Z,by (congr 2;omega)⟩,Z,trivial⟩,⟨⟨_,Z,by (exact congrArg (λz=>Row.row _ _ z) (by rw [htn J];exact b7P J J))⟩,Z,Z,trivial⟩,Z,Z,Z⟩
    ·exact ⟨by omega,λt h1 h2=>(by by_cases e:t=j - 1<;>first | (subst e;exact a1Z.mp J) | exact hj.2 t J h2)⟩
    omega
   refine zgo ?_
   refine ⟨(i+1),?_,?_,⟨⟨_,Z,by rfl⟩,Z,trivial⟩,⟨⟨_,Z,by (rw [b1V J,← b4q J hM.pw hM.dif (λt ht ht2=>hj.2 t ht J) c3W])⟩,Z,Z,trivial⟩,Z,Z,Z⟩
   ·omega
   omega
  refine zwf ?_
  refine zgo ?_
  refine ⟨(i+1),?_,?_,⟨⟨_,Z,by rfl⟩,Z,trivial⟩,⟨⟨_,Z,by (rw [b1V J,← b4q J hM.pw hM.dif (λt ht ht2=>hj.2 t ht J) c3W])⟩,Z,Z,trivial⟩,Z,Z,Z⟩
  ·omega
  omega
 refine R5 (a5c Z Z Z Z d9 Z (AftOK.stays Z ?_ Z AftOK.nil))
 all_goals (
  have e:a86 d i=srtW d:=b9j J
  rw [e]
 )
theorem T4 (d:List Wtr) (hd:b4l d) (hn:d.length<=12) (lim:Int):CtrM Tryz.prog 228 [.own 0,.v (.int .i64 0),.v (.int .i64 (d.length:Int)),.v (.int .i64 lim),.v (.func (.func 176) #[] #[])] [.row 76 2 (d.map j6)] (.many []) [some (.row 76 2 ((srtW d).map j6))]:=by
 refine CtrM.of (n:=148) (k:=1) G Tryz.func228 Z a8 Z Z Z Z Z Z Z (λw0 _ hpin=>?_)
 refine zgo ?_
 refine g9 [0,4] [0] (λ(u:Unit)=>[(1,.v (.int .i64 0)),(2,.v (.int .i64 (d.length:Int))),(3,.v (.int .i64 lim)),(10,.v (.bool true)),(11,.v (.bool true))]) (λ(u:Unit)=>[]) (λ(u:Unit)=>True) (λ(u:Unit)=>0) () Z Z ?_ ?_ ?_ ?_
 ·first | trivial | omega | (refine ⟨?_,?_⟩<;>omega)
 ·exact ⟨⟨_,Z,by (first | rfl | (simp;done) | (simp;omega))⟩,Z,⟨⟨_,Z,by (first | rfl | (simp;done) | (simp;omega))⟩,Z,⟨⟨_,Z,by (first | rfl | (simp;done) | (simp;omega))⟩,Z,⟨⟨_,Z,by (first | rfl | (simp;done) | (simp;omega))⟩,Z,⟨⟨_,Z,by (first | rfl | (simp;done) | (simp;omega))⟩,Z,trivial⟩⟩⟩⟩⟩
 ·exact trivial
 intro u hinv
 refine vm2 ?_
 refine zcd (λh1=>?_) (λh1=>?_)
 ·refine vm3 ?_
  refine J7 1 [0] Z Z Z (L9 d hd hn) Z (RowsIn.cons Z RowsIn.nil) Z Z Z ?_
  refine zgo ?_
  refine d8 (a5c Z Z Z Z d9 Z (AftOK.stays Z ?_ Z AftOK.nil))
  all_goals (rfl)
 exfalso;omega
theorem M6 (d:List Wtr) (hd:b4l d) (hn:d.length<=12):CtrM Tryz.prog 175 [.own 0,.v (.func (.func 176) #[] #[])] [.row 76 2 (d.map j6)] (.many []) [some (.row 76 2 ((srtW d).map j6))]:=by
 refine CtrM.of (n:=14) (k:=1) G Tryz.func175 Z a8 Z Z Z Z Z Z Z (λw0 _ hpin=>?_)
 refine vm3 ?_
 refine c63 ?_
 refine a7 Z (b0j 1 Z Z Z (ArgsOK.of Z) (a7S d.length hn) (λ_=>Z) Z (λy1=>?_))
 refine zgo ?_
 refine a7 Z (J7 1 [0] Z Z Z (T4 d hd hn _) Z (RowsIn.cons Z RowsIn.nil) Z Z Z (b4 (a5c Z Z Z Z d9 Z (AftOK.stays Z ?_ Z AftOK.nil))))
 all_goals (rfl)
theorem U5 (q:Que) (hF:QF q):Ctr Tryz.prog 117 [.agg [.lst 3 (q.sl.map g8),.lst 2 (q.wa.map j6)]] (.one (.fr 3 1 ((C9 q).map Rf.r5))):=by
 have hl4:=hF.sl.len
 have hwn:=hF.wn8
 have cS:=M6 (pnL q 4) (b6B hF 4 (Nat.le_refl _)) (by have:=@b20 q 4;omega)
 rw [b5G hF] at cS
 refine Ctr.of (n:=50) G Tryz.func117 Z a8 Z Z Z (λw0=>?_)
 refine m7 0 Z (λ_=>Z) (λu0=>?_)
 refine vm1 ?_
 refine vm3 ?_
 refine b4J ?_
 refine vm3 ?_
 refine vm6 ?_
 refine p6 ?_
 refine b4K ?_
 refine zgo ?_
 refine g9 [4,15,16] [2] (λ(i:Nat)=>[(3,.own 1),(17,.v (.int .i64 (i:Int)))]) (λ(i:Nat)=>[(1,some (.row 76 2 ((pnL q i).map j6)))]) (λ(i:Nat)=>i<=4) (λ(i:Nat)=>4 - i) 0 Z Z ?_ ?_ ?_ ?_
 ·exact R3
 ·exact Y2
 ·exact a1M
 intro i hi
 have hpl:=@b20 q i
 refine vm2 ?_
 refine zcd (λh1=>?_) (λh1=>?_)
 ·refine vm3 ?_
  refine d6 G 4 Z Z Z Z Z ?_
  refine zcd (λh2=>?_) (λh2=>?_)
  ·refine zwt ?_
   exact c4M
  refine zcd (λh3=>?_) (λh3=>?_)
  ·exact c4M
  exact c9t
 obtain rfl:i=4:=J
 refine vm3 ?_
 refine J7 3 [1] Z Z Z cS Z (RowsIn.cons Z RowsIn.nil) Z Z Z ?_
 refine zgo ?_
 refine g9 [37,38] [1] (λ(i:Nat)=>[(4,.own 2),(39,.v (.int .i64 (i:Int)))]) (λ(i:Nat)=>[(2,some (.row 3 1 (((C9 q).take i).map Rf.r5)))]) (λ(i:Nat)=>i<=(pnS q 4).length) (λ(i:Nat)=>(pnS q 4).length - i) 0 Z Z ?_ ?_ ?_ ?_
 ·exact R3
 ·exact Y2
 ·exact a1M
 intro i hi
 have hpl:=@a7l q 4
 refine vm2 ?_
 refine zcd (λh4=>?_) (λh4=>?_)
 ·refine vm4 ?_
  refine b5 Z Z (f6 G Z Z Z Z (B6 J m8) Z) ?_
  refine p6 ?_
  refine d6 G 4 Z Z Z Z Z ?_
  refine vm3 ?_
  refine o8 G 5 Z Z Z Z Z Z Z Z ?_
  refine p6 ?_
  refine vm6 ?_
  exact c4e
 refine zfo ?_
 all_goals (first | rfl | (rw [b6D J]))
theorem a0p (q:Que) (hF:QF q):Ctr Tryz.prog 184 [.agg [.lst 3 (q.sl.map g8),.lst 2 (q.wa.map j6)]] (.one (.fr 3 1 ((C9 q).map Rf.r5))):=by
 have hl4:=hF.sl.len
 have hwn:=hF.wn8
 refine Ctr.of (n:=55) G Tryz.func184 Z a8 Z Z Z (λw0=>?_)
 refine m7 0 Z (λ_=>Z) (λu0=>?_)
 refine vm1 ?_
 refine vm3 ?_
 refine b4J ?_
 refine vm3 ?_
 refine vm6 ?_
 refine zgo ?_
 refine g9 [1] [0] (λ(i:Nat)=>[(3,.own 1),(4,.v (.int .i64 (i:Int)))]) (λ(i:Nat)=>[(1,some (.row 76 2 ((pnS q i).map j6)))]) (λ(i:Nat)=>i<=4) (λ(i:Nat)=>4 - i) 0 Z Z ?_ ?_ ?_ ?_
 ·exact R3
 ·exact Y2
 ·exact a1M
 intro i hi
 have hpl:=@a7l q i
 refine vm2 ?_
 refine zcd (λh1=>?_) (λh1=>?_)
 ·refine vm3 ?_
  refine d6 G 3 Z Z Z Z Z ?_
  refine zcd (λh2=>?_) (λh2=>?_)
  ·refine zwt ?_
   exact c9x
  refine zcd (λh3=>?_) (λh3=>?_)
  ·exact c9x
  refine zgo ?_
  refine ⟨(i+1),?_,?_,⟨⟨_,Z,by rfl⟩,Z,⟨⟨_,Z,by rfl⟩,Z,trivial⟩⟩,⟨⟨_,Z,by (first | (rw [b1W J,List.map_append];rfl) | (rw [b1W J];done) | (rw [b1W J];rfl) | (rw [c23 J];done))⟩,Z,Z,trivial⟩,Z,Z,Z⟩
  ·omega
  omega
 obtain rfl:i=4:=J
 refine vm3 ?_
 refine b4K ?_
 refine zgo ?_
 refine g9 [3] [1] (λ(i:Nat)=>[(6,.own 2),(7,.v (.int .i64 (i:Int)))]) (λ(i:Nat)=>[(2,some (.row 3 1 (((C9 q).take i).map Rf.r5)))]) (λ(i:Nat)=>i<=(pnS q 4).length) (λ(i:Nat)=>(pnS q 4).length - i) 0 Z Z ?_ ?_ ?_ ?_
 ·exact R3
 ·exact Y2
 ·exact a1M
 intro i hi
 have hpl:=@a7l q 4
 refine vm2 ?_
 refine zcd (λh4=>?_) (λh4=>?_)
 ·refine vm4 ?_
  refine c2w ?_
  refine p6 ?_
  refine c7a ?_
  refine p6 ?_
  refine c2x ?_
  refine p6 ?_
  refine vm6 ?_
  exact c4e
 refine zfo ?_
 all_goals (first | rfl | (rw [b6D J]))
theorem b0S (x:Ifc) (hn:x.st.length<=1048576) (hl:x.qu.sl.length<=1048576) (hw:x.qu.wa.length<=1048576):Ctr Tryz.prog 104 [.agg [.v (.int .i64 x.ma),.lst 1 (x.st.map Rf.r5),.lst 3 (x.qu.sl.map g8),.lst 2 (x.qu.wa.map j6)]] (.one (.v (.bool (a2n x)))):=by
 refine Ctr.of (n:=74) G Tryz.func104 Z a8 Z Z Z (λw0=>?_)
 refine m7 0 Z (λ_=>Z) (λu0=>?_)
 refine s5 ?_
 refine b1b ?_
 refine zgn ?_
 refine s5 ?_
 refine a33 ?_
 refine a3L ?_
 refine p6 ?_
 refine b5 Z Z (i7 Z (ArgsOK.of Z) (a0J x.ma 0 16) Z) ?_
 refine a3L ?_
 refine B2 Z Z Z (λh1=>?_) (λh1=>?_)
 ·try rw [h1]
  try simp only [rfb] at h1
  refine zgn ?_
  refine N1 Z ?_
  exact c0z
 try rw [h1]
 try simp only [rfb] at h1
 refine a3L ?_
 refine W8 ?_
 refine b5 Z Z (i7 Z (ArgsOK.of Z) (b1f x.qu hl hw) Z) ?_
 refine zgn ?_
 refine l4 Z (λh2=>?_) (λh2=>?_)
 ·try rw [h2]
  try simp only [rfb] at h2
  exact c0z
 try rw [h2]
 try simp only [rfb] at h2
 have hq:=a7e.mp h2
 have hSl:=hq.1.sl
 have hl4:=hSl.len
 refine zgn ?_
 refine s5 ?_
 refine a3K ?_
 refine p6 ?_
 refine d3 2 Z Z Z (ArgsOK.of Z) (a9j x.qu.sl hSl) Z Z ?_
 refine zgn ?_
 refine zgn ?_
 refine r9 (g9 [1,3] [0,1] (λ(i:Nat)=>[(4,.v (.int .i64 (i:Int)))]) (λ(i:Nat)=>[]) (λ(i:Nat)=>i<=x.st.length/\StP x.qu.sl x.st i) (λ(i:Nat)=>x.st.length - i) 0 Z Z ?_ ?_ ?_ ?_)
 ·exact ⟨Nat.zero_le _,c71⟩
 ·exact B0
 ·exact trivial
 intro i hinv
 have hti:0 < i→((i:Int) - 1).toNat=i - 1:=λ_=>J
 refine vm2 ?_
 refine zgn ?_
 refine l4 Z (λh3=>?_) (λh3=>?_)
 ·try rw [h3]
  try simp only [rfb] at h3
  refine zgn ?_
  refine s5 (r9 (s5 ?_))
  refine c0x ?_
  iterate 6 refine zst ?_
  refine d4 Z (l2 Z Z (i7 Z c3T (a3Q (a8j x.qu.sl 4) _ (by have:=@a7n x.qu.sl 4;have:=@a0C x.qu.sl 4;omega)) Z) ?_)
  refine a3L ?_
  refine b2s Z Z Z (λh4=>?_) (λh4=>?_)
  ·try rw [h4]
   try simp only [rfb] at h4
   refine zgn ?_
   refine N1 Z ?_
   exact c0z
  try rw [h4]
  try simp only [rfb] at h4
  have hm:=(a7m 4).mp (b0x.mp h4)
  iterate 3 refine zst ?_
  refine c62 ?_
  iterate 5 refine zst ?_
  refine b1d ?_
  refine l2 Z Z (i7 Z c3T (a3Q (x.st.take i) _ b7a) Z) ?_
  refine zgn ?_
  refine l4 Z (λh5=>?_) (λh5=>?_)
  ·try rw [h5]
   try simp only [rfb] at h5
   exact c0z
  try rw [h5]
  try simp only [rfb] at h5
  refine zgn ?_
  refine c0x ?_
  iterate 3 refine zst ?_
  refine b2s Z Z Z (λh6=>?_) (λh6=>?_)
  ·try rw [h6]
   try simp only [rfb] at h6
   have hl1:=b5H (hinv.2.inn (i - 1) J) hl4
   have hl2:=b5H hm hl4
   iterate 5 refine zst ?_
   refine b1d ?_
   refine c2p ?_
   refine b1d ?_
   refine l2 Z Z (i7 Z (ArgsOK.of Z) (a0P x.qu _ hl (by rw [hti J];exact hl1)) Z) ?_
   iterate 7 refine zst ?_
   refine b1d ?_
   refine l2 Z Z (i7 Z (ArgsOK.of Z) (a0P x.qu _ hl hl2) Z) ?_
   refine zgn ?_
   refine l4 Z (λh7=>?_) (λh7=>?_)
   ·try rw [h7]
    try simp only [rfb] at h7
    exact c0z
   try rw [h7]
   try simp only [rfb] at h7
   refine zgn ?_
   refine b7 ?_
   refine zst ?_
   refine vm7 ?_
   refine zgn ?_
   refine ⟨(i+1),?_,?_,⟨⟨_,Z,by rfl⟩,Z,trivial⟩,trivial,Z,Z,Z⟩
   ·exact c4j
   omega
  try rw [h6]
  try simp only [rfb] at h6
  refine zgn ?_
  refine a0Y Z ?_
  refine zgn ?_
  refine b7 ?_
  refine zst ?_
  refine vm7 ?_
  refine zgn ?_
  refine ⟨(i+1),?_,?_,⟨⟨_,Z,by rfl⟩,Z,trivial⟩,trivial,Z,Z,Z⟩
  ·exact c4j
  omega
 try rw [h3]
 try simp only [rfb] at h3
 refine zgn ?_
 refine a6o ?_
 all_goals exact c3r
theorem a9q (rs:List Route) (q:Que) (k:Nat) (hr8:rs.length=8) (hF:QF q) (hk:k<=8):Ctr Tryz.prog 105 [.lst 2 (rs.map p8),.agg [.lst 3 (q.sl.map g8),.lst 2 (q.wa.map j6)],.v (.int .i64 (k:Int))] (.one (.v (.bool (okRq rs q k)))):=by
 have hl4:=hF.sl.len
 have hwn:=hF.wn8
 refine Ctr.of (n:=83) G Tryz.func105 Z a8 Z Z Z (λw0=>?_)
 refine m7 1 Z (λ_=>Z) (λu1=>?_)
 refine vm1 ?_
 refine zgo ?_
 refine g9 [0,2,4] [0] (λ(i:Nat)=>[(7,.v (.int .i64 (i:Int)))]) (λ(i:Nat)=>[]) (λ(i:Nat)=>i<=4/\∀t,t < i→rtS rs k (q.sl.getD t default)=true) (λ(i:Nat)=>4 - i) 0 Z Z ?_ ?_ ?_ ?_
 ·exact S9
 ·exact B0
 ·exact trivial
 intro i hi
 refine vm2 ?_
 refine zcd (λh1=>?_) (λh1=>?_)
 ·refine b4L ?_
  refine zgd ?_
  refine zcd (λh2=>?_) (λh2=>?_)
  ·refine zwt ?_
   exact c0B
  have hb0:=hF.sl.ok i J
  refine zcd (λh3=>?_) (λh3=>?_)
  ·have hb:=(hF.sl.ok i J h3).2.1
   refine zcd (λh4=>?_) (λh4=>?_)
   ·refine zwt ?_
    exact c0B
   refine zcd (λh5=>?_) (λh5=>?_)
   ·exact c0B
   exact c4b
  refine zwf ?_
  exact c4b
 refine zgo ?_
 refine g9 [0,2,4] [0] (λ(j:Nat)=>[(9,.v (.int .i64 (j:Int)))]) (λ(j:Nat)=>[]) (λ(j:Nat)=>j<=q.wa.length/\∀t,t < j→rtW rs k (q.wa.getD t default)=true) (λ(j:Nat)=>q.wa.length - j) 0 Z Z ?_ ?_ ?_ ?_
 ·exact S9
 ·exact B0
 ·exact trivial
 intro j hj
 refine vm2 ?_
 refine zcd (λh6=>?_) (λh6=>?_)
 ·have hbw:=(hF.wa _ (i6.mpr ⟨j,by omega,Z⟩)).1
  refine b4L ?_
  refine zgd ?_
  refine zcd (λh7=>?_) (λh7=>?_)
  ·refine zwt ?_
   exact c0B
  refine zcd (λh8=>?_) (λh8=>?_)
  ·exact c0B
  refine zgo ?_
  refine ⟨(j+1),?_,?_,⟨⟨_,Z,by rfl⟩,Z,trivial⟩,trivial,Z,Z,Z⟩
  ·exact ⟨by omega,s2 hj.2 (a13.mpr ⟨by assumption,by assumption⟩)⟩
  omega
 refine zf1 ?_
 all_goals exact c3s
theorem y9:J5 Tryz.prog 132 [.int .i64,.int .i64]=true:=by kernel_rfl
theorem Q9 (wa:List Wtr) (hw:wa.length<=1048576):Ctr Tryz.prog 141 [.lst 2 (wa.map j6)] (.one (.fr 76 2 (wa.map j6))):=by
 refine Ctr.of (n:=8) G Tryz.func141 Z a8 Z Z Z (λw0=>?_)
 refine zgo ?_
 refine a7 Z (c1k G Z Z Z Z Z (λbn hbn=>?_))
 refine zcd (λh1=>?_) (λh1=>?_)
 ·refine zgo ?_
  refine d8 (O2 Z (I0 ?_))
  exact c4y
 refine b1c ?_
 refine vm3 ?_
 refine vm6 ?_
 refine zfo ?_
 exact c4y
theorem a5D (w:Wtr) (rs:List Route) (k:Nat) (hr8:rs.length=8) (hw:0<=w.q/\w.q<=7):Ctr Tryz.prog 144 [.v (a5M w),.eptN [.lst 2 (rs.map p8)],.ept [.int .i64 (k:Int)]] (.one (.v (.bool (!rtW rs k w)))):=by
 refine Ctr.of (n:=15) G Tryz.func144 Z a8 Z Z Z (λw0=>?_)
 refine vm1 ?_
 refine zgd ?_
 refine d4 Z (l2 Z Z (U7 G Z Z Z Z) ?_)
 refine zgo ?_
 refine d4 Z (l2 Z Z (b3U [.int .i64,.int .i64] Z Z Z Z Z Z Z (.inl Z) (.inl Z) y9 ⟨_,_,Z,⟨_,Z⟩,_,_,Z,⟨_,Z⟩,Z⟩ ⟨_,_,Z,⟨_,Z⟩,_,_,Z,⟨_,Z⟩,Z⟩) ?_)
 refine zf1 ?_
 all_goals ((refine congrArg Value.bool ?_;rw [Bool.eq_iff_iff,Bool.not_eq_true',Bool.not_eq_true',← Bool.not_eq_true,← Bool.not_eq_true (b:=rtW rs k w),ec2,a13];exact not_congr And.comm))
theorem J1 (xs:List Wtr) (f:Nat) (rs:List Route) (c:List Value) (p:Wtr→Bool) (hl:xs.length<=1048576) (hf:∀i,i < xs.length→Ctr Tryz.prog f [.v (a5M (xs.getD i default)),.eptN [.lst 2 (rs.map p8)],.ept c] (.one (.v (.bool (p (xs.getD i default)))))):Ctr Tryz.prog 196 [.lst 2 (xs.map j6),.fnc f [.eptN [.lst 2 (rs.map p8)],.ept c]] (.one (.v (.int .i64 (P3 (λi=>p (xs.getD i default)) xs.length)))):=by
 exact c40
theorem I4 (xs:List Wtr) (f:Nat) (rs:List Route) (c:List Value) (p:Wtr→Bool) (hl:xs.length<=1048576) (hf:∀i,i < xs.length→Ctr Tryz.prog f [.v (a5M (xs.getD i default)),.eptN [.lst 2 (rs.map p8)],.ept c] (.one (.v (.bool (p (xs.getD i default)))))):Ctr Tryz.prog 143 [.lst 2 (xs.map j6),.fnc f [.eptN [.lst 2 (rs.map p8)],.ept c]] (.one (.v (.bool (a0x xs.length (λi=>p (xs.getD i default)))))):=by
 refine Ctr.of (n:=9) G Tryz.func143 Z a8 Z Z Z (λw0=>?_)
 refine zcl (J1 xs f rs c p hl hf) ?_
 refine zf1 ?_
 all_goals (rw [a5d])
theorem a7T (rs:List Route) (k:Nat) (x:Ifc) (hr8:rs.length=8) (hF:IfF x) (hk:k<=8):Ctr Tryz.prog 91 [.lst 2 (rs.map p8),.v (.int .i64 (k:Int)),.agg [.v (.int .i64 x.ma),.lst 1 (x.st.map Rf.r5),.lst 3 (x.qu.sl.map g8),.lst 2 (x.qu.wa.map j6)]] (.one (.v (.bool (okRq rs x.qu k)))):=by
 have hl4:=hF.qu.sl.len
 have hwn:=hF.qu.wn8
 refine Ctr.of (n:=38) G Tryz.func91 Z a8 Z Z Z (λw0=>?_)
 refine b8p (t:=0) Z (λz0=>?_)
 refine m7 2 Z (λ_=>Z) (λu2=>?_)
 refine vm1 ?_
 refine b5W ?_
 refine p6 ?_
 refine B1 3 Z Z Z Z Z Z Z ?_
 refine vm3 ?_
 refine d3 4 Z Z Z (ArgsOK.of Z) (Q9 x.qu.wa J) Z Z ?_
 refine zgo ?_
 refine g9 [3,4,16,17] [0,1] (λ(i:Nat)=>[(7,.own 3),(18,.v (.int .i64 (i:Int)))]) (λ(i:Nat)=>[(3,some (.row 76 2 ((ftL x.qu i).map j6)))]) (λ(i:Nat)=>i<=4/\∀t,t < i→(x.qu.sl.getD t default).s≠3) (λ(i:Nat)=>4 - i) 0 Z Z ?_ ?_ ?_ ?_
 ·exact S9
 ·exact c4p
 ·exact ⟨⟨_,Z,by (first | rfl | (simp;done) | (simp;omega))⟩,Z,Z,trivial⟩
 intro i hinv
 have hpl:=@b27 x.qu i
 refine vm2 ?_
 refine zcd (λh1=>?_) (λh1=>?_)
 ·refine vm3 ?_
  refine b76 ?_
  refine zcd (λh2=>?_) (λh2=>?_)
  ·refine zf1 ?_
   all_goals exact c3Q
  refine zcd (λh3=>?_) (λh3=>?_)
  ·refine zcl (E8 _) ?_
   refine p6 ?_
   refine o8 G 6 Z Z Z Z Z Z Z Z ?_
   refine p6 ?_
   refine vm6 ?_
   exact c33
  exact c33
 obtain rfl:i=4:=J
 have hfl:=@b27 x.qu 4
 refine vm3 ?_
 refine b5 Z Z (a9Y Z Z) ?_
 refine zcl (I4 (ftL x.qu 4) 144 rs [.int .i64 (k:Int)] (λw=>!rtW rs k w) J (λj hj=>a5D _ rs k hr8 (c5V hF.qu (Nat.le_refl _) (i6.mpr ⟨j,hj,Z⟩)))) ?_
 refine zf1 ?_
 all_goals exact c3Q
theorem a0q (m:Mach) (hs:SmallM m):Ctr Tryz.prog 50 [.agg [.lst 2 (m.rs.map p8),.lst 1 (m.en.map n7),.lst 1 (m.ra.map n7),.nst none 4 (m.cp.map (r4 104 76))]] (.one (.v (.bool (W0 m)))):=by
 have z0:=hs.rs
 have z1:=hs.en
 have z2:=hs.ra
 have z3:=hs.cp
 refine Ctr.of (n:=44) G Tryz.func50 Z a8 Z Z Z (λw0=>?_)
 refine m7 0 Z (λ_=>Z) (λu0=>?_)
 refine s5 ?_
 refine b1b ?_
 refine zgn ?_
 refine s5 ?_
 refine a33 ?_
 iterate 5 refine zst ?_
 refine p6 ?_
 refine b5 Z Z (i7 Z (ArgsOK.of Z) (a8y m.rs _ J) Z) ?_
 refine a3L ?_
 refine B2 Z Z Z (λh1=>?_) (λh1=>?_)
 ·try rw [h1]
  try simp only [rfb] at h1
  exact c0T
 try rw [h1]
 try simp only [rfb] at h1
 have hr8:=(H4.mp h1).2.1
 have hc2:=(H4.mp h1).1
 iterate 6 refine zst ?_
 refine B2 Z Z Z (λh2=>?_) (λh2=>?_)
 ·try rw [h2]
  try simp only [rfb] at h2
  exact c0T
 try rw [h2]
 try simp only [rfb] at h2
 refine zgn ?_
 refine l4 Z (λh3=>?_) (λh3=>?_)
 ·try rw [h3]
  try simp only [rfb] at h3
  exact c0S
 try rw [h3]
 try simp only [rfb] at h3
 refine zgn ?_
 refine zgn ?_
 refine r9 (g9 [1,25,26] [0] (λ(k:Nat)=>[(27,.v (.int .i64 (k:Int)))]) (λ(k:Nat)=>[]) (λ(k:Nat)=>k<=m.cp.length/\∀j,j < k→a7o m j=true) (λ(k:Nat)=>m.cp.length - k) 0 Z Z ?_ ?_ ?_ ?_)
 ·exact S9
 ·exact B0
 ·exact trivial
 intro k hk
 refine vm2 ?_
 refine zgn ?_
 refine s5 (l4 Z (λh4=>?_) (λh4=>?_))
 ·try rw [h4]
  try simp only [rfb] at h4
  have hsz:=hs.allI (i:=k) J
  have hsz2:szI (m.cp.getD k default)=(m.cp.getD k default).st.length+(m.cp.getD k default).qu.sl.length+(m.cp.getD k default).qu.wa.length:=rfl
  refine zgn ?_
  refine s5 (r9 (s5 ?_))
  refine a3K ?_
  refine vm9 ?_
  refine zst ?_
  refine p6 ?_
  refine a7B 31 Z (λ_=>Z) λv31=>e9 G Z Z Z Z Z Z Z Z Z Z Z ?_
  refine zgn ?_
  refine a33 ?_
  refine zst ?_
  refine p6 ?_
  refine b5 Z Z (i7 Z (ArgsOK.of Z) (a6t (m.cp.getD k default) J J J) Z) ?_
  refine a3L ?_
  refine B2 Z Z Z (λh5=>?_) (λh5=>?_)
  ·try rw [h5]
   try simp only [rfb] at h5
   exact c0T
  try rw [h5]
  try simp only [rfb] at h5
  have hIF:=(b26 h5).1
  iterate 4 refine zst ?_
  refine W8 ?_
  refine b5 Z Z (i7 Z (ArgsOK.of Z) (a7T m.rs k (m.cp.getD k default) hr8 hIF J) Z) ?_
  refine zgn ?_
  refine l4 Z (λh6=>?_) (λh6=>?_)
  ·try rw [h6]
   try simp only [rfb] at h6
   exact c0S
  try rw [h6]
  try simp only [rfb] at h6
  refine zgn ?_
  refine b7 ?_
  refine vm7 ?_
  refine zgn ?_
  exact c4m
 try rw [h4]
 try simp only [rfb] at h4
 refine zgn ?_
 refine a6o ?_
 all_goals exact c6V
theorem a43 (m:Mach) (hs:SmallM m):Ctr Tryz.prog 66 [.agg [.lst 2 (m.rs.map p8),.lst 1 (m.en.map n7),.lst 1 (m.ra.map n7),.nst none 4 (m.cp.map (r4 104 76))]] (.one (.v (.bool (W0 m)))):=by
 have z0:=hs.rs
 have z1:=hs.en
 have z2:=hs.ra
 have z3:=hs.cp
 refine Ctr.of (n:=50) G Tryz.func66 Z a8 Z Z Z (λw0=>?_)
 refine m7 0 Z (λ_=>Z) (λu0=>?_)
 refine vm1 ?_
 refine zcl (a0K m.rs _ J) ?_
 refine zcd (λh1=>?_) (λh1=>?_)
 ·refine zwt ?_
  refine zf1 ?_
  exact b78
 have hr8:=(H4.mp h1).2.1
 have hc2:=(H4.mp h1).1
 refine zcd (λh2=>?_) (λh2=>?_)
 ·refine zwt ?_
  refine zf1 ?_
  exact b78
 refine zcd (λh3=>?_) (λh3=>?_)
 ·refine zf1 ?_
  exact b78
 refine zgo ?_
 refine g9 [1] [0] (λ(k:Nat)=>[(3,.v (.int .i64 (k:Int)))]) (λ(k:Nat)=>[]) (λ(k:Nat)=>k<=m.cp.length/\∀j,j < k→a7o m j=true) (λ(k:Nat)=>m.cp.length - k) 0 Z Z ?_ ?_ ?_ ?_
 ·exact S9
 ·exact B0
 ·exact trivial
 intro k hk
 refine vm2 ?_
 refine zcd (λh4=>?_) (λh4=>?_)
 ·have hsz:=hs.allI (i:=k) J
  have hsz2:szI (m.cp.getD k default)=(m.cp.getD k default).st.length+(m.cp.getD k default).qu.sl.length+(m.cp.getD k default).qu.wa.length:=rfl
  refine zgd ?_
  refine zcl (b0S (m.cp.getD k default) J J J) ?_
  refine zcd (λh5=>?_) (λh5=>?_)
  ·refine zwt ?_
   refine zf1 ?_
   exact b78
  have hIF:=(b26 h5).1
  refine zgo ?_
  refine b1d ?_
  refine l2 Z Z (a0Z G Z Z Z Z) ?_
  refine zcl (a9q m.rs (m.cp.getD k default).qu k hr8 hIF.qu J) ?_
  refine zcd (λh6=>?_) (λh6=>?_)
  ·refine zf1 ?_
   exact b78
  refine zgo ?_
  exact c4m
 refine zf1 ?_
 all_goals exact c6V
theorem b0T (q:Int) (m:Mach) (hq:0<=q/\q.toNat < m.ra.length):Ctr Tryz.prog 114 [.v (.int .i64 q),.eptN [.lst 2 (m.rs.map p8),.lst 1 (m.en.map n7),.lst 1 (m.ra.map n7),.nst none 4 (m.cp.map (r4 104 76))]] (.one (.v (.bool (m.ra.getD q.toNat default)))):=by
 refine Ctr.of (n:=9) G Tryz.func114 Z a8 Z Z Z (λw0=>?_)
 refine vm3 ?_
 refine b3q ?_
 refine p6 ?_
 refine b74 ?_
 exact a8Y
theorem a8A (f:Nat) (m:Mach) (p:Nat→Bool) (hf:∀i:Nat,i < 8→Ctr Tryz.prog f [.v (.int .i64 (i:Int)),.eptN [.lst 2 (m.rs.map p8),.lst 1 (m.en.map n7),.lst 1 (m.ra.map n7),.nst none 4 (m.cp.map (r4 104 76))]] (.one (.v (.bool (p i))))):Ctr Tryz.prog 113 [.fnc f [.eptN [.lst 2 (m.rs.map p8),.lst 1 (m.en.map n7),.lst 1 (m.ra.map n7),.nst none 4 (m.cp.map (r4 104 76))]]] (.one (.fr 3 1 ((whN p 8).map Rf.r5))):=by
 refine Ctr.of (n:=18) G Tryz.func113 Z a8 Z Z Z (λw0=>?_)
 refine b1c ?_
 refine zgo ?_
 refine g9 [0] [] (λ(i:Nat)=>[(3,.own 0),(6,.v (.int .i64 (i:Int)))]) (λ(i:Nat)=>[(0,some (.row 3 1 ((whN p i).map Rf.r5)))]) (λ(i:Nat)=>i<=8) (λ(i:Nat)=>8 - i) 0 Z Z ?_ ?_ ?_ ?_
 ·exact R3
 ·exact Y2
 ·exact a1M
 intro i hinv
 have hwl:=@a7w p i
 refine vm2 ?_
 refine zcd (λh1=>?_) (λh1=>?_)
 ·refine vm3 ?_
  refine b5 Z Z (b2x Z Z (ArgsOK.of Z) Z (hf i J) Z) ?_
  refine zcd (λh2=>?_) (λh2=>?_)
  ·refine vm3 ?_
   refine b4J ?_
   refine p6 ?_
   refine vm6 ?_
   exact c2E
  exact c2E
 obtain rfl:i=8:=J
 refine zfo ?_
 all_goals (rfl)
theorem a9r (x:Ifc) (hF:IfF x):Ctr Tryz.prog 174 [.agg [.v (.int .i64 x.ma),.lst 1 (x.st.map Rf.r5),.lst 3 (x.qu.sl.map g8),.lst 2 (x.qu.wa.map j6)]] (.one (.v (.bool (a25 x)))):=by
 have hsn:=hF.sn
 have hpl:=a22 hF.qu
 refine Ctr.of (n:=14) G Tryz.func174 Z a8 Z Z Z (λw0=>?_)
 refine m7 0 Z (λ_=>Z) (λu0=>?_)
 refine vm1 ?_
 refine zcd (λh1=>?_) (λh1=>?_)
 ·exact c4s
 refine zgo ?_
 refine W8 ?_
 refine d3 2 Z Z Z (ArgsOK.of Z) (U5 x.qu hF.qu) Z Z ?_
 exact c4s
theorem H1 (xs:List Ifc) (f:Nat) (p:Ifc→Bool) (hl:xs.length<=1048576) (hf:∀i,i < xs.length→Ctr Tryz.prog f [.agg [.v (.int .i64 (xs.getD i default).ma),.lst 1 ((xs.getD i default).st.map Rf.r5),.lst 3 ((xs.getD i default).qu.sl.map g8),.lst 2 ((xs.getD i default).qu.wa.map j6)]] (.one (.v (.bool (p (xs.getD i default)))))):Ctr Tryz.prog 227 [.nst none 4 (xs.map (r4 104 76)),.fnc f []] (.one (.v (.int .i64 (P3 (λi=>p (xs.getD i default)) xs.length)))):=by
 refine Ctr.of (n:=19) G Tryz.func227 Z a8 Z Z Z (λw0=>?_)
 exact ws6
theorem F8 (xs:List Ifc) (f:Nat) (p:Ifc→Bool) (hl:xs.length<=1048576) (hf:∀i,i < xs.length→Ctr Tryz.prog f [.agg [.v (.int .i64 (xs.getD i default).ma),.lst 1 ((xs.getD i default).st.map Rf.r5),.lst 3 ((xs.getD i default).qu.sl.map g8),.lst 2 ((xs.getD i default).qu.wa.map j6)]] (.one (.v (.bool (p (xs.getD i default)))))):Ctr Tryz.prog 173 [.nst none 4 (xs.map (r4 104 76)),.fnc f []] (.one (.v (.bool (a0x xs.length (λi=>p (xs.getD i default)))))):=by
 refine Ctr.of (n:=9) G Tryz.func173 Z a8 Z Z Z (λw0=>?_)
 refine zcl (H1 xs f p hl hf) ?_
 refine zf1 ?_
 all_goals (rw [a5d])
theorem b1i (m:Mach) (hs:SmallM m) (hM:W0 m=true):Ctr Tryz.prog 115 [.agg [.lst 2 (m.rs.map p8),.lst 1 (m.en.map n7),.lst 1 (m.ra.map n7),.nst none 4 (m.cp.map (r4 104 76))]] (.many [.v (.bool (a8o m)),.v (.bool true)]):=by
 have hG:=(maF hM).g
 have hra:=hG.ra
 have hen:=hG.en
 have hcp:=hs.cp
 refine Ctr.of (n:=30) G Tryz.func115 Z a8 Z Z Z (λw0=>?_)
 refine m7 0 Z (λ_=>Z) (λu0=>?_)
 refine vm1 ?_
 refine zcl (Ctr.bool (a0q m hs) (hM)) ?_
 refine zwf ?_
 refine zgo ?_
 refine g9 [1,10,11] [0] (λ(i:Nat)=>[(12,.v (.int .i64 (i:Int)))]) (λ(i:Nat)=>[]) (λ(i:Nat)=>i<=8/\∀j,j < i→a87 m j=false) (λ(i:Nat)=>8 - i) 0 Z Z ?_ ?_ ?_ ?_
 ·exact S9
 ·exact B0
 ·exact trivial
 intro i hinv
 refine vm2 ?_
 refine zcd (λh1=>?_) (λh1=>?_)
 ·refine zcd (λh2=>?_) (λh2=>?_)
  ·refine zcd (λh3=>?_) (λh3=>?_)
   ·refine zgo ?_
    refine d8 (s1 Z Z Z Z (b3 (j4 ?_) (b3 (j4 ?_) d9)))
    all_goals exact c3R
   exact c2G
  refine zwf ?_
  exact c2G
 refine zcl (Ctr.argsTo (F8 m.cp 174 a25 J (λi hi=>a9r _ (hG.ok i hi).f)) (λw vs h=>c6f vs h)) ?_
 refine zgo ?_
 refine d8 (s1 Z Z Z Z (b3 (j4 ?_) (b3 (j4 ?_) d9)))
 all_goals exact c3R
theorem b0U (m:Mach) (hs:SmallM m) (hM:W0 m=true):Ctr Tryz.prog 126 [.agg [.lst 2 (m.rs.map p8),.lst 1 (m.en.map n7),.lst 1 (m.ra.map n7),.nst none 4 (m.cp.map (r4 104 76))]] (.one (.v (.bool (a8o m)))):=by
 have hG:=(maF hM).g
 have hra:=hG.ra
 have hen:=hG.en
 have hcp:=hs.cp
 refine Ctr.of (n:=47) G Tryz.func126 Z a8 Z Z Z (λw0=>?_)
 refine m7 0 Z (λ_=>Z) (λu0=>?_)
 refine vm1 ?_
 refine zgo ?_
 refine g9 [1] [0] (λ(i:Nat)=>[(3,.v (.int .i64 (i:Int)))]) (λ(i:Nat)=>[]) (λ(i:Nat)=>i<=8/\∀j,j < i→a87 m j=false) (λ(i:Nat)=>8 - i) 0 Z Z ?_ ?_ ?_ ?_
 ·exact S9
 ·exact B0
 ·exact trivial
 intro i hinv
 refine vm2 ?_
 refine zcd (λh1=>?_) (λh1=>?_)
 ·refine zcd (λh2=>?_) (λh2=>?_)
  ·refine zcd (λh3=>?_) (λh3=>?_)
   ·exact c7j
   exact c2G
  refine zwf ?_
  exact c2G
 refine zgo ?_
 refine g9 [1] [0] (λ(k:Nat)=>[(4,.v (.int .i64 (k:Int)))]) (λ(k:Nat)=>[]) (λ(k:Nat)=>k<=m.cp.length/\∀j,j < k→a25 (m.cp.getD j default)=false) (λ(k:Nat)=>m.cp.length - k) 0 Z Z ?_ ?_ ?_ ?_
 ·exact S9
 ·exact B0
 ·exact trivial
 intro k hk
 refine vm2 ?_
 refine zcd (λh4=>?_) (λh4=>?_)
 ·have hI:=(hG.ok k J).f
  have hsn:=hI.sn
  have hpl:=a22 hI.qu
  refine vm3 ?_
  refine b3q ?_
  refine p6 ?_
  refine b74 ?_
  refine zcd (λh5=>?_) (λh5=>?_)
  ·refine zwt ?_
   exact c7j
  refine zgo ?_
  refine W8 ?_
  refine b3q ?_
  refine zgo ?_
  refine W8 ?_
  refine d3 2 Z Z Z (ArgsOK.of Z) (a0p (m.cp.getD k default).qu hI.qu) Z Z ?_
  refine zcd (λh6=>?_) (λh6=>?_)
  ·exact c7j
  refine zgo ?_
  refine ⟨(k+1),?_,?_,⟨⟨_,Z,by rfl⟩,Z,trivial⟩,trivial,Z,Z,Z⟩
  ·exact ⟨by omega,s2 hk.2 (c1Y J J)⟩
  omega
 refine zf1 ?_
 all_goals exact c3x
theorem a9s (s:ByteArray) (hs:s.size<=9223372036854775807):Ctr Tryz.prog 74 [.v (.string s)] (.many [.v (.int .i64 (nmN s)),.v (.bool (nmK s))]):=by
 refine Ctr.of (n:=28) G Tryz.func74 Z Y Z Z Z (λw0=>?_)
 refine c6 (λK1 hK1=>?_)
 refine b7 (a7 Z (b5 Z Z (b9 Z Z) (a7 Z (b5 Z Z (b9 Z Z) (b4 (hK1 _ ?_))))))
 clear hK1 K1
 refine c6 (λK2 hK2=>?_)
 refine c6 (λK3 hK3=>?_)
 refine b7 (a7 Z (b5 Z Z (b8 Z Z) (a7 Z (b5 Z Z (q9 G Z Z Z) (a7 Z (b5 Z Z (w4 Z Z Z Z) (b4 (hK3 _ ?_))))))))
 clear hK3 K3
 refine l4 Z (λh1=>?_) (λh1=>?_)
 ·try rw [h1]
  try simp only [rfb] at h1
  refine c6 (λK4 hK4=>?_)
  refine b7 (a7 Z (b5 Z Z (b9 Z Z) (a7 Z (b5 Z Z (b9 Z Z) (b4 (hK4 _ ?_))))))
  clear hK4 K4
  refine d8 (s1 Z Z Z Z (b3 (j4 ?_) (b3 (j4 ?_) d9)))
  all_goals clear hK2 K2
  all_goals (first | (rw [(a2M (s:=s) J).1];done) | (rw [(a2M (s:=s) J).2];done) | (rw [(a5j (s:=s) J (hc1.symm.trans h2)).1];done) | (rw [(a5j (s:=s) J (hc1.symm.trans h2)).2];done) | (rw [(a8e (s:=s) J h3).1];done) | (rw [(a8e (s:=s) J h3).2];done) | (rw [(b1F (s:=s) J (hc1.symm.trans h2) h4).1];done) | (rw [(b1F (s:=s) J (hc1.symm.trans h2) h4).2];done) | (rw [(a8f (s:=s) J (hc1.symm.trans h2) h3 h4).1];done) | (rw [(a8f (s:=s) J (hc1.symm.trans h2) h3 h4).2];done))
 ·try rw [h1]
  try simp only [rfb] at h1
  have hbd:=c1c (s:=s) J
  refine r8 (hK2 _ ?_)
  clear hK2 K2
  refine c6 (λK5 hK5=>?_)
  refine b7 (a7 Z (b5 Z Z (b8 Z Z) (a7 Z ?_)))
  refine d1 0 [] Z Z Z (b0M s J) Z RowsIn.nil Z (λ_=>Z) Z (λx1 ⟨hv1,hc1⟩=>?_)
  refine a7 Z (b5 Z Z (b8 Z Z) (a7 Z (b5 Z Z (f9 Z Z Z) (a7 Z (b5 Z Z (f9 Z Z Z) (a7 Z (b5 Z Z (b9 Z Z) (a7 Z (b5 Z Z (b9 Z Z) (b4 (hK5 _ ?_)))))))))))
  clear hK5 K5
  refine c6 (λK6 hK6=>?_)
  refine c6 (λK7 hK7=>?_)
  refine b7 (a7 Z (b5 Z Z (b8 Z Z) (a7 Z (b5 Z Z (c9R Y Z Z hv1) ?_))))
  refine a7 Z (b5 Z Z (b8 Z Z) (B2 Z Z Z (λh2=>?_) (λh2=>?_)))
  ·try rw [h2]
   try simp only [rfb] at h2
   refine l9 Z Z Z Z Z Z (l9 Z Z Z Z Z Z (l9 Z Z Z Z Z Z (a7 Z (b5 Z Z (u9 Z Z Z) (a7 Z (b5 Z Z (b8 Z Z) (l9 Z Z Z Z Z Z (l9 Z Z Z Z Z Z (l9 Z Z Z Z Z Z (l9 Z Z Z Z Z Z (a7 Z (b5 Z Z (u9 Z Z Z) (b4 (hK7 _ ?_))))))))))))))
   clear hK7 K7
   refine N1 Z ?_
   refine c6 (λK8 hK8=>?_)
   refine b7 (a7 Z (b5 Z Z (b9 Z Z) (a7 Z (b5 Z Z (b9 Z Z) (b4 (hK8 _ ?_))))))
   clear hK8 K8
   exact c7c
  ·try rw [h2]
   try simp only [rfb] at h2
   refine l7 Z Z Z (b5 Z Z (b8 Z Z) (l7 Z Z Z (b5 Z Z (i7 Z (ArgsOK.of Z) (I2 _ _ _) Z) ?_)))
   refine l7 Z Z Z (b5 Z Z (a4c Z Z) (a7 Z (b5 Z Z (B4 Z Z Z) (a7 Z (b5 Z Z (b8 Z Z) (B2 Z Z Z (λh3=>?_) (λh3=>?_)))))))
   ·try rw [h3]
    try simp only [rfb] at h3
    refine l9 Z Z Z Z Z Z (l9 Z Z Z Z Z Z (l9 Z Z Z Z Z Z (l9 Z Z Z Z Z Z (a7 Z (b5 Z Z (u9 Z Z Z) (b4 (hK7 _ ?_)))))))
    clear hK7 K7
    refine N1 Z ?_
    refine c6 (λK9 hK9=>?_)
    refine b7 (a7 Z (b5 Z Z (b9 Z Z) (a7 Z (b5 Z Z (b9 Z Z) (b4 (hK9 _ ?_))))))
    clear hK9 K9
    exact c7c
   ·try rw [h3]
    try simp only [rfb] at h3
    refine l7 Z Z Z (b5 Z Z (b8 Z Z) (l7 Z Z Z (b5 Z Z (i7 Z (ArgsOK.of Z) (D0 _ J J) Z) (l7 Z Z Z (b5 Z Z (b8 Z Z) (l7 Z Z Z (b5 Z Z (w5 Z Z Z Z) (a7 Z (b5 Z Z (B4 Z Z Z) (b4 (hK7 _ ?_)))))))))))
    clear hK7 K7
    refine l4 Z (λh4=>?_) (λh4=>?_)
    ·try rw [h4]
     try simp only [rfb] at h4
     refine c6 (λK10 hK10=>?_)
     refine b7 (a7 Z (b5 Z Z (b9 Z Z) (a7 Z (b5 Z Z (b9 Z Z) (b4 (hK10 _ ?_))))))
     clear hK10 K10
     exact c7c
    ·try rw [h4]
     try simp only [rfb] at h4
     refine r8 (hK6 _ ?_)
     clear hK6 K6
     refine c6 (λK11 hK11=>?_)
     refine b7 (a7 Z (b5 Z Z (b8 Z Z) (a7 Z (b5 Z Z (b9 Z Z) (a7 Z (b5 Z Z (b9 Z Z) (b4 (hK11 _ ?_))))))))
     clear hK11 K11
     refine d8 (s1 Z Z Z Z (b3 (j4 ?_) (b3 (j4 ?_) d9)))
     all_goals (first | (rw [(a2M (s:=s) J).1];done) | (rw [(a2M (s:=s) J).2];done) | (rw [(a5j (s:=s) J (hc1.symm.trans h2)).1];done) | (rw [(a5j (s:=s) J (hc1.symm.trans h2)).2];done) | (rw [(a8e (s:=s) J h3).1];done) | (rw [(a8e (s:=s) J h3).2];done) | (rw [(b1F (s:=s) J (hc1.symm.trans h2) h4).1];done) | (rw [(b1F (s:=s) J (hc1.symm.trans h2) h4).2];done) | (rw [(a8f (s:=s) J (hc1.symm.trans h2) h3 h4).1];done) | (rw [(a8f (s:=s) J (hc1.symm.trans h2) h3 h4).2];done))
theorem b1j (s:ByteArray) (hs:s.size<=9223372036854775807):Ctr Tryz.prog 125 [.v (.string s)] (.many [.v (.int .i64 (nmN s)),.v (.bool (nmK s))]):=by
 have hb0:s4 s 0=((s.data.toList.getD ((0:Int)).toNat 0).toNat:Int):=rfl
 refine Ctr.of (n:=58) G Tryz.func125 Z Y Z Z Z (λw0=>?_)
 refine c6 (λK1 hK1=>?_)
 refine b7 (a7 Z (b5 Z Z (b9 Z Z) (a7 Z (b5 Z Z (b9 Z Z) (b4 (hK1 _ ?_))))))
 clear hK1 K1
 refine c6 (λK2 hK2=>?_)
 refine b7 (a7 Z (b5 Z Z (b8 Z Z) (a7 Z (b5 Z Z (b9 Z Z) (b4 (hK2 _ ?_))))))
 clear hK2 K2
 refine c05 (nt:=58) (λ(a:ByteArray)=>[(4,.v (.string a)),(0,.v (.string s))]) (λ(a:ByteArray)=>[]) (λa=>a=p5 s) 30 [0,4] [] ?_ (λa ha=>?_)
 ·skip
  refine c6 (λK4 hK4=>?_)
  refine b7 (a7 Z (b5 Z Z (b8 Z Z) (a7 Z (b5 Z Z (q9 G Z Z Z) (a7 Z (b5 Z Z (w4 Z Z Z Z) (a7 Z (b5 Z Z (b8 Z Z) (B2 Z Z Z (λh1=>?_) (λh1=>?_))))))))))
  ·try rw [h1]
   try simp only [rfb] at h1
   refine l7 Z Z Z (b5 Z Z (b8 Z Z) (l7 Z Z Z (b5 Z Z (U8 G Z Z Z Z J J) (l7 Z Z Z (b5 Z Z (w4 Z Z Z Z) (a7 Z (b5 Z Z (u9 Z Z Z) (b4 (hK4 _ ?_)))))))))
   clear hK4 K4
   refine l4 Z (λh2=>?_) (λh2=>?_)
   ·try rw [h2]
    try simp only [rfb] at h2
    refine b7 (a7 Z (b5 Z Z (b8 Z Z) (a7 Z (b5 Z Z (z6 G Z Z Z Z Z J J J) (a7 Z (b5 Z Z (b9 Z Z) ?_))))))
    exact b4 ⟨(s.extract ((1:Int)).toNat ((s.size:Int)).toNat),c7Q J (by first | assumption | omega),Z,Z,Z,Z⟩
   ·try rw [h2]
    try simp only [rfb] at h2
    exact r8 ⟨s,c2W J,Z,Z,Z,Z⟩
  ·try rw [h1]
   try simp only [rfb] at h1
   refine l9 Z Z Z Z Z Z (l9 Z Z Z Z Z Z (l9 Z Z Z Z Z Z (a7 Z (b5 Z Z (B4 Z Z Z) (b4 (hK4 _ ?_))))))
   clear hK4 K4
   refine a0Y Z ?_
   exact r8 ⟨s,c2W J,Z,Z,Z,Z⟩
 ·skip
  subst ha
  have hbl:=c5t (s:=s)
  refine c6 (λK5 hK5=>?_)
  refine c6 (λK6 hK6=>?_)
  refine b7 (a7 Z (b5 Z Z (b8 Z Z) (a7 Z (b5 Z Z (q9 G Z Z Z) (a7 Z (b5 Z Z (i7 Z (ArgsOK.of Z) (a0J _ _ _) Z) (a7 Z (b5 Z Z (a4c Z Z) (b4 (hK6 _ ?_))))))))))
  clear hK6 K6
  refine l4 Z (λh3=>?_) (λh3=>?_)
  ·try rw [h3]
   try simp only [rfb] at h3
   refine c6 (λK7 hK7=>?_)
   refine b7 (a7 Z (b5 Z Z (b9 Z Z) (a7 Z (b5 Z Z (b9 Z Z) (b4 (hK7 _ ?_))))))
   clear hK7 K7
   refine d8 (s1 Z Z Z Z (b3 (j4 ?_) (b3 (j4 ?_) d9)))
   all_goals clear hK5 K5
   all_goals (first | (rw [(b05 (s:=s) h3).1];done) | (rw [(b05 (s:=s) h3).2];done) | (rw [(b06 (s:=s) (i:=i) J (by simp only [a1m,Bool.and_eq_false_iff,decide_eq_false_iff_not];omega)).1];done) | (rw [(b06 (s:=s) (i:=i) J (by simp only [a1m,Bool.and_eq_false_iff,decide_eq_false_iff_not];omega)).2];done) | (rw [(a2P (s:=s) (n:=-dV (p5 s) i) (by have e:i=(p5 s).size:=J;rw [a2N J,e]) (by assumption)).1];done) | (rw [(a2P (s:=s) (n:=-dV (p5 s) i) (by have e:i=(p5 s).size:=J;rw [a2N J,e]) (by assumption)).2];done) | (rw [(a2P (s:=s) (n:=dV (p5 s) i) (by have e:i=(p5 s).size:=J;rw [a2O J,e]) (by assumption)).1];done) | (rw [(a2P (s:=s) (n:=dV (p5 s) i) (by have e:i=(p5 s).size:=J;rw [a2O J,e]) (by assumption)).2];done) | (rw [(a2Q (s:=s) (n:=-dV (p5 s) i) (i:=i) h3 J hinv.2 (by have e:i=(p5 s).size:=J;rw [a2N J,e]) (by assumption)).1];done) | (rw [(a2Q (s:=s) (n:=-dV (p5 s) i) (i:=i) h3 J hinv.2 (by have e:i=(p5 s).size:=J;rw [a2N J,e]) (by assumption)).2];done) | (rw [(a2Q (s:=s) (n:=dV (p5 s) i) (i:=i) h3 J hinv.2 (by have e:i=(p5 s).size:=J;rw [a2O J,e]) (by assumption)).1];done) | (rw [(a2Q (s:=s) (n:=dV (p5 s) i) (i:=i) h3 J hinv.2 (by have e:i=(p5 s).size:=J;rw [a2O J,e]) (by assumption)).2];done))
  ·try rw [h3]
   try simp only [rfb] at h3
   have hin:=v7.mp h3
   refine r8 (hK5 _ ?_)
   clear hK5 K5
   refine c6 (λK8 hK8=>?_)
   refine b7 (a7 Z (b5 Z Z (b9 Z Z) (b4 (hK8 _ ?_))))
   clear hK8 K8
   refine c6 (λK9 hK9=>?_)
   refine c6 (λK10 hK10=>?_)
   refine b7 (a7 Z (b5 Z Z (b9 Z Z) (b4 (hK10 _ ?_))))
   clear hK10 K10
   refine r9 ?_
   refine g9 [0,4] [] (λ(i:Nat)=>[(5,.v (.int .i64 (dV (p5 s) i))),(6,.v (.int .i64 (i:Int)))]) (λ(i:Nat)=>[]) (λ(i:Nat)=>i<=(p5 s).size/\∀j,j < i→a1m (p5 s) j=true) (λ(i:Nat)=>(p5 s).size - i) 0 Z Z ?_ ?_ ?_ ?_
   ·exact S9
   ·exact Y2
   ·exact trivial
   ·intro i hinv
    have hi:i<=(p5 s).size:=hinv.1
    have hdl:=c2T hinv.2
    have hbi:s4 (p5 s) i=(((p5 s).data.toList.getD ((i:Int)).toNat 0).toNat:Int):=rfl
    simp only [List.cons_append,List.nil_append]
    refine c6 (λK11 hK11=>?_)
    refine c6 (λK12 hK12=>?_)
    refine b7 (a7 Z (b5 Z Z (b8 Z Z) (a7 Z (b5 Z Z (b8 Z Z) (a7 Z (b5 Z Z (q9 G Z Z Z) (a7 Z (b5 Z Z (w4 Z Z Z Z) (b4 (hK12 _ ?_))))))))))
    clear hK12 K12
    refine l4 Z (λh4=>?_) (λh4=>?_)
    ·try rw [h4]
     try simp only [rfb] at h4
     refine r8 (hK11 _ ?_)
     clear hK11 K11
     refine c6 (λK13 hK13=>?_)
     refine r9 ?_
     refine c6 (λK14 hK14=>?_)
     refine c6 (λK15 hK15=>?_)
     refine b7 (a7 Z (b5 Z Z (b8 Z Z) (a7 Z (b5 Z Z (b8 Z Z) (a7 Z (b5 Z Z (U8 G Z Z Z Z J J) ?_))))))
     refine a7 Z (b5 Z Z (w4 Z Z Z Z) (a7 Z (b5 Z Z (b8 Z Z) (B2 Z Z Z (λh5=>?_) (λh5=>?_)))))
     ·try rw [h5]
      try simp only [rfb] at h5
      refine l9 Z Z Z Z Z Z (l9 Z Z Z Z Z Z (l9 Z Z Z Z Z Z (l9 Z Z Z Z Z Z (a7 Z (b5 Z Z (u9 Z Z Z) (b4 (hK15 _ ?_)))))))
      clear hK15 K15
      refine N1 Z ?_
      refine c6 (λK16 hK16=>?_)
      refine b7 (a7 Z (b5 Z Z (b9 Z Z) (a7 Z (b5 Z Z (b9 Z Z) (b4 (hK16 _ ?_))))))
      clear hK16 K16
      exact c9j
     ·try rw [h5]
      try simp only [rfb] at h5
      refine l7 Z Z Z (b5 Z Z (b8 Z Z) (l7 Z Z Z (b5 Z Z (b8 Z Z) (l7 Z Z Z (b5 Z Z (U8 G Z Z Z Z J J) (l7 Z Z Z (b5 Z Z (w4 Z Z Z Z) (a7 Z (b5 Z Z (B4 Z Z Z) (b4 (hK15 _ ?_)))))))))))
      clear hK15 K15
      refine l4 Z (λh6=>?_) (λh6=>?_)
      ·try rw [h6]
       try simp only [rfb] at h6
       refine c6 (λK17 hK17=>?_)
       refine b7 (a7 Z (b5 Z Z (b9 Z Z) (a7 Z (b5 Z Z (b9 Z Z) (b4 (hK17 _ ?_))))))
       clear hK17 K17
       exact c9j
      ·try rw [h6]
       try simp only [rfb] at h6
       refine r8 (hK14 _ ?_)
       clear hK14 K14
       refine b7 (a7 Z (b5 Z Z (b8 Z Z) (a7 Z ?_)))
       first | refine b5 Z Z (r3 Z Z Z Z J J) ?_ | refine b5 Z Z (t7 Z Z Z Z) ?_
       refine a7 Z (b5 Z Z (b8 Z Z) (a7 Z (b5 Z Z (b8 Z Z) (a7 Z (b5 Z Z (U8 G Z Z Z Z J J) (a7 Z ?_))))))
       first | refine b5 Z Z (r3 Z Z Z Z J J) ?_ | refine b5 Z Z (t7 Z Z Z Z) ?_
       refine a7 Z ?_
       first | refine b5 Z Z (a8a G Z Z Z Z J J) ?_ | refine b5 Z Z (a2g G Z Z Z Z) ?_
       refine a7 Z ?_
       first | refine b5 Z Z (r3 Z Z Z Z J J) ?_ | refine b5 Z Z (t7 Z Z Z Z) ?_
       refine a7 Z (b5 Z Z (b9 Z Z) (b4 (hK13 _ ?_)))
       clear hK13 K13
       refine b7 (a7 Z (b5 Z Z (b8 Z Z) (a7 Z ?_)))
       first | refine b5 Z Z (r3 Z Z Z Z J J) ?_ | refine b5 Z Z (t7 Z Z Z Z) ?_
       refine a7 Z (b5 Z Z (b9 Z Z) ?_)
       refine b4 ⟨(i+1),?_,?_,⟨⟨_,Z,by (first | rfl | exact congrArg (λv=>AV.v (.int .i64 v)) (b6c (t:=p5 s) (i:=i) J J J J))⟩,Z,⟨⟨_,Z,by (first | rfl | exact congrArg (λv=>AV.v (.int .i64 v)) (b6c (t:=p5 s) (i:=i) J J J J))⟩,Z,trivial⟩⟩,trivial,Z,Z,Z⟩
       ·exact ⟨by omega,s2 hinv.2 (by simp only [a1m,Bool.and_eq_true,decide_eq_true_eq];omega)⟩
       ·omega
    ·try rw [h4]
     try simp only [rfb] at h4
     refine R5 (hK9 _ ?_)
     clear hK11 K11 hK9 K9
     refine c6 (λK18 hK18=>?_)
     refine c6 (λK19 hK19=>?_)
     refine b7 (a7 Z (b5 Z Z (b8 Z Z) (a7 Z (b5 Z Z (q9 G Z Z Z) (a7 Z (b5 Z Z (b8 Z Z) (a7 Z (b5 Z Z (q9 G Z Z Z) (a7 Z (b5 Z Z (w4 Z Z Z Z) (b4 (hK19 _ ?_))))))))))))
     clear hK19 K19
     refine l4 Z (λh7=>?_) (λh7=>?_)
     ·try rw [h7]
      try simp only [rfb] at h7
      refine b7 (a7 Z (b5 Z Z (b8 Z Z) (a7 Z (b5 Z Z (c2O Z Z J J) (a7 Z (b5 Z Z (b9 Z Z) (b4 (hK18 _ ?_))))))))
      clear hK18 K18
      refine c6 (λK20 hK20=>?_)
      refine c6 (λK21 hK21=>?_)
      refine b7 (a7 Z (b5 Z Z (b8 Z Z) (a7 Z (b5 Z Z (i7 Z (ArgsOK.of Z) (y8 _ J J) Z) (a7 Z (b5 Z Z (b8 Z Z) (a7 Z (b5 Z Z (w5 Z Z Z Z) (b4 (hK21 _ ?_))))))))))
      clear hK21 K21
      refine l4 Z (λh8=>?_) (λh8=>?_)
      ·try rw [h8]
       try simp only [rfb] at h8
       refine c6 (λK22 hK22=>?_)
       refine b7 (a7 Z (b5 Z Z (b9 Z Z) (a7 Z (b5 Z Z (b9 Z Z) (b4 (hK22 _ ?_))))))
       clear hK22 K22
       refine d8 (s1 Z Z Z Z (b3 (j4 ?_) (b3 (j4 ?_) d9)))
       all_goals clear hK20 K20
       all_goals (first | (rw [(b05 (s:=s) h3).1];done) | (rw [(b05 (s:=s) h3).2];done) | (rw [(b06 (s:=s) (i:=i) J (by simp only [a1m,Bool.and_eq_false_iff,decide_eq_false_iff_not];omega)).1];done) | (rw [(b06 (s:=s) (i:=i) J (by simp only [a1m,Bool.and_eq_false_iff,decide_eq_false_iff_not];omega)).2];done) | (rw [(a2P (s:=s) (n:=-dV (p5 s) i) (by have e:i=(p5 s).size:=J;rw [a2N J,e]) (by assumption)).1];done) | (rw [(a2P (s:=s) (n:=-dV (p5 s) i) (by have e:i=(p5 s).size:=J;rw [a2N J,e]) (by assumption)).2];done) | (rw [(a2P (s:=s) (n:=dV (p5 s) i) (by have e:i=(p5 s).size:=J;rw [a2O J,e]) (by assumption)).1];done) | (rw [(a2P (s:=s) (n:=dV (p5 s) i) (by have e:i=(p5 s).size:=J;rw [a2O J,e]) (by assumption)).2];done) | (rw [(a2Q (s:=s) (n:=-dV (p5 s) i) (i:=i) h3 J hinv.2 (by have e:i=(p5 s).size:=J;rw [a2N J,e]) (by assumption)).1];done) | (rw [(a2Q (s:=s) (n:=-dV (p5 s) i) (i:=i) h3 J hinv.2 (by have e:i=(p5 s).size:=J;rw [a2N J,e]) (by assumption)).2];done) | (rw [(a2Q (s:=s) (n:=dV (p5 s) i) (i:=i) h3 J hinv.2 (by have e:i=(p5 s).size:=J;rw [a2O J,e]) (by assumption)).1];done) | (rw [(a2Q (s:=s) (n:=dV (p5 s) i) (i:=i) h3 J hinv.2 (by have e:i=(p5 s).size:=J;rw [a2O J,e]) (by assumption)).2];done))
      ·try rw [h8]
       try simp only [rfb] at h8
       refine r8 (hK20 _ ?_)
       clear hK20 K20
       refine c6 (λK23 hK23=>?_)
       refine b7 (a7 Z (b5 Z Z (b8 Z Z) (a7 Z (b5 Z Z (b9 Z Z) (a7 Z (b5 Z Z (b9 Z Z) (b4 (hK23 _ ?_))))))))
       clear hK23 K23
       exact c9k
     ·try rw [h7]
      try simp only [rfb] at h7
      refine r8 (hK18 _ ?_)
      clear hK18 K18
      refine c6 (λK24 hK24=>?_)
      refine c6 (λK25 hK25=>?_)
      refine b7 (a7 Z (b5 Z Z (b8 Z Z) (a7 Z (b5 Z Z (i7 Z (ArgsOK.of Z) (y8 _ J J) Z) (a7 Z (b5 Z Z (b8 Z Z) (a7 Z (b5 Z Z (w5 Z Z Z Z) (b4 (hK25 _ ?_))))))))))
      clear hK25 K25
      refine l4 Z (λh9=>?_) (λh9=>?_)
      ·try rw [h9]
       try simp only [rfb] at h9
       refine c6 (λK26 hK26=>?_)
       refine b7 (a7 Z (b5 Z Z (b9 Z Z) (a7 Z (b5 Z Z (b9 Z Z) (b4 (hK26 _ ?_))))))
       clear hK26 K26
       refine d8 (s1 Z Z Z Z (b3 (j4 ?_) (b3 (j4 ?_) d9)))
       all_goals clear hK24 K24
       all_goals (first | (rw [(b05 (s:=s) h3).1];done) | (rw [(b05 (s:=s) h3).2];done) | (rw [(b06 (s:=s) (i:=i) J (by simp only [a1m,Bool.and_eq_false_iff,decide_eq_false_iff_not];omega)).1];done) | (rw [(b06 (s:=s) (i:=i) J (by simp only [a1m,Bool.and_eq_false_iff,decide_eq_false_iff_not];omega)).2];done) | (rw [(a2P (s:=s) (n:=-dV (p5 s) i) (by have e:i=(p5 s).size:=J;rw [a2N J,e]) (by assumption)).1];done) | (rw [(a2P (s:=s) (n:=-dV (p5 s) i) (by have e:i=(p5 s).size:=J;rw [a2N J,e]) (by assumption)).2];done) | (rw [(a2P (s:=s) (n:=dV (p5 s) i) (by have e:i=(p5 s).size:=J;rw [a2O J,e]) (by assumption)).1];done) | (rw [(a2P (s:=s) (n:=dV (p5 s) i) (by have e:i=(p5 s).size:=J;rw [a2O J,e]) (by assumption)).2];done) | (rw [(a2Q (s:=s) (n:=-dV (p5 s) i) (i:=i) h3 J hinv.2 (by have e:i=(p5 s).size:=J;rw [a2N J,e]) (by assumption)).1];done) | (rw [(a2Q (s:=s) (n:=-dV (p5 s) i) (i:=i) h3 J hinv.2 (by have e:i=(p5 s).size:=J;rw [a2N J,e]) (by assumption)).2];done) | (rw [(a2Q (s:=s) (n:=dV (p5 s) i) (i:=i) h3 J hinv.2 (by have e:i=(p5 s).size:=J;rw [a2O J,e]) (by assumption)).1];done) | (rw [(a2Q (s:=s) (n:=dV (p5 s) i) (i:=i) h3 J hinv.2 (by have e:i=(p5 s).size:=J;rw [a2O J,e]) (by assumption)).2];done))
      ·try rw [h9]
       try simp only [rfb] at h9
       refine r8 (hK24 _ ?_)
       clear hK24 K24
       refine c6 (λK27 hK27=>?_)
       refine b7 (a7 Z (b5 Z Z (b8 Z Z) (a7 Z (b5 Z Z (b9 Z Z) (a7 Z (b5 Z Z (b9 Z Z) (b4 (hK27 _ ?_))))))))
       clear hK27 K27
       exact c9k
end Go.Proofs.YtdhckhjphmjniaaGreatDoor
