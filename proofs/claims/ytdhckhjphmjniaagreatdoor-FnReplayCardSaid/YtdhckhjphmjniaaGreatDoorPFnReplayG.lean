/- Texts merged into one: M12, M13, M15, M16, M17, Q4, P1, P2. -/
import Derived.Test.YtdhckhjphmjniaaGreatDoorPFnReplayF
set_option maxHeartbeats 4000000
set_option linter.unusedSimpArgs false
set_option linter.unusedVariables false
set_option maxRecDepth 20000
namespace Go.Proofs.YtdhckhjphmjniaaGreatDoor
open Go Go.Rf
theorem a5T (n:Nat) (hn:n<=12):CtrE (α:=Int) Tryz.prog 216 [.v (.int .u64 (n:Int))] (λy=>(.one (.v (.int .i64 y)))):=by
 refine CtrE.of (n:=25) G Tryz.func216 Z a8 Z Z Z (λw0=>?_)
 refine zcd (λh1=>?_) (λh1=>?_)
 ·exfalso;omega
 refine zcd (λh2=>?_) (λh2=>?_)
 ·exfalso;omega
 refine zcd (λh3=>?_) (λh3=>?_)
 ·exfalso;omega
 refine vm3 ?_
 refine c8d ?_
 refine r6 ?_
 refine b5 Z Z (Q9 G Z Z Z Z J (Int.lt_of_le_of_lt (show (n:Int)<=12 by omega) (by decide))) ?_
 refine r6 ?_
 refine c8d ?_
 refine vm7 ?_
 refine zgo ?_
 refine d7 (c6A (_) (P3 Z (i8 Z)))
 all_goals (rfl)
theorem a8j (n:Nat) (hn:n<=12):CtrE (α:=Int) Tryz.prog 193 [.v (.int .u64 (n:Int))] (λy=>(.one (.v (.int .i64 y)))):=by
 refine CtrE.of (n:=8) G Tryz.func193 Z a8 Z Z Z (λw0=>?_)
 refine zwf ?_
 refine zgo ?_
 refine a7 Z (b0O 0 Z Z Z (ArgsOK.of Z) (a5T n hn) (λ_=>Z) Z (λy1=>?_))
 refine zgo ?_
 refine d7 (c6A (_) (P3 Z (i8 Z)))
 all_goals (rfl)
theorem N8 (d:List Wtr) (hd:b41 d) (hn:d.length<=12):CtrM Tryz.prog 269 [.own 0,.v (.int .i64 0),.v (.int .i64 (d.length:Int)),.v (.func (.func 176) #[] #[])] [.row 76 2 (d.map j8)] (.many []) [some (.row 76 2 ((srtW d).map j8))]:=by
 refine CtrM.of (n:=53) (k:=1) G Tryz.func269 Z a8 Z Z Z Z Z Z Z (λw0 _ hpin=>?_)
 refine t8 (O6 (Gh.fnc (t:=3) Z) ?_)
 refine zgo ?_
 refine i6 [0,1,2,3] [] (λ(i:Nat)=>[(8,.v (.int .i64 (i:Int)))]) (λ(i:Nat)=>[(0,some (.row 76 2 ((a9y d i).map j8)))]) (λ(i:Nat)=>1<=i/\(i<=d.length∨i=1)) (λ(i:Nat)=>d.length - i) 1 Z Z ?_ ?_ ?_ ?_
 ·exact ⟨Nat.le_refl _,.inr Z⟩
 ·exact a6F
 ·exact ⟨⟨_,Z,by (rw [c6M])⟩,Z,Z,trivial⟩
 intro i hi
 refine vm2 ?_
 refine zcd (λh1=>?_) (λh1=>?_)
 ·have hM:=d07 hd (i:=i) J
  have hPl:=hM.len
  have hRl:(d.drop (i+1)).length=d.length - (i+1):=List.length_drop
  refine zgo ?_
  refine i6 [0,1,2,3,8] [] (λ(j:Nat)=>[(9,.v (.int .i64 (j:Int)))]) (λ(j:Nat)=>[(0,some (.row 76 2 ((a3Y (srtW (d.take i)) (d.getD i default) (d.drop (i+1)) j).map j8)))]) (λ(j:Nat)=>j<=i/\∀t,j<=t→t < i→lessW (d.getD i default) ((srtW (d.take i)).getD t default)=true) (λ(j:Nat)=>j) i Z Z ?_ ?_ ?_ ?_
  ·exact ⟨Nat.le_refl _,λt h1 h2=>by omega⟩
  ·exact a6F
  ·exact ⟨⟨_,Z,by (rw [b97 J])⟩,Z,Z,trivial⟩
  intro j hj
  have htn:0 < j→((j:Int) - 1).toNat=j - 1:=λ_=>J
  refine vm2 ?_
  refine zgd ?_
  refine zcd (λh2=>?_) (λh2=>?_)
  ·refine c91 ?_
   refine c91 ?_
   refine b1M ?_
   refine l8 Z Z (b25 Z Z (ArgsOK.of Z) Z (C5 _ _) Z) ?_
   refine zcd (λh3=>?_) (λh3=>?_)
   ·refine zgo ?_
    apply C4 [0,1,2,3,8,9] [0] 1 18 [] mixed a8 Z Z (λ_ h=>znk h)
    ·intro r0
     refine a1q ?_
     first | refine c8 4 Z a8 a8 Z Z Z Z (q9 Z Z Z Z J J) ?_ | refine c8 4 Z a8 a8 Z Z Z Z (s6 Z Z Z Z) ?_
     refine zsa 5 ?_
     refine zsa 6 ?_
     first | refine c8 7 Z a8 a8 Z Z Z Z (q9 Z Z Z Z J J) ?_ | refine c8 7 Z a8 a8 Z Z Z Z (s6 Z Z Z Z) ?_
     refine zsa 10 ?_
     refine zsa 11 ?_
     refine b7 (rs:=[8,12]) a8 Z (AllB.cons ?_ (AllB.cons ?_ AllB.nil))
     ·first | refine e9 [] Z Z (b5 Z Z (d1 G Z Z Z Z Z J a9q) (b4 ⟨Z,?_⟩)) | refine e9 [] Z Z (b5 Z Z (d1 G Z Z Z Z Z J a9p) (b4 ⟨Z,?_⟩)) | refine e9 [] Z Z (b5 Z Z (d1 G Z Z Z Z Z J a9o) (b4 ⟨Z,?_⟩))
      refine b7 (rs:=[9,12]) a8 Z (AllB.cons ?_ (AllB.cons ?_ AllB.nil))
      ·first | refine e9 [] Z Z (b5 Z Z (f8 G Z Z Z Z (a0T J) Z) (b4 ⟨Z,?_⟩)) | refine e9 [] Z Z (b5 Z Z (f8 G Z Z Z Z (a1p J J) Z) (b4 ⟨Z,?_⟩)) | refine e9 [] Z Z (b5 Z Z (f8 G Z Z Z Z (a2i J J) Z) (b4 ⟨Z,?_⟩))
       refine b7 (rs:=[12]) a8 Z (AllB.cons ?_ AllB.nil)
       first | refine e9 [] Z Z (b5 Z Z (d1 G Z Z Z Z Z J a9q) (b4 ⟨Z,?_⟩)) | refine e9 [] Z Z (b5 Z Z (d1 G Z Z Z Z Z J a9p) (b4 ⟨Z,?_⟩)) | refine e9 [] Z Z (b5 Z Z (d1 G Z Z Z Z Z J a9o) (b4 ⟨Z,?_⟩))
       refine b7 (rs:=[13]) a8 Z (AllB.cons ?_ AllB.nil)
       exact ws2
      exact c5C
     first | refine e9 [] Z Z (b5 Z Z (d1 G Z Z Z Z Z J a9q) (b4 ⟨Z,?_⟩)) | refine e9 [] Z Z (b5 Z Z (d1 G Z Z Z Z Z J a9p) (b4 ⟨Z,?_⟩)) | refine e9 [] Z Z (b5 Z Z (d1 G Z Z Z Z Z J a9o) (b4 ⟨Z,?_⟩))
     refine b7 (rs:=[8,13]) a8 Z (AllB.cons ?_ (AllB.cons ?_ AllB.nil))
     ·exact c5C
     first | refine e9 [] Z Z (b5 Z Z (f8 G Z Z Z Z (a0T J) Z) (b4 ⟨Z,?_⟩)) | refine e9 [] Z Z (b5 Z Z (f8 G Z Z Z Z (a1p J J) Z) (b4 ⟨Z,?_⟩)) | refine e9 [] Z Z (b5 Z Z (f8 G Z Z Z Z (a2i J J) Z) (b4 ⟨Z,?_⟩))
     refine b7 (rs:=[8]) a8 Z (AllB.cons ?_ AllB.nil)
     first | refine e9 [] Z Z (b5 Z Z (d1 G Z Z Z Z Z J a9q) (b4 ⟨Z,?_⟩)) | refine e9 [] Z Z (b5 Z Z (d1 G Z Z Z Z Z J a9p) (b4 ⟨Z,?_⟩)) | refine e9 [] Z Z (b5 Z Z (d1 G Z Z Z Z Z J a9o) (b4 ⟨Z,?_⟩))
     refine b7 (rs:=[9]) a8 Z (AllB.cons ?_ AllB.nil)
     exact ws2
    refine zgo ?_
    refine ⟨(j - 1),?_,?_,⟨⟨_,Z,by (congr 2;omega)⟩,Z,trivial⟩,⟨⟨_,Z,by (exact congrArg (λz=>Row.row _ _ z) (by rw [htn J];exact b8B J J))⟩,Z,Z,trivial⟩,Z,Z,Z⟩
    ·exact ⟨by omega,λt h1 h2=>(by by_cases e:t=j - 1<;>first | (subst e;exact a2g.mp J) | exact hj.2 t J h2)⟩
    omega
   refine zgo ?_
   refine ⟨(i+1),?_,?_,⟨⟨_,Z,by rfl⟩,Z,trivial⟩,⟨⟨_,Z,by (rw [b2t J,← b46 J hM.pw hM.dif (λt ht ht2=>hj.2 t ht J) c4U])⟩,Z,Z,trivial⟩,Z,Z,Z⟩
   ·omega
   omega
  refine zwf ?_
  refine zgo ?_
  refine ⟨(i+1),?_,?_,⟨⟨_,Z,by rfl⟩,Z,trivial⟩,⟨⟨_,Z,by (rw [b2t J,← b46 J hM.pw hM.dif (λt ht ht2=>hj.2 t ht J) c4U])⟩,Z,Z,trivial⟩,Z,Z,Z⟩
  ·omega
  omega
 refine J0 (X7 Z Z Z Z d9 Z (AftOK.stays Z ?_ Z AftOK.nil))
 all_goals (
  have e:a9y d i=srtW d:=b96 J
  rw [e]
 )
theorem U8 (d:List Wtr) (hd:b41 d) (hn:d.length<=12) (lim:Int):CtrM Tryz.prog 228 [.own 0,.v (.int .i64 0),.v (.int .i64 (d.length:Int)),.v (.int .i64 lim),.v (.func (.func 176) #[] #[])] [.row 76 2 (d.map j8)] (.many []) [some (.row 76 2 ((srtW d).map j8))]:=by
 refine CtrM.of (n:=148) (k:=1) G Tryz.func228 Z a8 Z Z Z Z Z Z Z (λw0 _ hpin=>?_)
 refine zgo ?_
 refine i6 [0,4] [0] (λ(u:Unit)=>[(1,.v (.int .i64 0)),(2,.v (.int .i64 (d.length:Int))),(3,.v (.int .i64 lim)),(10,.v (.bool true)),(11,.v (.bool true))]) (λ(u:Unit)=>[]) (λ(u:Unit)=>True) (λ(u:Unit)=>0) () Z Z ?_ ?_ ?_ ?_
 ·first | trivial | omega | (refine ⟨?_,?_⟩<;>omega)
 ·exact ⟨⟨_,Z,by (first | rfl | (simp;done) | (simp;omega))⟩,Z,⟨⟨_,Z,by (first | rfl | (simp;done) | (simp;omega))⟩,Z,⟨⟨_,Z,by (first | rfl | (simp;done) | (simp;omega))⟩,Z,⟨⟨_,Z,by (first | rfl | (simp;done) | (simp;omega))⟩,Z,⟨⟨_,Z,by (first | rfl | (simp;done) | (simp;omega))⟩,Z,trivial⟩⟩⟩⟩⟩
 ·exact trivial
 intro u hinv
 refine vm2 ?_
 refine zcd (λh1=>?_) (λh1=>?_)
 ·refine vm3 ?_
  refine N1 1 [0] Z Z Z (N8 d hd hn) Z (RowsIn.cons Z RowsIn.nil) Z Z Z ?_
  refine zgo ?_
  refine d7 (X7 Z Z Z Z d9 Z (AftOK.stays Z ?_ Z AftOK.nil))
  all_goals (rfl)
 exfalso;omega
theorem N9 (d:List Wtr) (hd:b41 d) (hn:d.length<=12):CtrM Tryz.prog 175 [.own 0,.v (.func (.func 176) #[] #[])] [.row 76 2 (d.map j8)] (.many []) [some (.row 76 2 ((srtW d).map j8))]:=by
 refine CtrM.of (n:=14) (k:=1) G Tryz.func175 Z a8 Z Z Z Z Z Z Z (λw0 _ hpin=>?_)
 refine vm3 ?_
 refine c8d ?_
 refine a7 Z (b0O 1 Z Z Z (ArgsOK.of Z) (a8j d.length hn) (λ_=>Z) Z (λy1=>?_))
 refine zgo ?_
 refine a7 Z (N1 1 [0] Z Z Z (U8 d hd hn _) Z (RowsIn.cons Z RowsIn.nil) Z Z Z (b4 (X7 Z Z Z Z d9 Z (AftOK.stays Z ?_ Z AftOK.nil))))
 all_goals (rfl)
theorem X1 (q:Que) (hF:QF q):Ctr Tryz.prog 117 [.agg [.lst 3 (q.sl.map j4),.lst 2 (q.wa.map j8)]] (.one (.fr 3 1 ((E6 q).map Rf.s3))):=by
 have hl4:=hF.sl.len
 have hwn:=hF.wn8
 have cS:=N9 (pnL q 4) (b7h hF 4 (Nat.le_refl _)) (by have:=@b3A q 4;omega)
 rw [b6m hF] at cS
 refine Ctr.of (n:=50) G Tryz.func117 Z a8 Z Z Z (λw0=>?_)
 refine n9 0 Z (λ_=>Z) (λu0=>?_)
 refine vm1 ?_
 refine vm3 ?_
 refine b35 ?_
 refine vm3 ?_
 refine vm6 ?_
 refine r6 ?_
 refine b5p ?_
 refine zgo ?_
 refine i6 [4,15,16] [2] (λ(i:Nat)=>[(3,.own 1),(17,.v (.int .i64 (i:Int)))]) (λ(i:Nat)=>[(1,some (.row 76 2 ((pnL q i).map j8)))]) (λ(i:Nat)=>i<=4) (λ(i:Nat)=>4 - i) 0 Z Z ?_ ?_ ?_ ?_
 ·exact P9
 ·exact Z8
 ·exact a1U
 intro i hi
 have hpl:=@b3A q i
 refine vm2 ?_
 refine zcd (λh1=>?_) (λh1=>?_)
 ·refine vm3 ?_
  refine d6 G 4 Z Z Z Z Z ?_
  refine zcd (λh2=>?_) (λh2=>?_)
  ·refine zwt ?_
   exact c5O
  refine zcd (λh3=>?_) (λh3=>?_)
  ·exact c5O
  exact d0E
 obtain rfl:i=4:=J
 refine vm3 ?_
 refine N1 3 [1] Z Z Z cS Z (RowsIn.cons Z RowsIn.nil) Z Z Z ?_
 refine zgo ?_
 refine i6 [37,38] [1] (λ(i:Nat)=>[(4,.own 2),(39,.v (.int .i64 (i:Int)))]) (λ(i:Nat)=>[(2,some (.row 3 1 (((E6 q).take i).map Rf.s3)))]) (λ(i:Nat)=>i<=(pnS q 4).length) (λ(i:Nat)=>(pnS q 4).length - i) 0 Z Z ?_ ?_ ?_ ?_
 ·exact P9
 ·exact Z8
 ·exact a1U
 intro i hi
 have hpl:=@a7F q 4
 refine vm2 ?_
 refine zcd (λh4=>?_) (λh4=>?_)
 ·refine vm4 ?_
  refine b5 Z Z (f8 G Z Z Z Z (C3 J n8) Z) ?_
  refine r6 ?_
  refine d6 G 4 Z Z Z Z Z ?_
  refine vm3 ?_
  refine p6 G 5 Z Z Z Z Z Z Z Z ?_
  refine r6 ?_
  refine vm6 ?_
  exact c5d
 refine zfo ?_
 all_goals (first | rfl | (rw [b7j J]))
theorem a0C (q:Que) (hF:QF q):Ctr Tryz.prog 184 [.agg [.lst 3 (q.sl.map j4),.lst 2 (q.wa.map j8)]] (.one (.fr 3 1 ((E6 q).map Rf.s3))):=by
 have hl4:=hF.sl.len
 have hwn:=hF.wn8
 refine Ctr.of (n:=55) G Tryz.func184 Z a8 Z Z Z (λw0=>?_)
 refine n9 0 Z (λ_=>Z) (λu0=>?_)
 refine vm1 ?_
 refine vm3 ?_
 refine b35 ?_
 refine vm3 ?_
 refine vm6 ?_
 refine zgo ?_
 refine i6 [1] [0] (λ(i:Nat)=>[(3,.own 1),(4,.v (.int .i64 (i:Int)))]) (λ(i:Nat)=>[(1,some (.row 76 2 ((pnS q i).map j8)))]) (λ(i:Nat)=>i<=4) (λ(i:Nat)=>4 - i) 0 Z Z ?_ ?_ ?_ ?_
 ·exact P9
 ·exact Z8
 ·exact a1U
 intro i hi
 have hpl:=@a7F q i
 refine vm2 ?_
 refine zcd (λh1=>?_) (λh1=>?_)
 ·refine vm3 ?_
  refine d6 G 3 Z Z Z Z Z ?_
  refine zcd (λh2=>?_) (λh2=>?_)
  ·refine zwt ?_
   exact d0I
  refine zcd (λh3=>?_) (λh3=>?_)
  ·exact d0I
  refine zgo ?_
  refine ⟨(i+1),?_,?_,⟨⟨_,Z,by rfl⟩,Z,⟨⟨_,Z,by rfl⟩,Z,trivial⟩⟩,⟨⟨_,Z,by (first | (rw [b2u J,List.map_append];rfl) | (rw [b2u J];done) | (rw [b2u J];rfl) | (rw [c3X J];done))⟩,Z,Z,trivial⟩,Z,Z,Z⟩
  ·omega
  omega
 obtain rfl:i=4:=J
 refine vm3 ?_
 refine b5p ?_
 refine zgo ?_
 refine i6 [3] [1] (λ(i:Nat)=>[(6,.own 2),(7,.v (.int .i64 (i:Int)))]) (λ(i:Nat)=>[(2,some (.row 3 1 (((E6 q).take i).map Rf.s3)))]) (λ(i:Nat)=>i<=(pnS q 4).length) (λ(i:Nat)=>(pnS q 4).length - i) 0 Z Z ?_ ?_ ?_ ?_
 ·exact P9
 ·exact Z8
 ·exact a1U
 intro i hi
 have hpl:=@a7F q 4
 refine vm2 ?_
 refine zcd (λh4=>?_) (λh4=>?_)
 ·refine vm4 ?_
  refine c1t ?_
  refine r6 ?_
  refine c3n ?_
  refine r6 ?_
  refine c3r ?_
  refine r6 ?_
  refine vm6 ?_
  exact c5d
 refine zfo ?_
 all_goals (first | rfl | (rw [b7j J]))
theorem b1q (x:Ifc) (hn:x.st.length<=1048576) (hl:x.qu.sl.length<=1048576) (hw:x.qu.wa.length<=1048576):Ctr Tryz.prog 104 [.agg [.v (.int .i64 x.ma),.lst 1 (x.st.map Rf.s3),.lst 3 (x.qu.sl.map j4),.lst 2 (x.qu.wa.map j8)]] (.one (.v (.bool (a2G x)))):=by
 refine Ctr.of (n:=74) G Tryz.func104 Z a8 Z Z Z (λw0=>?_)
 refine n9 0 Z (λ_=>Z) (λu0=>?_)
 refine t8 ?_
 refine b1K ?_
 refine zgn ?_
 refine t8 ?_
 refine a4j ?_
 refine a3q ?_
 refine r6 ?_
 refine b5 Z Z (i7 Z (ArgsOK.of Z) (a01 x.ma 0 16) Z) ?_
 refine a3q ?_
 refine D9 Z Z Z (λh1=>?_) (λh1=>?_)
 ·try rw [h1]
  try simp only [rfb] at h1
  refine zgn ?_
  refine M8 Z ?_
  exact c1w
 try rw [h1]
 try simp only [rfb] at h1
 refine a3q ?_
 refine Y5 ?_
 refine b5 Z Z (i7 Z (ArgsOK.of Z) (b1O x.qu hl hw) Z) ?_
 refine zgn ?_
 refine l1 Z (λh2=>?_) (λh2=>?_)
 ·try rw [h2]
  try simp only [rfb] at h2
  exact c1w
 try rw [h2]
 try simp only [rfb] at h2
 have hq:=a7x.mp h2
 have hSl:=hq.1.sl
 have hl4:=hSl.len
 refine zgn ?_
 refine t8 ?_
 refine a3o ?_
 refine r6 ?_
 refine d3 2 Z Z Z (ArgsOK.of Z) (a9K x.qu.sl hSl) Z Z ?_
 refine zgn ?_
 refine zgn ?_
 refine p8 (i6 [1,3] [0,1] (λ(i:Nat)=>[(4,.v (.int .i64 (i:Int)))]) (λ(i:Nat)=>[]) (λ(i:Nat)=>i<=x.st.length/\StP x.qu.sl x.st i) (λ(i:Nat)=>x.st.length - i) 0 Z Z ?_ ?_ ?_ ?_)
 ·exact ⟨Nat.zero_le _,c9b⟩
 ·exact C0
 ·exact trivial
 intro i hinv
 have hti:0 < i→((i:Int) - 1).toNat=i - 1:=λ_=>J
 refine vm2 ?_
 refine zgn ?_
 refine l1 Z (λh3=>?_) (λh3=>?_)
 ·try rw [h3]
  try simp only [rfb] at h3
  refine zgn ?_
  refine t8 (p8 (t8 ?_))
  refine c1u ?_
  iterate 6 refine zst ?_
  refine d8 Z (l8 Z Z (i7 Z c4R (a36 (a8K x.qu.sl 4) _ (by have:=@a7H x.qu.sl 4;have:=@a0U x.qu.sl 4;omega)) Z) ?_)
  refine a3q ?_
  refine b20 Z Z Z (λh4=>?_) (λh4=>?_)
  ·try rw [h4]
   try simp only [rfb] at h4
   refine zgn ?_
   refine M8 Z ?_
   exact c1w
  try rw [h4]
  try simp only [rfb] at h4
  have hm:=(a7G 4).mp (b02.mp h4)
  iterate 3 refine zst ?_
  refine c8c ?_
  iterate 5 refine zst ?_
  refine b1M ?_
  refine l8 Z Z (i7 Z c4R (a36 (x.st.take i) _ b7U) Z) ?_
  refine zgn ?_
  refine l1 Z (λh5=>?_) (λh5=>?_)
  ·try rw [h5]
   try simp only [rfb] at h5
   exact c1w
  try rw [h5]
  try simp only [rfb] at h5
  refine zgn ?_
  refine c1u ?_
  iterate 3 refine zst ?_
  refine b20 Z Z Z (λh6=>?_) (λh6=>?_)
  ·try rw [h6]
   try simp only [rfb] at h6
   have hl1:=b6n (hinv.2.inn (i - 1) J) hl4
   have hl2:=b6n hm hl4
   iterate 5 refine zst ?_
   refine b1M ?_
   refine c3l ?_
   refine b1M ?_
   refine l8 Z Z (i7 Z (ArgsOK.of Z) (a1a x.qu _ hl (by rw [hti J];exact hl1)) Z) ?_
   iterate 7 refine zst ?_
   refine b1M ?_
   refine l8 Z Z (i7 Z (ArgsOK.of Z) (a1a x.qu _ hl hl2) Z) ?_
   refine zgn ?_
   refine l1 Z (λh7=>?_) (λh7=>?_)
   ·try rw [h7]
    try simp only [rfb] at h7
    exact c1w
   try rw [h7]
   try simp only [rfb] at h7
   refine zgn ?_
   refine b6 ?_
   refine zst ?_
   refine vm7 ?_
   refine zgn ?_
   refine ⟨(i+1),?_,?_,⟨⟨_,Z,by rfl⟩,Z,trivial⟩,trivial,Z,Z,Z⟩
   ·exact c5i
   omega
  try rw [h6]
  try simp only [rfb] at h6
  refine zgn ?_
  refine Y6 Z ?_
  refine zgn ?_
  refine b6 ?_
  refine zst ?_
  refine vm7 ?_
  refine zgn ?_
  refine ⟨(i+1),?_,?_,⟨⟨_,Z,by rfl⟩,Z,trivial⟩,trivial,Z,Z,Z⟩
  ·exact c5i
  omega
 try rw [h3]
 try simp only [rfb] at h3
 refine zgn ?_
 refine a79 ?_
 all_goals exact c4p
theorem a9R (rs:List Route) (q:Que) (k:Nat) (hr8:rs.length=8) (hF:QF q) (hk:k<=8):Ctr Tryz.prog 105 [.lst 2 (rs.map p5),.agg [.lst 3 (q.sl.map j4),.lst 2 (q.wa.map j8)],.v (.int .i64 (k:Int))] (.one (.v (.bool (okRq rs q k)))):=by
 have hl4:=hF.sl.len
 have hwn:=hF.wn8
 refine Ctr.of (n:=83) G Tryz.func105 Z a8 Z Z Z (λw0=>?_)
 refine n9 1 Z (λ_=>Z) (λu1=>?_)
 refine vm1 ?_
 refine zgo ?_
 refine i6 [0,2,4] [0] (λ(i:Nat)=>[(7,.v (.int .i64 (i:Int)))]) (λ(i:Nat)=>[]) (λ(i:Nat)=>i<=4/\∀t,t < i→rtS rs k (q.sl.getD t default)=true) (λ(i:Nat)=>4 - i) 0 Z Z ?_ ?_ ?_ ?_
 ·exact T5
 ·exact C0
 ·exact trivial
 intro i hi
 refine vm2 ?_
 refine zcd (λh1=>?_) (λh1=>?_)
 ·refine b5q ?_
  refine zgd ?_
  refine zcd (λh2=>?_) (λh2=>?_)
  ·refine zwt ?_
   exact c1y
  have hb0:=hF.sl.ok i J
  refine zcd (λh3=>?_) (λh3=>?_)
  ·have hb:=(hF.sl.ok i J h3).2.1
   refine zcd (λh4=>?_) (λh4=>?_)
   ·refine zwt ?_
    exact c1y
   refine zcd (λh5=>?_) (λh5=>?_)
   ·exact c1y
   exact c5a
  refine zwf ?_
  exact c5a
 refine zgo ?_
 refine i6 [0,2,4] [0] (λ(j:Nat)=>[(9,.v (.int .i64 (j:Int)))]) (λ(j:Nat)=>[]) (λ(j:Nat)=>j<=q.wa.length/\∀t,t < j→rtW rs k (q.wa.getD t default)=true) (λ(j:Nat)=>q.wa.length - j) 0 Z Z ?_ ?_ ?_ ?_
 ·exact T5
 ·exact C0
 ·exact trivial
 intro j hj
 refine vm2 ?_
 refine zcd (λh6=>?_) (λh6=>?_)
 ·have hbw:=(hF.wa _ (j5.mpr ⟨j,by omega,Z⟩)).1
  refine b5q ?_
  refine zgd ?_
  refine zcd (λh7=>?_) (λh7=>?_)
  ·refine zwt ?_
   exact c1y
  refine zcd (λh8=>?_) (λh8=>?_)
  ·exact c1y
  refine zgo ?_
  refine ⟨(j+1),?_,?_,⟨⟨_,Z,by rfl⟩,Z,trivial⟩,trivial,Z,Z,Z⟩
  ·exact ⟨by omega,s4 hj.2 (a2k.mpr ⟨by assumption,by assumption⟩)⟩
  omega
 refine zf1 ?_
 all_goals exact c4q
theorem A2:S8 Tryz.prog 132 [.int .i64,.int .i64]=true:=by kernel_rfl
theorem S4 (wa:List Wtr) (hw:wa.length<=1048576):Ctr Tryz.prog 141 [.lst 2 (wa.map j8)] (.one (.fr 76 2 (wa.map j8))):=by
 refine Ctr.of (n:=8) G Tryz.func141 Z a8 Z Z Z (λw0=>?_)
 refine zgo ?_
 refine a7 Z (c2f G Z Z Z Z Z (λbn hbn=>?_))
 refine zcd (λh1=>?_) (λh1=>?_)
 ·refine zgo ?_
  refine d7 (P3 Z (C6 ?_))
  exact c5y
 refine b1L ?_
 refine vm3 ?_
 refine vm6 ?_
 refine zfo ?_
 exact c5y
theorem a5U (w:Wtr) (rs:List Route) (k:Nat) (hr8:rs.length=8) (hw:0<=w.q/\w.q<=7):Ctr Tryz.prog 144 [.v (a56 w),.eptN [.lst 2 (rs.map p5)],.ept [.int .i64 (k:Int)]] (.one (.v (.bool (!rtW rs k w)))):=by
 refine Ctr.of (n:=15) G Tryz.func144 Z a8 Z Z Z (λw0=>?_)
 refine vm1 ?_
 refine zgd ?_
 refine d8 Z (l8 Z Z (X2 G Z Z Z Z) ?_)
 refine zgo ?_
 refine d8 Z (l8 Z Z (b4A [.int .i64,.int .i64] Z Z Z Z Z Z Z (.inl Z) (.inl Z) A2 ⟨_,_,Z,⟨_,Z⟩,_,_,Z,⟨_,Z⟩,Z⟩ ⟨_,_,Z,⟨_,Z⟩,_,_,Z,⟨_,Z⟩,Z⟩) ?_)
 refine zf1 ?_
 all_goals ((refine congrArg Value.bool ?_;rw [Bool.eq_iff_iff,Bool.not_eq_true',Bool.not_eq_true',← Bool.not_eq_true,← Bool.not_eq_true (b:=rtW rs k w),ec2,a2k];exact not_congr And.comm))
theorem K0 (xs:List Wtr) (f:Nat) (rs:List Route) (c:List Value) (p:Wtr→Bool) (hl:xs.length<=1048576) (hf:∀i,i < xs.length→Ctr Tryz.prog f [.v (a56 (xs.getD i default)),.eptN [.lst 2 (rs.map p5)],.ept c] (.one (.v (.bool (p (xs.getD i default)))))):Ctr Tryz.prog 196 [.lst 2 (xs.map j8),.fnc f [.eptN [.lst 2 (rs.map p5)],.ept c]] (.one (.v (.int .i64 (O4 (λi=>p (xs.getD i default)) xs.length)))):=by
 exact c54
theorem J4 (xs:List Wtr) (f:Nat) (rs:List Route) (c:List Value) (p:Wtr→Bool) (hl:xs.length<=1048576) (hf:∀i,i < xs.length→Ctr Tryz.prog f [.v (a56 (xs.getD i default)),.eptN [.lst 2 (rs.map p5)],.ept c] (.one (.v (.bool (p (xs.getD i default)))))):Ctr Tryz.prog 143 [.lst 2 (xs.map j8),.fnc f [.eptN [.lst 2 (rs.map p5)],.ept c]] (.one (.v (.bool (a0M xs.length (λi=>p (xs.getD i default)))))):=by
 refine Ctr.of (n:=9) G Tryz.func143 Z a8 Z Z Z (λw0=>?_)
 refine zcl (K0 xs f rs c p hl hf) ?_
 refine zf1 ?_
 all_goals (rw [a5s])
theorem a8k (rs:List Route) (k:Nat) (x:Ifc) (hr8:rs.length=8) (hF:IfF x) (hk:k<=8):Ctr Tryz.prog 91 [.lst 2 (rs.map p5),.v (.int .i64 (k:Int)),.agg [.v (.int .i64 x.ma),.lst 1 (x.st.map Rf.s3),.lst 3 (x.qu.sl.map j4),.lst 2 (x.qu.wa.map j8)]] (.one (.v (.bool (okRq rs x.qu k)))):=by
 have hl4:=hF.qu.sl.len
 have hwn:=hF.qu.wn8
 refine Ctr.of (n:=38) G Tryz.func91 Z a8 Z Z Z (λw0=>?_)
 refine b5L (t:=0) Z (λz0=>?_)
 refine n9 2 Z (λ_=>Z) (λu2=>?_)
 refine vm1 ?_
 refine b6F ?_
 refine r6 ?_
 refine B4 3 Z Z Z Z Z Z Z ?_
 refine vm3 ?_
 refine d3 4 Z Z Z (ArgsOK.of Z) (S4 x.qu.wa J) Z Z ?_
 refine zgo ?_
 refine i6 [3,4,16,17] [0,1] (λ(i:Nat)=>[(7,.own 3),(18,.v (.int .i64 (i:Int)))]) (λ(i:Nat)=>[(3,some (.row 76 2 ((ftL x.qu i).map j8)))]) (λ(i:Nat)=>i<=4/\∀t,t < i→(x.qu.sl.getD t default).s≠3) (λ(i:Nat)=>4 - i) 0 Z Z ?_ ?_ ?_ ?_
 ·exact T5
 ·exact c5q
 ·exact ⟨⟨_,Z,by (first | rfl | (simp;done) | (simp;omega))⟩,Z,Z,trivial⟩
 intro i hinv
 have hpl:=@b3H x.qu i
 refine vm2 ?_
 refine zcd (λh1=>?_) (λh1=>?_)
 ·refine vm3 ?_
  refine b8T ?_
  refine zcd (λh2=>?_) (λh2=>?_)
  ·refine zf1 ?_
   all_goals exact c4O
  refine zcd (λh3=>?_) (λh3=>?_)
  ·refine zcl (F7 _) ?_
   refine r6 ?_
   refine p6 G 6 Z Z Z Z Z Z Z Z ?_
   refine r6 ?_
   refine vm6 ?_
   exact c42
  exact c42
 obtain rfl:i=4:=J
 have hfl:=@b3H x.qu 4
 refine vm3 ?_
 refine b5 Z Z (b0s Z Z) ?_
 refine zcl (J4 (ftL x.qu 4) 144 rs [.int .i64 (k:Int)] (λw=>!rtW rs k w) J (λj hj=>a5U _ rs k hr8 (c6X hF.qu (Nat.le_refl _) (j5.mpr ⟨j,hj,Z⟩)))) ?_
 refine zf1 ?_
 all_goals exact c4O
theorem a0D (m:Mach) (hs:SmallM m):Ctr Tryz.prog 50 [.agg [.lst 2 (m.rs.map p5),.lst 1 (m.en.map m9),.lst 1 (m.ra.map m9),.nst none 4 (m.cp.map (s2 104 76))]] (.one (.v (.bool (W0 m)))):=by
 have z0:=hs.rs
 have z1:=hs.en
 have z2:=hs.ra
 have z3:=hs.cp
 refine Ctr.of (n:=44) G Tryz.func50 Z a8 Z Z Z (λw0=>?_)
 refine n9 0 Z (λ_=>Z) (λu0=>?_)
 refine t8 ?_
 refine b1K ?_
 refine zgn ?_
 refine t8 ?_
 refine a4j ?_
 iterate 5 refine zst ?_
 refine r6 ?_
 refine b5 Z Z (i7 Z (ArgsOK.of Z) (a3v m.rs _ J) Z) ?_
 refine a3q ?_
 refine D9 Z Z Z (λh1=>?_) (λh1=>?_)
 ·try rw [h1]
  try simp only [rfb] at h1
  exact c1P
 try rw [h1]
 try simp only [rfb] at h1
 have hr8:=(C7.mp h1).2.1
 have hc2:=(C7.mp h1).1
 iterate 6 refine zst ?_
 refine D9 Z Z Z (λh2=>?_) (λh2=>?_)
 ·try rw [h2]
  try simp only [rfb] at h2
  exact c1P
 try rw [h2]
 try simp only [rfb] at h2
 refine zgn ?_
 refine l1 Z (λh3=>?_) (λh3=>?_)
 ·try rw [h3]
  try simp only [rfb] at h3
  exact c1O
 try rw [h3]
 try simp only [rfb] at h3
 refine zgn ?_
 refine zgn ?_
 refine p8 (i6 [1,25,26] [0] (λ(k:Nat)=>[(27,.v (.int .i64 (k:Int)))]) (λ(k:Nat)=>[]) (λ(k:Nat)=>k<=m.cp.length/\∀j,j < k→a7I m j=true) (λ(k:Nat)=>m.cp.length - k) 0 Z Z ?_ ?_ ?_ ?_)
 ·exact T5
 ·exact C0
 ·exact trivial
 intro k hk
 refine vm2 ?_
 refine zgn ?_
 refine t8 (l1 Z (λh4=>?_) (λh4=>?_))
 ·try rw [h4]
  try simp only [rfb] at h4
  have hsz:=hs.allI (i:=k) J
  have hsz2:szI (m.cp.getD k default)=(m.cp.getD k default).st.length+(m.cp.getD k default).qu.sl.length+(m.cp.getD k default).qu.wa.length:=rfl
  refine zgn ?_
  refine t8 (p8 (t8 ?_))
  refine a3o ?_
  refine vm9 ?_
  refine zst ?_
  refine r6 ?_
  refine a7X 31 Z (λ_=>Z) λv31=>f6 G Z Z Z Z Z Z Z Z Z Z Z ?_
  refine zgn ?_
  refine a4j ?_
  refine zst ?_
  refine r6 ?_
  refine b5 Z Z (i7 Z (ArgsOK.of Z) (a6K (m.cp.getD k default) J J J) Z) ?_
  refine a3q ?_
  refine D9 Z Z Z (λh5=>?_) (λh5=>?_)
  ·try rw [h5]
   try simp only [rfb] at h5
   exact c1P
  try rw [h5]
  try simp only [rfb] at h5
  have hIF:=(b3G h5).1
  iterate 4 refine zst ?_
  refine Y5 ?_
  refine b5 Z Z (i7 Z (ArgsOK.of Z) (a8k m.rs k (m.cp.getD k default) hr8 hIF J) Z) ?_
  refine zgn ?_
  refine l1 Z (λh6=>?_) (λh6=>?_)
  ·try rw [h6]
   try simp only [rfb] at h6
   exact c1O
  try rw [h6]
  try simp only [rfb] at h6
  refine zgn ?_
  refine b6 ?_
  refine vm7 ?_
  refine zgn ?_
  exact c5n
 try rw [h4]
 try simp only [rfb] at h4
 refine zgn ?_
 refine a79 ?_
 all_goals exact c73
theorem a5h (m:Mach) (hs:SmallM m):Ctr Tryz.prog 66 [.agg [.lst 2 (m.rs.map p5),.lst 1 (m.en.map m9),.lst 1 (m.ra.map m9),.nst none 4 (m.cp.map (s2 104 76))]] (.one (.v (.bool (W0 m)))):=by
 have z0:=hs.rs
 have z1:=hs.en
 have z2:=hs.ra
 have z3:=hs.cp
 refine Ctr.of (n:=50) G Tryz.func66 Z a8 Z Z Z (λw0=>?_)
 refine n9 0 Z (λ_=>Z) (λu0=>?_)
 refine vm1 ?_
 refine zcl (a02 m.rs _ J) ?_
 refine zcd (λh1=>?_) (λh1=>?_)
 ·refine zwt ?_
  refine zf1 ?_
  exact b8V
 have hr8:=(C7.mp h1).2.1
 have hc2:=(C7.mp h1).1
 refine zcd (λh2=>?_) (λh2=>?_)
 ·refine zwt ?_
  refine zf1 ?_
  exact b8V
 refine zcd (λh3=>?_) (λh3=>?_)
 ·refine zf1 ?_
  exact b8V
 refine zgo ?_
 refine i6 [1] [0] (λ(k:Nat)=>[(3,.v (.int .i64 (k:Int)))]) (λ(k:Nat)=>[]) (λ(k:Nat)=>k<=m.cp.length/\∀j,j < k→a7I m j=true) (λ(k:Nat)=>m.cp.length - k) 0 Z Z ?_ ?_ ?_ ?_
 ·exact T5
 ·exact C0
 ·exact trivial
 intro k hk
 refine vm2 ?_
 refine zcd (λh4=>?_) (λh4=>?_)
 ·have hsz:=hs.allI (i:=k) J
  have hsz2:szI (m.cp.getD k default)=(m.cp.getD k default).st.length+(m.cp.getD k default).qu.sl.length+(m.cp.getD k default).qu.wa.length:=rfl
  refine zgd ?_
  refine zcl (b1q (m.cp.getD k default) J J J) ?_
  refine zcd (λh5=>?_) (λh5=>?_)
  ·refine zwt ?_
   refine zf1 ?_
   exact b8V
  have hIF:=(b3G h5).1
  refine zgo ?_
  refine b1M ?_
  refine l8 Z Z (a1j G Z Z Z Z) ?_
  refine zcl (a9R m.rs (m.cp.getD k default).qu k hr8 hIF.qu J) ?_
  refine zcd (λh6=>?_) (λh6=>?_)
  ·refine zf1 ?_
   exact b8V
  refine zgo ?_
  exact c5n
 refine zf1 ?_
 all_goals exact c73
theorem b1r (q:Int) (m:Mach) (hq:0<=q/\q.toNat < m.ra.length):Ctr Tryz.prog 114 [.v (.int .i64 q),.eptN [.lst 2 (m.rs.map p5),.lst 1 (m.en.map m9),.lst 1 (m.ra.map m9),.nst none 4 (m.cp.map (s2 104 76))]] (.one (.v (.bool (m.ra.getD q.toNat default)))):=by
 refine Ctr.of (n:=9) G Tryz.func114 Z a8 Z Z Z (λw0=>?_)
 refine vm3 ?_
 refine b34 ?_
 refine r6 ?_
 refine b8R ?_
 exact a9r
theorem a82 (f:Nat) (m:Mach) (p:Nat→Bool) (hf:∀i:Nat,i < 8→Ctr Tryz.prog f [.v (.int .i64 (i:Int)),.eptN [.lst 2 (m.rs.map p5),.lst 1 (m.en.map m9),.lst 1 (m.ra.map m9),.nst none 4 (m.cp.map (s2 104 76))]] (.one (.v (.bool (p i))))):Ctr Tryz.prog 113 [.fnc f [.eptN [.lst 2 (m.rs.map p5),.lst 1 (m.en.map m9),.lst 1 (m.ra.map m9),.nst none 4 (m.cp.map (s2 104 76))]]] (.one (.fr 3 1 ((whN p 8).map Rf.s3))):=by
 refine Ctr.of (n:=18) G Tryz.func113 Z a8 Z Z Z (λw0=>?_)
 refine b1L ?_
 refine zgo ?_
 refine i6 [0] [] (λ(i:Nat)=>[(3,.own 0),(6,.v (.int .i64 (i:Int)))]) (λ(i:Nat)=>[(0,some (.row 3 1 ((whN p i).map Rf.s3)))]) (λ(i:Nat)=>i<=8) (λ(i:Nat)=>8 - i) 0 Z Z ?_ ?_ ?_ ?_
 ·exact P9
 ·exact Z8
 ·exact a1U
 intro i hinv
 have hwl:=@a7R p i
 refine vm2 ?_
 refine zcd (λh1=>?_) (λh1=>?_)
 ·refine vm3 ?_
  refine b5 Z Z (b25 Z Z (ArgsOK.of Z) Z (hf i J) Z) ?_
  refine zcd (λh2=>?_) (λh2=>?_)
  ·refine vm3 ?_
   refine b35 ?_
   refine r6 ?_
   refine vm6 ?_
   exact c3y
  exact c3y
 obtain rfl:i=8:=J
 refine zfo ?_
 all_goals (rfl)
theorem a9S (x:Ifc) (hF:IfF x):Ctr Tryz.prog 174 [.agg [.v (.int .i64 x.ma),.lst 1 (x.st.map Rf.s3),.lst 3 (x.qu.sl.map j4),.lst 2 (x.qu.wa.map j8)]] (.one (.v (.bool (a3n x)))):=by
 have hsn:=hF.sn
 have hpl:=a3k hF.qu
 refine Ctr.of (n:=14) G Tryz.func174 Z a8 Z Z Z (λw0=>?_)
 refine n9 0 Z (λ_=>Z) (λu0=>?_)
 refine vm1 ?_
 refine zcd (λh1=>?_) (λh1=>?_)
 ·exact c5t
 refine zgo ?_
 refine Y5 ?_
 refine d3 2 Z Z Z (ArgsOK.of Z) (X1 x.qu hF.qu) Z Z ?_
 exact c5t
theorem I3 (xs:List Ifc) (f:Nat) (p:Ifc→Bool) (hl:xs.length<=1048576) (hf:∀i,i < xs.length→Ctr Tryz.prog f [.agg [.v (.int .i64 (xs.getD i default).ma),.lst 1 ((xs.getD i default).st.map Rf.s3),.lst 3 ((xs.getD i default).qu.sl.map j4),.lst 2 ((xs.getD i default).qu.wa.map j8)]] (.one (.v (.bool (p (xs.getD i default)))))):Ctr Tryz.prog 227 [.nst none 4 (xs.map (s2 104 76)),.fnc f []] (.one (.v (.int .i64 (O4 (λi=>p (xs.getD i default)) xs.length)))):=by
 refine Ctr.of (n:=19) G Tryz.func227 Z a8 Z Z Z (λw0=>?_)
 exact ws6
theorem H6 (xs:List Ifc) (f:Nat) (p:Ifc→Bool) (hl:xs.length<=1048576) (hf:∀i,i < xs.length→Ctr Tryz.prog f [.agg [.v (.int .i64 (xs.getD i default).ma),.lst 1 ((xs.getD i default).st.map Rf.s3),.lst 3 ((xs.getD i default).qu.sl.map j4),.lst 2 ((xs.getD i default).qu.wa.map j8)]] (.one (.v (.bool (p (xs.getD i default)))))):Ctr Tryz.prog 173 [.nst none 4 (xs.map (s2 104 76)),.fnc f []] (.one (.v (.bool (a0M xs.length (λi=>p (xs.getD i default)))))):=by
 refine Ctr.of (n:=9) G Tryz.func173 Z a8 Z Z Z (λw0=>?_)
 refine zcl (I3 xs f p hl hf) ?_
 refine zf1 ?_
 all_goals (rw [a5s])
theorem b1R (m:Mach) (hs:SmallM m) (hM:W0 m=true):Ctr Tryz.prog 115 [.agg [.lst 2 (m.rs.map p5),.lst 1 (m.en.map m9),.lst 1 (m.ra.map m9),.nst none 4 (m.cp.map (s2 104 76))]] (.many [.v (.bool (a8P m)),.v (.bool true)]):=by
 have hG:=(maF hM).g
 have hra:=hG.ra
 have hen:=hG.en
 have hcp:=hs.cp
 refine Ctr.of (n:=30) G Tryz.func115 Z a8 Z Z Z (λw0=>?_)
 refine n9 0 Z (λ_=>Z) (λu0=>?_)
 refine vm1 ?_
 refine zcl (Ctr.bool (a0D m hs) (hM)) ?_
 refine zwf ?_
 refine zgo ?_
 refine i6 [1,10,11] [0] (λ(i:Nat)=>[(12,.v (.int .i64 (i:Int)))]) (λ(i:Nat)=>[]) (λ(i:Nat)=>i<=8/\∀j,j < i→a9z m j=false) (λ(i:Nat)=>8 - i) 0 Z Z ?_ ?_ ?_ ?_
 ·exact T5
 ·exact C0
 ·exact trivial
 intro i hinv
 refine vm2 ?_
 refine zcd (λh1=>?_) (λh1=>?_)
 ·refine zcd (λh2=>?_) (λh2=>?_)
  ·refine zcd (λh3=>?_) (λh3=>?_)
   ·refine zgo ?_
    refine d7 (s1 Z Z Z Z (b3 (i8 ?_) (b3 (i8 ?_) d9)))
    all_goals exact c4P
   exact c3B
  refine zwf ?_
  exact c3B
 refine zcl (Ctr.argsTo (H6 m.cp 174 a3n J (λi hi=>a9S _ (hG.ok i hi).f)) (λw vs h=>c7g vs h)) ?_
 refine zgo ?_
 refine d7 (s1 Z Z Z Z (b3 (i8 ?_) (b3 (i8 ?_) d9)))
 all_goals exact c4P
theorem b1s (m:Mach) (hs:SmallM m) (hM:W0 m=true):Ctr Tryz.prog 126 [.agg [.lst 2 (m.rs.map p5),.lst 1 (m.en.map m9),.lst 1 (m.ra.map m9),.nst none 4 (m.cp.map (s2 104 76))]] (.one (.v (.bool (a8P m)))):=by
 have hG:=(maF hM).g
 have hra:=hG.ra
 have hen:=hG.en
 have hcp:=hs.cp
 refine Ctr.of (n:=47) G Tryz.func126 Z a8 Z Z Z (λw0=>?_)
 refine n9 0 Z (λ_=>Z) (λu0=>?_)
 refine vm1 ?_
 refine zgo ?_
 refine i6 [1] [0] (λ(i:Nat)=>[(3,.v (.int .i64 (i:Int)))]) (λ(i:Nat)=>[]) (λ(i:Nat)=>i<=8/\∀j,j < i→a9z m j=false) (λ(i:Nat)=>8 - i) 0 Z Z ?_ ?_ ?_ ?_
 ·exact T5
 ·exact C0
 ·exact trivial
 intro i hinv
 refine vm2 ?_
 refine zcd (λh1=>?_) (λh1=>?_)
 ·refine zcd (λh2=>?_) (λh2=>?_)
  ·refine zcd (λh3=>?_) (λh3=>?_)
   ·exact c8t
   exact c3B
  refine zwf ?_
  exact c3B
 refine zgo ?_
 refine i6 [1] [0] (λ(k:Nat)=>[(4,.v (.int .i64 (k:Int)))]) (λ(k:Nat)=>[]) (λ(k:Nat)=>k<=m.cp.length/\∀j,j < k→a3n (m.cp.getD j default)=false) (λ(k:Nat)=>m.cp.length - k) 0 Z Z ?_ ?_ ?_ ?_
 ·exact T5
 ·exact C0
 ·exact trivial
 intro k hk
 refine vm2 ?_
 refine zcd (λh4=>?_) (λh4=>?_)
 ·have hI:=(hG.ok k J).f
  have hsn:=hI.sn
  have hpl:=a3k hI.qu
  refine vm3 ?_
  refine b34 ?_
  refine r6 ?_
  refine b8R ?_
  refine zcd (λh5=>?_) (λh5=>?_)
  ·refine zwt ?_
   exact c8t
  refine zgo ?_
  refine Y5 ?_
  refine b34 ?_
  refine zgo ?_
  refine Y5 ?_
  refine d3 2 Z Z Z (ArgsOK.of Z) (a0C (m.cp.getD k default).qu hI.qu) Z Z ?_
  refine zcd (λh6=>?_) (λh6=>?_)
  ·exact c8t
  refine zgo ?_
  refine ⟨(k+1),?_,?_,⟨⟨_,Z,by rfl⟩,Z,trivial⟩,trivial,Z,Z,Z⟩
  ·exact ⟨by omega,s4 hk.2 (c2S J J)⟩
  omega
 refine zf1 ?_
 all_goals exact c4v
theorem a9T (s:ByteArray) (hs:s.size<=9223372036854775807):Ctr Tryz.prog 74 [.v (.string s)] (.many [.v (.int .i64 (nmN s)),.v (.bool (nmK s))]):=by
 refine Ctr.of (n:=28) G Tryz.func74 Z Y Z Z Z (λw0=>?_)
 refine c1 (λK1 hK1=>?_)
 refine b6 (a7 Z (b5 Z Z (b9 Z Z) (a7 Z (b5 Z Z (b9 Z Z) (b4 (hK1 _ ?_))))))
 clear hK1 K1
 refine c1 (λK2 hK2=>?_)
 refine c1 (λK3 hK3=>?_)
 refine b6 (a7 Z (b5 Z Z (b8 Z Z) (a7 Z (b5 Z Z (p9 G Z Z Z) (a7 Z (b5 Z Z (u4 Z Z Z Z) (b4 (hK3 _ ?_))))))))
 clear hK3 K3
 refine l1 Z (λh1=>?_) (λh1=>?_)
 ·try rw [h1]
  try simp only [rfb] at h1
  refine c1 (λK4 hK4=>?_)
  refine b6 (a7 Z (b5 Z Z (b9 Z Z) (a7 Z (b5 Z Z (b9 Z Z) (b4 (hK4 _ ?_))))))
  clear hK4 K4
  refine d7 (s1 Z Z Z Z (b3 (i8 ?_) (b3 (i8 ?_) d9)))
  all_goals clear hK2 K2
  all_goals (first | (rw [(a24 (s:=s) J).1];done) | (rw [(a24 (s:=s) J).2];done) | (rw [(a5y (s:=s) J (hc1.symm.trans h2)).1];done) | (rw [(a5y (s:=s) J (hc1.symm.trans h2)).2];done) | (rw [(a8D (s:=s) J h3).1];done) | (rw [(a8D (s:=s) J h3).2];done) | (rw [(b2e (s:=s) J (hc1.symm.trans h2) h4).1];done) | (rw [(b2e (s:=s) J (hc1.symm.trans h2) h4).2];done) | (rw [(a8E (s:=s) J (hc1.symm.trans h2) h3 h4).1];done) | (rw [(a8E (s:=s) J (hc1.symm.trans h2) h3 h4).2];done))
 ·try rw [h1]
  try simp only [rfb] at h1
  have hbd:=c17 (s:=s) J
  refine r7 (hK2 _ ?_)
  clear hK2 K2
  refine c1 (λK5 hK5=>?_)
  refine b6 (a7 Z (b5 Z Z (b8 Z Z) (a7 Z ?_)))
  refine d4 0 [] Z Z Z (b1k s J) Z RowsIn.nil Z (λ_=>Z) Z (λx1 ⟨hv1,hc1⟩=>?_)
  refine a7 Z (b5 Z Z (b8 Z Z) (a7 Z (b5 Z Z (e7 Z Z Z) (a7 Z (b5 Z Z (e7 Z Z Z) (a7 Z (b5 Z Z (b9 Z Z) (a7 Z (b5 Z Z (b9 Z Z) (b4 (hK5 _ ?_)))))))))))
  clear hK5 K5
  refine c1 (λK6 hK6=>?_)
  refine c1 (λK7 hK7=>?_)
  refine b6 (a7 Z (b5 Z Z (b8 Z Z) (a7 Z (b5 Z Z (d01 Y Z Z hv1) ?_))))
  refine a7 Z (b5 Z Z (b8 Z Z) (D9 Z Z Z (λh2=>?_) (λh2=>?_)))
  ·try rw [h2]
   try simp only [rfb] at h2
   refine l7 Z Z Z Z Z Z (l7 Z Z Z Z Z Z (l7 Z Z Z Z Z Z (a7 Z (b5 Z Z (z6 Z Z Z) (a7 Z (b5 Z Z (b8 Z Z) (l7 Z Z Z Z Z Z (l7 Z Z Z Z Z Z (l7 Z Z Z Z Z Z (l7 Z Z Z Z Z Z (a7 Z (b5 Z Z (z6 Z Z Z) (b4 (hK7 _ ?_))))))))))))))
   clear hK7 K7
   refine M8 Z ?_
   refine c1 (λK8 hK8=>?_)
   refine b6 (a7 Z (b5 Z Z (b9 Z Z) (a7 Z (b5 Z Z (b9 Z Z) (b4 (hK8 _ ?_))))))
   clear hK8 K8
   exact c8m
  ·try rw [h2]
   try simp only [rfb] at h2
   refine m7 Z Z Z (b5 Z Z (b8 Z Z) (m7 Z Z Z (b5 Z Z (i7 Z (ArgsOK.of Z) (H4 _ _ _) Z) ?_)))
   refine m7 Z Z Z (b5 Z Z (a1d Z Z) (a7 Z (b5 Z Z (B7 Z Z Z) (a7 Z (b5 Z Z (b8 Z Z) (D9 Z Z Z (λh3=>?_) (λh3=>?_)))))))
   ·try rw [h3]
    try simp only [rfb] at h3
    refine l7 Z Z Z Z Z Z (l7 Z Z Z Z Z Z (l7 Z Z Z Z Z Z (l7 Z Z Z Z Z Z (a7 Z (b5 Z Z (z6 Z Z Z) (b4 (hK7 _ ?_)))))))
    clear hK7 K7
    refine M8 Z ?_
    refine c1 (λK9 hK9=>?_)
    refine b6 (a7 Z (b5 Z Z (b9 Z Z) (a7 Z (b5 Z Z (b9 Z Z) (b4 (hK9 _ ?_))))))
    clear hK9 K9
    exact c8m
   ·try rw [h3]
    try simp only [rfb] at h3
    refine m7 Z Z Z (b5 Z Z (b8 Z Z) (m7 Z Z Z (b5 Z Z (i7 Z (ArgsOK.of Z) (E7 _ J J) Z) (m7 Z Z Z (b5 Z Z (b8 Z Z) (m7 Z Z Z (b5 Z Z (A5 Z Z Z Z) (a7 Z (b5 Z Z (B7 Z Z Z) (b4 (hK7 _ ?_)))))))))))
    clear hK7 K7
    refine l1 Z (λh4=>?_) (λh4=>?_)
    ·try rw [h4]
     try simp only [rfb] at h4
     refine c1 (λK10 hK10=>?_)
     refine b6 (a7 Z (b5 Z Z (b9 Z Z) (a7 Z (b5 Z Z (b9 Z Z) (b4 (hK10 _ ?_))))))
     clear hK10 K10
     exact c8m
    ·try rw [h4]
     try simp only [rfb] at h4
     refine r7 (hK6 _ ?_)
     clear hK6 K6
     refine c1 (λK11 hK11=>?_)
     refine b6 (a7 Z (b5 Z Z (b8 Z Z) (a7 Z (b5 Z Z (b9 Z Z) (a7 Z (b5 Z Z (b9 Z Z) (b4 (hK11 _ ?_))))))))
     clear hK11 K11
     refine d7 (s1 Z Z Z Z (b3 (i8 ?_) (b3 (i8 ?_) d9)))
     all_goals (first | (rw [(a24 (s:=s) J).1];done) | (rw [(a24 (s:=s) J).2];done) | (rw [(a5y (s:=s) J (hc1.symm.trans h2)).1];done) | (rw [(a5y (s:=s) J (hc1.symm.trans h2)).2];done) | (rw [(a8D (s:=s) J h3).1];done) | (rw [(a8D (s:=s) J h3).2];done) | (rw [(b2e (s:=s) J (hc1.symm.trans h2) h4).1];done) | (rw [(b2e (s:=s) J (hc1.symm.trans h2) h4).2];done) | (rw [(a8E (s:=s) J (hc1.symm.trans h2) h3 h4).1];done) | (rw [(a8E (s:=s) J (hc1.symm.trans h2) h3 h4).2];done))
theorem b1S (s:ByteArray) (hs:s.size<=9223372036854775807):Ctr Tryz.prog 125 [.v (.string s)] (.many [.v (.int .i64 (nmN s)),.v (.bool (nmK s))]):=by
 have hb0:s9 s 0=((s.data.toList.getD ((0:Int)).toNat 0).toNat:Int):=rfl
 refine Ctr.of (n:=58) G Tryz.func125 Z Y Z Z Z (λw0=>?_)
 refine c1 (λK1 hK1=>?_)
 refine b6 (a7 Z (b5 Z Z (b9 Z Z) (a7 Z (b5 Z Z (b9 Z Z) (b4 (hK1 _ ?_))))))
 clear hK1 K1
 refine c1 (λK2 hK2=>?_)
 refine b6 (a7 Z (b5 Z Z (b8 Z Z) (a7 Z (b5 Z Z (b9 Z Z) (b4 (hK2 _ ?_))))))
 clear hK2 K2
 refine c11 (nt:=58) (λ(a:ByteArray)=>[(4,.v (.string a)),(0,.v (.string s))]) (λ(a:ByteArray)=>[]) (λa=>a=r8 s) 30 [0,4] [] ?_ (λa ha=>?_)
 ·skip
  refine c1 (λK4 hK4=>?_)
  refine b6 (a7 Z (b5 Z Z (b8 Z Z) (a7 Z (b5 Z Z (p9 G Z Z Z) (a7 Z (b5 Z Z (u4 Z Z Z Z) (a7 Z (b5 Z Z (b8 Z Z) (D9 Z Z Z (λh1=>?_) (λh1=>?_))))))))))
  ·try rw [h1]
   try simp only [rfb] at h1
   refine m7 Z Z Z (b5 Z Z (b8 Z Z) (m7 Z Z Z (b5 Z Z (Q9 G Z Z Z Z J J) (m7 Z Z Z (b5 Z Z (u4 Z Z Z Z) (a7 Z (b5 Z Z (z6 Z Z Z) (b4 (hK4 _ ?_)))))))))
   clear hK4 K4
   refine l1 Z (λh2=>?_) (λh2=>?_)
   ·try rw [h2]
    try simp only [rfb] at h2
    refine b6 (a7 Z (b5 Z Z (b8 Z Z) (a7 Z (b5 Z Z (z8 G Z Z Z Z Z J J J) (a7 Z (b5 Z Z (b9 Z Z) ?_))))))
    exact b4 ⟨(s.extract ((1:Int)).toNat ((s.size:Int)).toNat),c8Y J (by first | assumption | omega),Z,Z,Z,Z⟩
   ·try rw [h2]
    try simp only [rfb] at h2
    exact r7 ⟨s,c3S J,Z,Z,Z,Z⟩
  ·try rw [h1]
   try simp only [rfb] at h1
   refine l7 Z Z Z Z Z Z (l7 Z Z Z Z Z Z (l7 Z Z Z Z Z Z (a7 Z (b5 Z Z (B7 Z Z Z) (b4 (hK4 _ ?_))))))
   clear hK4 K4
   refine Y6 Z ?_
   exact r7 ⟨s,c3S J,Z,Z,Z,Z⟩
 ·skip
  subst ha
  have hbl:=c6v (s:=s)
  refine c1 (λK5 hK5=>?_)
  refine c1 (λK6 hK6=>?_)
  refine b6 (a7 Z (b5 Z Z (b8 Z Z) (a7 Z (b5 Z Z (p9 G Z Z Z) (a7 Z (b5 Z Z (i7 Z (ArgsOK.of Z) (a01 _ _ _) Z) (a7 Z (b5 Z Z (a1d Z Z) (b4 (hK6 _ ?_))))))))))
  clear hK6 K6
  refine l1 Z (λh3=>?_) (λh3=>?_)
  ·try rw [h3]
   try simp only [rfb] at h3
   refine c1 (λK7 hK7=>?_)
   refine b6 (a7 Z (b5 Z Z (b9 Z Z) (a7 Z (b5 Z Z (b9 Z Z) (b4 (hK7 _ ?_))))))
   clear hK7 K7
   refine d7 (s1 Z Z Z Z (b3 (i8 ?_) (b3 (i8 ?_) d9)))
   all_goals clear hK5 K5
   all_goals (first | (rw [(b1E (s:=s) h3).1];done) | (rw [(b1E (s:=s) h3).2];done) | (rw [(b1F (s:=s) (i:=i) J (by simp only [a1G,Bool.and_eq_false_iff,decide_eq_false_iff_not];omega)).1];done) | (rw [(b1F (s:=s) (i:=i) J (by simp only [a1G,Bool.and_eq_false_iff,decide_eq_false_iff_not];omega)).2];done) | (rw [(a27 (s:=s) (n:=-dV (r8 s) i) (by have e:i=(r8 s).size:=J;rw [a25 J,e]) (by assumption)).1];done) | (rw [(a27 (s:=s) (n:=-dV (r8 s) i) (by have e:i=(r8 s).size:=J;rw [a25 J,e]) (by assumption)).2];done) | (rw [(a27 (s:=s) (n:=dV (r8 s) i) (by have e:i=(r8 s).size:=J;rw [a26 J,e]) (by assumption)).1];done) | (rw [(a27 (s:=s) (n:=dV (r8 s) i) (by have e:i=(r8 s).size:=J;rw [a26 J,e]) (by assumption)).2];done) | (rw [(a29 (s:=s) (n:=-dV (r8 s) i) (i:=i) h3 J hinv.2 (by have e:i=(r8 s).size:=J;rw [a25 J,e]) (by assumption)).1];done) | (rw [(a29 (s:=s) (n:=-dV (r8 s) i) (i:=i) h3 J hinv.2 (by have e:i=(r8 s).size:=J;rw [a25 J,e]) (by assumption)).2];done) | (rw [(a29 (s:=s) (n:=dV (r8 s) i) (i:=i) h3 J hinv.2 (by have e:i=(r8 s).size:=J;rw [a26 J,e]) (by assumption)).1];done) | (rw [(a29 (s:=s) (n:=dV (r8 s) i) (i:=i) h3 J hinv.2 (by have e:i=(r8 s).size:=J;rw [a26 J,e]) (by assumption)).2];done))
  ·try rw [h3]
   try simp only [rfb] at h3
   have hin:=v6.mp h3
   refine r7 (hK5 _ ?_)
   clear hK5 K5
   refine c1 (λK8 hK8=>?_)
   refine b6 (a7 Z (b5 Z Z (b9 Z Z) (b4 (hK8 _ ?_))))
   clear hK8 K8
   refine c1 (λK9 hK9=>?_)
   refine c1 (λK10 hK10=>?_)
   refine b6 (a7 Z (b5 Z Z (b9 Z Z) (b4 (hK10 _ ?_))))
   clear hK10 K10
   refine p8 ?_
   refine i6 [0,4] [] (λ(i:Nat)=>[(5,.v (.int .i64 (dV (r8 s) i))),(6,.v (.int .i64 (i:Int)))]) (λ(i:Nat)=>[]) (λ(i:Nat)=>i<=(r8 s).size/\∀j,j < i→a1G (r8 s) j=true) (λ(i:Nat)=>(r8 s).size - i) 0 Z Z ?_ ?_ ?_ ?_
   ·exact T5
   ·exact Z8
   ·exact trivial
   ·intro i hinv
    have hi:i<=(r8 s).size:=hinv.1
    have hdl:=c3P hinv.2
    have hbi:s9 (r8 s) i=(((r8 s).data.toList.getD ((i:Int)).toNat 0).toNat:Int):=rfl
    simp only [List.cons_append,List.nil_append]
    refine c1 (λK11 hK11=>?_)
    refine c1 (λK12 hK12=>?_)
    refine b6 (a7 Z (b5 Z Z (b8 Z Z) (a7 Z (b5 Z Z (b8 Z Z) (a7 Z (b5 Z Z (p9 G Z Z Z) (a7 Z (b5 Z Z (u4 Z Z Z Z) (b4 (hK12 _ ?_))))))))))
    clear hK12 K12
    refine l1 Z (λh4=>?_) (λh4=>?_)
    ·try rw [h4]
     try simp only [rfb] at h4
     refine r7 (hK11 _ ?_)
     clear hK11 K11
     refine c1 (λK13 hK13=>?_)
     refine p8 ?_
     refine c1 (λK14 hK14=>?_)
     refine c1 (λK15 hK15=>?_)
     refine b6 (a7 Z (b5 Z Z (b8 Z Z) (a7 Z (b5 Z Z (b8 Z Z) (a7 Z (b5 Z Z (Q9 G Z Z Z Z J J) ?_))))))
     refine a7 Z (b5 Z Z (u4 Z Z Z Z) (a7 Z (b5 Z Z (b8 Z Z) (D9 Z Z Z (λh5=>?_) (λh5=>?_)))))
     ·try rw [h5]
      try simp only [rfb] at h5
      refine l7 Z Z Z Z Z Z (l7 Z Z Z Z Z Z (l7 Z Z Z Z Z Z (l7 Z Z Z Z Z Z (a7 Z (b5 Z Z (z6 Z Z Z) (b4 (hK15 _ ?_)))))))
      clear hK15 K15
      refine M8 Z ?_
      refine c1 (λK16 hK16=>?_)
      refine b6 (a7 Z (b5 Z Z (b9 Z Z) (a7 Z (b5 Z Z (b9 Z Z) (b4 (hK16 _ ?_))))))
      clear hK16 K16
      exact d0t
     ·try rw [h5]
      try simp only [rfb] at h5
      refine m7 Z Z Z (b5 Z Z (b8 Z Z) (m7 Z Z Z (b5 Z Z (b8 Z Z) (m7 Z Z Z (b5 Z Z (Q9 G Z Z Z Z J J) (m7 Z Z Z (b5 Z Z (u4 Z Z Z Z) (a7 Z (b5 Z Z (B7 Z Z Z) (b4 (hK15 _ ?_)))))))))))
      clear hK15 K15
      refine l1 Z (λh6=>?_) (λh6=>?_)
      ·try rw [h6]
       try simp only [rfb] at h6
       refine c1 (λK17 hK17=>?_)
       refine b6 (a7 Z (b5 Z Z (b9 Z Z) (a7 Z (b5 Z Z (b9 Z Z) (b4 (hK17 _ ?_))))))
       clear hK17 K17
       exact d0t
      ·try rw [h6]
       try simp only [rfb] at h6
       refine r7 (hK14 _ ?_)
       clear hK14 K14
       refine b6 (a7 Z (b5 Z Z (b8 Z Z) (a7 Z ?_)))
       first | refine b5 Z Z (q9 Z Z Z Z J J) ?_ | refine b5 Z Z (s6 Z Z Z Z) ?_
       refine a7 Z (b5 Z Z (b8 Z Z) (a7 Z (b5 Z Z (b8 Z Z) (a7 Z (b5 Z Z (Q9 G Z Z Z Z J J) (a7 Z ?_))))))
       first | refine b5 Z Z (q9 Z Z Z Z J J) ?_ | refine b5 Z Z (s6 Z Z Z Z) ?_
       refine a7 Z ?_
       first | refine b5 Z Z (a8z G Z Z Z Z J J) ?_ | refine b5 Z Z (a2y G Z Z Z Z) ?_
       refine a7 Z ?_
       first | refine b5 Z Z (q9 Z Z Z Z J J) ?_ | refine b5 Z Z (s6 Z Z Z Z) ?_
       refine a7 Z (b5 Z Z (b9 Z Z) (b4 (hK13 _ ?_)))
       clear hK13 K13
       refine b6 (a7 Z (b5 Z Z (b8 Z Z) (a7 Z ?_)))
       first | refine b5 Z Z (q9 Z Z Z Z J J) ?_ | refine b5 Z Z (s6 Z Z Z Z) ?_
       refine a7 Z (b5 Z Z (b9 Z Z) ?_)
       refine b4 ⟨(i+1),?_,?_,⟨⟨_,Z,by (first | rfl | exact congrArg (λv=>AV.v (.int .i64 v)) (b6U (t:=r8 s) (i:=i) J J J J))⟩,Z,⟨⟨_,Z,by (first | rfl | exact congrArg (λv=>AV.v (.int .i64 v)) (b6U (t:=r8 s) (i:=i) J J J J))⟩,Z,trivial⟩⟩,trivial,Z,Z,Z⟩
       ·exact ⟨by omega,s4 hinv.2 (by simp only [a1G,Bool.and_eq_true,decide_eq_true_eq];omega)⟩
       ·omega
    ·try rw [h4]
     try simp only [rfb] at h4
     refine J0 (hK9 _ ?_)
     clear hK11 K11 hK9 K9
     refine c1 (λK18 hK18=>?_)
     refine c1 (λK19 hK19=>?_)
     refine b6 (a7 Z (b5 Z Z (b8 Z Z) (a7 Z (b5 Z Z (p9 G Z Z Z) (a7 Z (b5 Z Z (b8 Z Z) (a7 Z (b5 Z Z (p9 G Z Z Z) (a7 Z (b5 Z Z (u4 Z Z Z Z) (b4 (hK19 _ ?_))))))))))))
     clear hK19 K19
     refine l1 Z (λh7=>?_) (λh7=>?_)
     ·try rw [h7]
      try simp only [rfb] at h7
      refine b6 (a7 Z (b5 Z Z (b8 Z Z) (a7 Z (b5 Z Z (c3J Z Z J J) (a7 Z (b5 Z Z (b9 Z Z) (b4 (hK18 _ ?_))))))))
      clear hK18 K18
      refine c1 (λK20 hK20=>?_)
      refine c1 (λK21 hK21=>?_)
      refine b6 (a7 Z (b5 Z Z (b8 Z Z) (a7 Z (b5 Z Z (i7 Z (ArgsOK.of Z) (A1 _ J J) Z) (a7 Z (b5 Z Z (b8 Z Z) (a7 Z (b5 Z Z (A5 Z Z Z Z) (b4 (hK21 _ ?_))))))))))
      clear hK21 K21
      refine l1 Z (λh8=>?_) (λh8=>?_)
      ·try rw [h8]
       try simp only [rfb] at h8
       refine c1 (λK22 hK22=>?_)
       refine b6 (a7 Z (b5 Z Z (b9 Z Z) (a7 Z (b5 Z Z (b9 Z Z) (b4 (hK22 _ ?_))))))
       clear hK22 K22
       refine d7 (s1 Z Z Z Z (b3 (i8 ?_) (b3 (i8 ?_) d9)))
       all_goals clear hK20 K20
       all_goals (first | (rw [(b1E (s:=s) h3).1];done) | (rw [(b1E (s:=s) h3).2];done) | (rw [(b1F (s:=s) (i:=i) J (by simp only [a1G,Bool.and_eq_false_iff,decide_eq_false_iff_not];omega)).1];done) | (rw [(b1F (s:=s) (i:=i) J (by simp only [a1G,Bool.and_eq_false_iff,decide_eq_false_iff_not];omega)).2];done) | (rw [(a27 (s:=s) (n:=-dV (r8 s) i) (by have e:i=(r8 s).size:=J;rw [a25 J,e]) (by assumption)).1];done) | (rw [(a27 (s:=s) (n:=-dV (r8 s) i) (by have e:i=(r8 s).size:=J;rw [a25 J,e]) (by assumption)).2];done) | (rw [(a27 (s:=s) (n:=dV (r8 s) i) (by have e:i=(r8 s).size:=J;rw [a26 J,e]) (by assumption)).1];done) | (rw [(a27 (s:=s) (n:=dV (r8 s) i) (by have e:i=(r8 s).size:=J;rw [a26 J,e]) (by assumption)).2];done) | (rw [(a29 (s:=s) (n:=-dV (r8 s) i) (i:=i) h3 J hinv.2 (by have e:i=(r8 s).size:=J;rw [a25 J,e]) (by assumption)).1];done) | (rw [(a29 (s:=s) (n:=-dV (r8 s) i) (i:=i) h3 J hinv.2 (by have e:i=(r8 s).size:=J;rw [a25 J,e]) (by assumption)).2];done) | (rw [(a29 (s:=s) (n:=dV (r8 s) i) (i:=i) h3 J hinv.2 (by have e:i=(r8 s).size:=J;rw [a26 J,e]) (by assumption)).1];done) | (rw [(a29 (s:=s) (n:=dV (r8 s) i) (i:=i) h3 J hinv.2 (by have e:i=(r8 s).size:=J;rw [a26 J,e]) (by assumption)).2];done))
      ·try rw [h8]
       try simp only [rfb] at h8
       refine r7 (hK20 _ ?_)
       clear hK20 K20
       refine c1 (λK23 hK23=>?_)
       refine b6 (a7 Z (b5 Z Z (b8 Z Z) (a7 Z (b5 Z Z (b9 Z Z) (a7 Z (b5 Z Z (b9 Z Z) (b4 (hK23 _ ?_))))))))
       clear hK23 K23
       exact d0u
     ·try rw [h7]
      try simp only [rfb] at h7
      refine r7 (hK18 _ ?_)
      clear hK18 K18
      refine c1 (λK24 hK24=>?_)
      refine c1 (λK25 hK25=>?_)
      refine b6 (a7 Z (b5 Z Z (b8 Z Z) (a7 Z (b5 Z Z (i7 Z (ArgsOK.of Z) (A1 _ J J) Z) (a7 Z (b5 Z Z (b8 Z Z) (a7 Z (b5 Z Z (A5 Z Z Z Z) (b4 (hK25 _ ?_))))))))))
      clear hK25 K25
      refine l1 Z (λh9=>?_) (λh9=>?_)
      ·try rw [h9]
       try simp only [rfb] at h9
       refine c1 (λK26 hK26=>?_)
       refine b6 (a7 Z (b5 Z Z (b9 Z Z) (a7 Z (b5 Z Z (b9 Z Z) (b4 (hK26 _ ?_))))))
       clear hK26 K26
       refine d7 (s1 Z Z Z Z (b3 (i8 ?_) (b3 (i8 ?_) d9)))
       all_goals clear hK24 K24
       all_goals (first | (rw [(b1E (s:=s) h3).1];done) | (rw [(b1E (s:=s) h3).2];done) | (rw [(b1F (s:=s) (i:=i) J (by simp only [a1G,Bool.and_eq_false_iff,decide_eq_false_iff_not];omega)).1];done) | (rw [(b1F (s:=s) (i:=i) J (by simp only [a1G,Bool.and_eq_false_iff,decide_eq_false_iff_not];omega)).2];done) | (rw [(a27 (s:=s) (n:=-dV (r8 s) i) (by have e:i=(r8 s).size:=J;rw [a25 J,e]) (by assumption)).1];done) | (rw [(a27 (s:=s) (n:=-dV (r8 s) i) (by have e:i=(r8 s).size:=J;rw [a25 J,e]) (by assumption)).2];done) | (rw [(a27 (s:=s) (n:=dV (r8 s) i) (by have e:i=(r8 s).size:=J;rw [a26 J,e]) (by assumption)).1];done) | (rw [(a27 (s:=s) (n:=dV (r8 s) i) (by have e:i=(r8 s).size:=J;rw [a26 J,e]) (by assumption)).2];done) | (rw [(a29 (s:=s) (n:=-dV (r8 s) i) (i:=i) h3 J hinv.2 (by have e:i=(r8 s).size:=J;rw [a25 J,e]) (by assumption)).1];done) | (rw [(a29 (s:=s) (n:=-dV (r8 s) i) (i:=i) h3 J hinv.2 (by have e:i=(r8 s).size:=J;rw [a25 J,e]) (by assumption)).2];done) | (rw [(a29 (s:=s) (n:=dV (r8 s) i) (i:=i) h3 J hinv.2 (by have e:i=(r8 s).size:=J;rw [a26 J,e]) (by assumption)).1];done) | (rw [(a29 (s:=s) (n:=dV (r8 s) i) (i:=i) h3 J hinv.2 (by have e:i=(r8 s).size:=J;rw [a26 J,e]) (by assumption)).2];done))
      ·try rw [h9]
       try simp only [rfb] at h9
       refine r7 (hK24 _ ?_)
       clear hK24 K24
       refine c1 (λK27 hK27=>?_)
       refine b6 (a7 Z (b5 Z Z (b8 Z Z) (a7 Z (b5 Z Z (b9 Z Z) (a7 Z (b5 Z Z (b9 Z Z) (b4 (hK27 _ ?_))))))))
       clear hK27 K27
       exact d0u
end Go.Proofs.YtdhckhjphmjniaaGreatDoor
