/- Texts merged into one: M12, M13, M15, M16, M17, Q4, P1, P2. -/
import Derived.Test.YtdhckhjphmjniaaGreatDoorPFnScriptF
set_option maxHeartbeats 4000000
set_option linter.unusedSimpArgs false
set_option linter.unusedVariables false
set_option maxRecDepth 20000
namespace Go.Proofs.YtdhckhjphmjniaaGreatDoor
open Go Go.Rf
theorem a5s (n:Nat) (hn:n<=12):CtrE (α:=Int) Tryz.prog 216 [.v (.int .u64 (n:Int))] (λy=>(.one (.v (.int .i64 y)))):=by
 refine CtrE.of (n:=25) G Tryz.func216 Z a8 Z Z Z (λw0=>?_)
 refine zcd (λh1=>?_) (λh1=>?_)
 ·exfalso;omega
 refine zcd (λh2=>?_) (λh2=>?_)
 ·exfalso;omega
 refine zcd (λh3=>?_) (λh3=>?_)
 ·exfalso;omega
 refine vm3 ?_
 refine c6C ?_
 refine p6 ?_
 refine b5 Z Z (O9 G Z Z Z Z J (Int.lt_of_le_of_lt (show (n:Int)<=12 by omega) (by decide))) ?_
 refine p6 ?_
 refine c6C ?_
 refine vm7 ?_
 refine zgo ?_
 refine d8 (c5b (_) (O3 Z (j8 Z)))
 all_goals (rfl)
theorem a7J (n:Nat) (hn:n<=12):CtrE (α:=Int) Tryz.prog 193 [.v (.int .u64 (n:Int))] (λy=>(.one (.v (.int .i64 y)))):=by
 refine CtrE.of (n:=8) G Tryz.func193 Z a8 Z Z Z (λw0=>?_)
 refine zwf ?_
 refine zgo ?_
 refine a7 Z (b0c 0 Z Z Z (ArgsOK.of Z) (a5s n hn) (λ_=>Z) Z (λy1=>?_))
 refine zgo ?_
 refine d8 (c5b (_) (O3 Z (j8 Z)))
 all_goals (rfl)
theorem N1 (d:List Wtr) (hd:b33 d) (hn:d.length<=12):CtrM Tryz.prog 269 [.own 0,.v (.int .i64 0),.v (.int .i64 (d.length:Int)),.v (.func (.func 176) #[] #[])] [.row 76 2 (d.map j9)] (.many []) [some (.row 76 2 ((srtW d).map j9))]:=by
 refine CtrM.of (n:=53) (k:=1) G Tryz.func269 Z a8 Z Z Z Z Z Z Z (λw0 _ hpin=>?_)
 refine s9 (J6 (Gh.fnc (t:=3) Z) ?_)
 refine zgo ?_
 refine i7 [0,1,2,3] [] (λ(i:Nat)=>[(8,.v (.int .i64 (i:Int)))]) (λ(i:Nat)=>[(0,some (.row 76 2 ((a81 d i).map j9)))]) (λ(i:Nat)=>1<=i/\(i<=d.length∨i=1)) (λ(i:Nat)=>d.length - i) 1 Z Z ?_ ?_ ?_ ?_
 ·exact ⟨Nat.le_refl _,.inr Z⟩
 ·exact a84
 ·exact ⟨⟨_,Z,by (rw [c5m])⟩,Z,Z,trivial⟩
 intro i hi
 refine vm2 ?_
 refine zcd (λh1=>?_) (λh1=>?_)
 ·have hM:=c9z hd (i:=i) J
  have hPl:=hM.len
  have hRl:(d.drop (i+1)).length=d.length - (i+1):=List.length_drop
  refine zgo ?_
  refine i7 [0,1,2,3,8] [] (λ(j:Nat)=>[(9,.v (.int .i64 (j:Int)))]) (λ(j:Nat)=>[(0,some (.row 76 2 ((a3C (srtW (d.take i)) (d.getD i default) (d.drop (i+1)) j).map j9)))]) (λ(j:Nat)=>j<=i/\∀t,j<=t→t < i→lessW (d.getD i default) ((srtW (d.take i)).getD t default)=true) (λ(j:Nat)=>j) i Z Z ?_ ?_ ?_ ?_
  ·exact ⟨Nat.le_refl _,λt h1 h2=>by omega⟩
  ·exact a84
  ·exact ⟨⟨_,Z,by (rw [b8U J])⟩,Z,Z,trivial⟩
  intro j hj
  have htn:0 < j→((j:Int) - 1).toNat=j - 1:=λ_=>J
  refine vm2 ?_
  refine zgd ?_
  refine zcd (λh2=>?_) (λh2=>?_)
  ·refine c8t ?_
   refine c8t ?_
   refine b02 ?_
   refine g8 Z Z (b2k Z Z (ArgsOK.of Z) Z (B5 _ _) Z) ?_
   refine zcd (λh3=>?_) (λh3=>?_)
   ·refine zgo ?_
    apply C4 [0,1,2,3,8,9] [0] 1 18 [] mixed a8 Z Z (λ_ h=>znk h)
    ·intro r0
     refine a06 ?_
     first | refine d5 4 Z a8 a8 Z Z Z Z (p5 Z Z Z Z J J) ?_ | refine d5 4 Z a8 a8 Z Z Z Z (s3 Z Z Z Z) ?_
     refine zsa 5 ?_
     refine zsa 6 ?_
     first | refine d5 7 Z a8 a8 Z Z Z Z (p5 Z Z Z Z J J) ?_ | refine d5 7 Z a8 a8 Z Z Z Z (s3 Z Z Z Z) ?_
     refine zsa 10 ?_
     refine zsa 11 ?_
     refine b7 (rs:=[8,12]) a8 Z (AllB.cons ?_ (AllB.cons ?_ AllB.nil))
     ·first | refine f9 [] Z Z (b5 Z Z (c7 G Z Z Z Z Z J a8V) (b4 ⟨Z,?_⟩)) | refine f9 [] Z Z (b5 Z Z (c7 G Z Z Z Z Z J a8U) (b4 ⟨Z,?_⟩)) | refine f9 [] Z Z (b5 Z Z (c7 G Z Z Z Z Z J a8T) (b4 ⟨Z,?_⟩))
      refine b7 (rs:=[9,12]) a8 Z (AllB.cons ?_ (AllB.cons ?_ AllB.nil))
      ·first | refine f9 [] Z Z (b5 Z Z (f6 G Z Z Z Z (a0y J) Z) (b4 ⟨Z,?_⟩)) | refine f9 [] Z Z (b5 Z Z (f6 G Z Z Z Z (a05 J J) Z) (b4 ⟨Z,?_⟩)) | refine f9 [] Z Z (b5 Z Z (f6 G Z Z Z Z (a1P J J) Z) (b4 ⟨Z,?_⟩))
       refine b7 (rs:=[12]) a8 Z (AllB.cons ?_ AllB.nil)
       first | refine f9 [] Z Z (b5 Z Z (c7 G Z Z Z Z Z J a8V) (b4 ⟨Z,?_⟩)) | refine f9 [] Z Z (b5 Z Z (c7 G Z Z Z Z Z J a8U) (b4 ⟨Z,?_⟩)) | refine f9 [] Z Z (b5 Z Z (c7 G Z Z Z Z Z J a8T) (b4 ⟨Z,?_⟩))
       refine b7 (rs:=[13]) a8 Z (AllB.cons ?_ AllB.nil)
       exact ws2
      exact c4c
     first | refine f9 [] Z Z (b5 Z Z (c7 G Z Z Z Z Z J a8V) (b4 ⟨Z,?_⟩)) | refine f9 [] Z Z (b5 Z Z (c7 G Z Z Z Z Z J a8U) (b4 ⟨Z,?_⟩)) | refine f9 [] Z Z (b5 Z Z (c7 G Z Z Z Z Z J a8T) (b4 ⟨Z,?_⟩))
     refine b7 (rs:=[8,13]) a8 Z (AllB.cons ?_ (AllB.cons ?_ AllB.nil))
     ·exact c4c
     first | refine f9 [] Z Z (b5 Z Z (f6 G Z Z Z Z (a0y J) Z) (b4 ⟨Z,?_⟩)) | refine f9 [] Z Z (b5 Z Z (f6 G Z Z Z Z (a05 J J) Z) (b4 ⟨Z,?_⟩)) | refine f9 [] Z Z (b5 Z Z (f6 G Z Z Z Z (a1P J J) Z) (b4 ⟨Z,?_⟩))
     refine b7 (rs:=[8]) a8 Z (AllB.cons ?_ AllB.nil)
     first | refine f9 [] Z Z (b5 Z Z (c7 G Z Z Z Z Z J a8V) (b4 ⟨Z,?_⟩)) | refine f9 [] Z Z (b5 Z Z (c7 G Z Z Z Z Z J a8U) (b4 ⟨Z,?_⟩)) | refine f9 [] Z Z (b5 Z Z (c7 G Z Z Z Z Z J a8T) (b4 ⟨Z,?_⟩))
     refine b7 (rs:=[9]) a8 Z (AllB.cons ?_ AllB.nil)
     exact ws2
    refine zgo ?_
    refine ⟨(j - 1),?_,?_,⟨⟨_,Z,by (congr 2;omega)⟩,Z,trivial⟩,⟨⟨_,Z,by (exact congrArg (λz=>Row.row _ _ z) (by rw [htn J];exact b7m J J))⟩,Z,Z,trivial⟩,Z,Z,Z⟩
    ·exact ⟨by omega,λt h1 h2=>(by by_cases e:t=j - 1<;>first | (subst e;exact a1N.mp J) | exact hj.2 t J h2)⟩
    omega
   refine zgo ?_
   refine ⟨(i+1),?_,?_,⟨⟨_,Z,by rfl⟩,Z,trivial⟩,⟨⟨_,Z,by (rw [b1K J,← b38 J hM.pw hM.dif (λt ht ht2=>hj.2 t ht J) c3v])⟩,Z,Z,trivial⟩,Z,Z,Z⟩
   ·omega
   omega
  refine zwf ?_
  refine zgo ?_
  refine ⟨(i+1),?_,?_,⟨⟨_,Z,by rfl⟩,Z,trivial⟩,⟨⟨_,Z,by (rw [b1K J,← b38 J hM.pw hM.dif (λt ht ht2=>hj.2 t ht J) c3v])⟩,Z,Z,trivial⟩,Z,Z,Z⟩
  ·omega
  omega
 refine G2 (a4Y Z Z Z Z d9 Z (AftOK.stays Z ?_ Z AftOK.nil))
 all_goals (
  have e:a81 d i=srtW d:=b8T J
  rw [e]
 )
theorem U0 (d:List Wtr) (hd:b33 d) (hn:d.length<=12) (lim:Int):CtrM Tryz.prog 228 [.own 0,.v (.int .i64 0),.v (.int .i64 (d.length:Int)),.v (.int .i64 lim),.v (.func (.func 176) #[] #[])] [.row 76 2 (d.map j9)] (.many []) [some (.row 76 2 ((srtW d).map j9))]:=by
 refine CtrM.of (n:=148) (k:=1) G Tryz.func228 Z a8 Z Z Z Z Z Z Z (λw0 _ hpin=>?_)
 refine zgo ?_
 refine i7 [0,4] [0] (λ(u:Unit)=>[(1,.v (.int .i64 0)),(2,.v (.int .i64 (d.length:Int))),(3,.v (.int .i64 lim)),(10,.v (.bool true)),(11,.v (.bool true))]) (λ(u:Unit)=>[]) (λ(u:Unit)=>True) (λ(u:Unit)=>0) () Z Z ?_ ?_ ?_ ?_
 ·first | trivial | omega | (refine ⟨?_,?_⟩<;>omega)
 ·exact ⟨⟨_,Z,by (first | rfl | (simp;done) | (simp;omega))⟩,Z,⟨⟨_,Z,by (first | rfl | (simp;done) | (simp;omega))⟩,Z,⟨⟨_,Z,by (first | rfl | (simp;done) | (simp;omega))⟩,Z,⟨⟨_,Z,by (first | rfl | (simp;done) | (simp;omega))⟩,Z,⟨⟨_,Z,by (first | rfl | (simp;done) | (simp;omega))⟩,Z,trivial⟩⟩⟩⟩⟩
 ·exact trivial
 intro u hinv
 refine vm2 ?_
 refine zcd (λh1=>?_) (λh1=>?_)
 ·refine vm3 ?_
  refine L8 1 [0] Z Z Z (N1 d hd hn) Z (RowsIn.cons Z RowsIn.nil) Z Z Z ?_
  refine zgo ?_
  refine d8 (a4Y Z Z Z Z d9 Z (AftOK.stays Z ?_ Z AftOK.nil))
  all_goals (rfl)
 exfalso;omega
theorem N2 (d:List Wtr) (hd:b33 d) (hn:d.length<=12):CtrM Tryz.prog 175 [.own 0,.v (.func (.func 176) #[] #[])] [.row 76 2 (d.map j9)] (.many []) [some (.row 76 2 ((srtW d).map j9))]:=by
 refine CtrM.of (n:=14) (k:=1) G Tryz.func175 Z a8 Z Z Z Z Z Z Z (λw0 _ hpin=>?_)
 refine vm3 ?_
 refine c6C ?_
 refine a7 Z (b0c 1 Z Z Z (ArgsOK.of Z) (a7J d.length hn) (λ_=>Z) Z (λy1=>?_))
 refine zgo ?_
 refine a7 Z (L8 1 [0] Z Z Z (U0 d hd hn _) Z (RowsIn.cons Z RowsIn.nil) Z Z Z (b4 (a4Y Z Z Z Z d9 Z (AftOK.stays Z ?_ Z AftOK.nil))))
 all_goals (rfl)
theorem V0 (q:Que) (hF:QF q):Ctr Tryz.prog 117 [.agg [.lst 3 (q.sl.map j5),.lst 2 (q.wa.map j9)]] (.one (.fr 3 1 ((C7 q).map Rf.r7))):=by
 have hl4:=hF.sl.len
 have hwn:=hF.wn8
 have cS:=N2 (pnL q 4) (b59 hF 4 (Nat.le_refl _)) (by have:=@b2L q 4;omega)
 rw [b5j hF] at cS
 refine Ctr.of (n:=50) G Tryz.func117 Z a8 Z Z Z (λw0=>?_)
 refine n8 0 Z (λ_=>Z) (λu0=>?_)
 refine vm1 ?_
 refine vm3 ?_
 refine b3b ?_
 refine vm3 ?_
 refine vm4 ?_
 refine p6 ?_
 refine m5 G 3 Z Z Z Z Z Z Z Z ?_
 refine zgo ?_
 refine i7 [4,15,16] [2] (λ(i:Nat)=>[(3,.own 1),(17,.v (.int .i64 (i:Int)))]) (λ(i:Nat)=>[(1,some (.row 76 2 ((pnL q i).map j9)))]) (λ(i:Nat)=>i<=4) (λ(i:Nat)=>4 - i) 0 Z Z ?_ ?_ ?_ ?_
 ·exact R9
 ·exact a0O
 ·exact a07
 intro i hi
 have hpl:=@b2L q i
 refine vm2 ?_
 refine zcd (λh1=>?_) (λh1=>?_)
 ·refine vm3 ?_
  refine d7 G 4 Z Z Z Z Z ?_
  refine zcd (λh2=>?_) (λh2=>?_)
  ·refine zwt ?_
   exact c4m
  refine zcd (λh3=>?_) (λh3=>?_)
  ·exact c4m
  exact c87
 obtain rfl:i=4:=J
 refine vm3 ?_
 refine L8 3 [1] Z Z Z cS Z (RowsIn.cons Z RowsIn.nil) Z Z Z ?_
 refine zgo ?_
 refine i7 [37,38] [1] (λ(i:Nat)=>[(4,.own 2),(39,.v (.int .i64 (i:Int)))]) (λ(i:Nat)=>[(2,some (.row 3 1 (((C7 q).take i).map Rf.r7)))]) (λ(i:Nat)=>i<=(pnS q 4).length) (λ(i:Nat)=>(pnS q 4).length - i) 0 Z Z ?_ ?_ ?_ ?_
 ·exact R9
 ·exact a0O
 ·exact a07
 intro i hi
 have hpl:=@a7f q 4
 refine vm2 ?_
 refine zcd (λh4=>?_) (λh4=>?_)
 ·refine vm5 ?_
  refine b5 Z Z (f6 G Z Z Z Z (A1 J m7) Z) ?_
  refine p6 ?_
  refine d7 G 4 Z Z Z Z Z ?_
  refine vm3 ?_
  refine m5 G 5 Z Z Z Z Z Z Z Z ?_
  refine p6 ?_
  refine vm4 ?_
  exact c3N
 refine zfo ?_
 all_goals (first | rfl | (rw [b6b J]))
theorem a0m (q:Que) (hF:QF q):Ctr Tryz.prog 184 [.agg [.lst 3 (q.sl.map j5),.lst 2 (q.wa.map j9)]] (.one (.fr 3 1 ((C7 q).map Rf.r7))):=by
 have hl4:=hF.sl.len
 have hwn:=hF.wn8
 refine Ctr.of (n:=55) G Tryz.func184 Z a8 Z Z Z (λw0=>?_)
 refine n8 0 Z (λ_=>Z) (λu0=>?_)
 refine vm1 ?_
 refine vm3 ?_
 refine b3b ?_
 refine vm3 ?_
 refine vm4 ?_
 refine zgo ?_
 refine i7 [1] [0] (λ(i:Nat)=>[(3,.own 1),(4,.v (.int .i64 (i:Int)))]) (λ(i:Nat)=>[(1,some (.row 76 2 ((pnS q i).map j9)))]) (λ(i:Nat)=>i<=4) (λ(i:Nat)=>4 - i) 0 Z Z ?_ ?_ ?_ ?_
 ·exact R9
 ·exact a0O
 ·exact a07
 intro i hi
 have hpl:=@a7f q i
 refine vm2 ?_
 refine zcd (λh1=>?_) (λh1=>?_)
 ·refine vm3 ?_
  refine d7 G 3 Z Z Z Z Z ?_
  refine zcd (λh2=>?_) (λh2=>?_)
  ·refine zwt ?_
   exact c9b
  refine zcd (λh3=>?_) (λh3=>?_)
  ·exact c9b
  refine zgo ?_
  refine ⟨(i+1),?_,?_,⟨⟨_,Z,by rfl⟩,Z,⟨⟨_,Z,by rfl⟩,Z,trivial⟩⟩,⟨⟨_,Z,by (first | (rw [b1L J,List.map_append];rfl) | (rw [b1L J];done) | (rw [b1L J];rfl) | (rw [c2x J];done))⟩,Z,Z,trivial⟩,Z,Z,Z⟩
  ·omega
  omega
 obtain rfl:i=4:=J
 refine b4o ?_
 refine zgo ?_
 refine i7 [3] [1] (λ(i:Nat)=>[(6,.own 2),(7,.v (.int .i64 (i:Int)))]) (λ(i:Nat)=>[(2,some (.row 3 1 (((C7 q).take i).map Rf.r7)))]) (λ(i:Nat)=>i<=(pnS q 4).length) (λ(i:Nat)=>(pnS q 4).length - i) 0 Z Z ?_ ?_ ?_ ?_
 ·exact R9
 ·exact a0O
 ·exact a07
 intro i hi
 have hpl:=@a7f q 4
 refine vm2 ?_
 refine zcd (λh4=>?_) (λh4=>?_)
 ·refine vm5 ?_
  refine c10 ?_
  refine p6 ?_
  refine c6J ?_
  refine p6 ?_
  refine c11 ?_
  refine p6 ?_
  refine vm4 ?_
  exact c3N
 refine zfo ?_
 all_goals (first | rfl | (rw [b6b J]))
theorem b0K (x:Ifc) (hn:x.st.length<=1048576) (hl:x.qu.sl.length<=1048576) (hw:x.qu.wa.length<=1048576):Ctr Tryz.prog 104 [.agg [.v (.int .i64 x.ma),.lst 1 (x.st.map Rf.r7),.lst 3 (x.qu.sl.map j5),.lst 2 (x.qu.wa.map j9)]] (.one (.v (.bool (a2d x)))):=by
 refine Ctr.of (n:=74) G Tryz.func104 Z a8 Z Z Z (λw0=>?_)
 refine n8 0 Z (λ_=>Z) (λu0=>?_)
 refine s9 ?_
 refine b4n ?_
 refine zgn ?_
 refine s9 ?_
 refine a5p ?_
 refine a2n ?_
 refine p6 ?_
 refine b5 Z Z (j4 Z (ArgsOK.of Z) (a0I x.ma 0 16) Z) ?_
 refine a2n ?_
 refine A5 Z Z Z (λh1=>?_) (λh1=>?_)
 ·try rw [h1]
  try simp only [rfb] at h1
  refine zgn ?_
  refine J4 Z ?_
  exact c0c
 try rw [h1]
 try simp only [rfb] at h1
 refine a2n ?_
 refine a0k ?_
 refine b5 Z Z (j4 Z (ArgsOK.of Z) (b04 x.qu hl hw) Z) ?_
 refine zgn ?_
 refine l4 Z (λh2=>?_) (λh2=>?_)
 ·try rw [h2]
  try simp only [rfb] at h2
  exact c0c
 try rw [h2]
 try simp only [rfb] at h2
 have hq:=a69.mp h2
 have hSl:=hq.1.sl
 have hl4:=hSl.len
 refine zgn ?_
 refine s9 ?_
 refine a2m ?_
 refine p6 ?_
 refine d4 2 Z Z Z (ArgsOK.of Z) (a9f x.qu.sl hSl) Z Z ?_
 refine zgn ?_
 refine zgn ?_
 refine o7 (i7 [1,3] [0,1] (λ(i:Nat)=>[(4,.v (.int .i64 (i:Int)))]) (λ(i:Nat)=>[]) (λ(i:Nat)=>i<=x.st.length/\StP x.qu.sl x.st i) (λ(i:Nat)=>x.st.length - i) 0 Z Z ?_ ?_ ?_ ?_)
 ·exact ⟨Nat.zero_le _,c7F⟩
 ·exact E7
 ·exact trivial
 intro i hinv
 have hti:0 < i→((i:Int) - 1).toNat=i - 1:=λ_=>J
 refine vm2 ?_
 refine zgn ?_
 refine l4 Z (λh3=>?_) (λh3=>?_)
 ·try rw [h3]
  try simp only [rfb] at h3
  refine zgn ?_
  refine s9 (o7 (s9 ?_))
  refine b99 ?_
  iterate 6 refine zst ?_
  refine c6 Z (g8 Z Z (j4 Z c3s (a3M (a8c x.qu.sl 4) _ (by have:=@a7h x.qu.sl 4;have:=@a0z x.qu.sl 4;omega)) Z) ?_)
  refine a2n ?_
  refine b2f Z Z Z (λh4=>?_) (λh4=>?_)
  ·try rw [h4]
   try simp only [rfb] at h4
   refine zgn ?_
   refine J4 Z ?_
   exact c0c
  try rw [h4]
  try simp only [rfb] at h4
  have hm:=(a7g 4).mp (b0p.mp h4)
  iterate 3 refine zst ?_
  refine c6A ?_
  iterate 5 refine zst ?_
  refine b02 ?_
  refine g8 Z Z (j4 Z c3s (a3M (x.st.take i) _ b6E) Z) ?_
  refine zgn ?_
  refine l4 Z (λh5=>?_) (λh5=>?_)
  ·try rw [h5]
   try simp only [rfb] at h5
   exact c0c
  try rw [h5]
  try simp only [rfb] at h5
  refine zgn ?_
  refine b99 ?_
  iterate 3 refine zst ?_
  refine b2f Z Z Z (λh6=>?_) (λh6=>?_)
  ·try rw [h6]
   try simp only [rfb] at h6
   have hl1:=b5k (hinv.2.inn (i - 1) J) hl4
   have hl2:=b5k hm hl4
   iterate 5 refine zst ?_
   refine b02 ?_
   refine c1S ?_
   refine b02 ?_
   refine g8 Z Z (j4 Z (ArgsOK.of Z) (a0R x.qu _ hl (by rw [hti J];exact hl1)) Z) ?_
   iterate 7 refine zst ?_
   refine b02 ?_
   refine g8 Z Z (j4 Z (ArgsOK.of Z) (a0R x.qu _ hl hl2) Z) ?_
   refine zgn ?_
   refine l4 Z (λh7=>?_) (λh7=>?_)
   ·try rw [h7]
    try simp only [rfb] at h7
    exact c0c
   try rw [h7]
   try simp only [rfb] at h7
   refine zgn ?_
   refine b6 ?_
   refine zst ?_
   refine vm7 ?_
   refine zgn ?_
   refine ⟨(i+1),?_,?_,⟨⟨_,Z,by rfl⟩,Z,trivial⟩,trivial,Z,Z,Z⟩
   ·exact c3T
   omega
  try rw [h6]
  try simp only [rfb] at h6
  refine zgn ?_
  refine a27 Z ?_
  refine zgn ?_
  refine b6 ?_
  refine zst ?_
  refine vm7 ?_
  refine zgn ?_
  refine ⟨(i+1),?_,?_,⟨⟨_,Z,by rfl⟩,Z,trivial⟩,trivial,Z,Z,Z⟩
  ·exact c3T
  omega
 try rw [h3]
 try simp only [rfb] at h3
 refine zgn ?_
 refine b4s ?_
 all_goals exact c2Y
theorem a9m (rs:List Route) (q:Que) (k:Nat) (hr8:rs.length=8) (hF:QF q) (hk:k<=8):Ctr Tryz.prog 105 [.lst 2 (rs.map q9),.agg [.lst 3 (q.sl.map j5),.lst 2 (q.wa.map j9)],.v (.int .i64 (k:Int))] (.one (.v (.bool (okRq rs q k)))):=by
 have hl4:=hF.sl.len
 have hwn:=hF.wn8
 refine Ctr.of (n:=83) G Tryz.func105 Z a8 Z Z Z (λw0=>?_)
 refine n8 1 Z (λ_=>Z) (λu1=>?_)
 refine vm1 ?_
 refine zgo ?_
 refine i7 [0,2,4] [0] (λ(i:Nat)=>[(7,.v (.int .i64 (i:Int)))]) (λ(i:Nat)=>[]) (λ(i:Nat)=>i<=4/\∀t,t < i→rtS rs k (q.sl.getD t default)=true) (λ(i:Nat)=>4 - i) 0 Z Z ?_ ?_ ?_ ?_
 ·exact T7
 ·exact E7
 ·exact trivial
 intro i hi
 refine vm2 ?_
 refine zcd (λh1=>?_) (λh1=>?_)
 ·refine b4p ?_
  refine zgd ?_
  refine zcd (λh2=>?_) (λh2=>?_)
  ·refine zwt ?_
   exact c0e
  have hb0:=hF.sl.ok i J
  refine zcd (λh3=>?_) (λh3=>?_)
  ·have hb:=(hF.sl.ok i J h3).2.1
   refine zcd (λh4=>?_) (λh4=>?_)
   ·refine zwt ?_
    exact c0e
   refine zcd (λh5=>?_) (λh5=>?_)
   ·exact c0e
   exact c3K
  refine zwf ?_
  exact c3K
 refine zgo ?_
 refine i7 [0,2,4] [0] (λ(j:Nat)=>[(9,.v (.int .i64 (j:Int)))]) (λ(j:Nat)=>[]) (λ(j:Nat)=>j<=q.wa.length/\∀t,t < j→rtW rs k (q.wa.getD t default)=true) (λ(j:Nat)=>q.wa.length - j) 0 Z Z ?_ ?_ ?_ ?_
 ·exact T7
 ·exact E7
 ·exact trivial
 intro j hj
 refine vm2 ?_
 refine zcd (λh6=>?_) (λh6=>?_)
 ·have hbw:=(hF.wa _ (j6.mpr ⟨j,by omega,Z⟩)).1
  refine b4p ?_
  refine zgd ?_
  refine zcd (λh7=>?_) (λh7=>?_)
  ·refine zwt ?_
   exact c0e
  refine zcd (λh8=>?_) (λh8=>?_)
  ·exact c0e
  refine zgo ?_
  refine ⟨(j+1),?_,?_,⟨⟨_,Z,by rfl⟩,Z,trivial⟩,trivial,Z,Z,Z⟩
  ·exact ⟨by omega,s4 hj.2 (a1R.mpr ⟨by assumption,by assumption⟩)⟩
  omega
 refine zf1 ?_
 all_goals exact c2Z
theorem y9:a02 Tryz.prog 132 [.int .i64,.int .i64]=true:=by kernel_rfl
theorem R0 (wa:List Wtr) (hw:wa.length<=1048576):Ctr Tryz.prog 141 [.lst 2 (wa.map j9)] (.one (.fr 76 2 (wa.map j9))):=by
 refine Ctr.of (n:=8) G Tryz.func141 Z a8 Z Z Z (λw0=>?_)
 refine zgo ?_
 refine a7 Z (c0Y G Z Z Z Z Z (λbn hbn=>?_))
 refine zcd (λh1=>?_) (λh1=>?_)
 ·refine zgo ?_
  refine d8 (O3 Z (H8 ?_))
  exact c38
 refine b01 ?_
 refine vm3 ?_
 refine vm4 ?_
 refine zfo ?_
 exact c38
theorem a5t (w:Wtr) (rs:List Route) (k:Nat) (hr8:rs.length=8) (hw:0<=w.q/\w.q<=7):Ctr Tryz.prog 144 [.v (a5C w),.eptN [.lst 2 (rs.map q9)],.ept [.int .i64 (k:Int)]] (.one (.v (.bool (!rtW rs k w)))):=by
 refine Ctr.of (n:=15) G Tryz.func144 Z a8 Z Z Z (λw0=>?_)
 refine vm1 ?_
 refine zgd ?_
 refine c6 Z (g8 Z Z (V3 G Z Z Z Z) ?_)
 refine zgo ?_
 refine c6 Z (g8 Z Z (c2m [.int .i64,.int .i64] Z Z Z Z Z Z Z (.inl Z) (.inl Z) y9 ⟨_,_,Z,⟨_,Z⟩,_,_,Z,⟨_,Z⟩,Z⟩ ⟨_,_,Z,⟨_,Z⟩,_,_,Z,⟨_,Z⟩,Z⟩) ?_)
 refine zf1 ?_
 all_goals ((refine congrArg Value.bool ?_;rw [Bool.eq_iff_iff,Bool.not_eq_true',Bool.not_eq_true',← Bool.not_eq_true,← Bool.not_eq_true (b:=rtW rs k w),ec2,a1R];exact not_congr And.comm))
theorem J1 (xs:List Wtr) (f:Nat) (rs:List Route) (c:List Value) (p:Wtr→Bool) (hl:xs.length<=1048576) (hf:∀i,i < xs.length→Ctr Tryz.prog f [.v (a5C (xs.getD i default)),.eptN [.lst 2 (rs.map q9)],.ept c] (.one (.v (.bool (p (xs.getD i default)))))):Ctr Tryz.prog 196 [.lst 2 (xs.map j9),.fnc f [.eptN [.lst 2 (rs.map q9)],.ept c]] (.one (.v (.int .i64 (P0 (λi=>p (xs.getD i default)) xs.length)))):=by
 exact c4B
theorem I1 (xs:List Wtr) (f:Nat) (rs:List Route) (c:List Value) (p:Wtr→Bool) (hl:xs.length<=1048576) (hf:∀i,i < xs.length→Ctr Tryz.prog f [.v (a5C (xs.getD i default)),.eptN [.lst 2 (rs.map q9)],.ept c] (.one (.v (.bool (p (xs.getD i default)))))):Ctr Tryz.prog 143 [.lst 2 (xs.map j9),.fnc f [.eptN [.lst 2 (rs.map q9)],.ept c]] (.one (.v (.bool (a0t xs.length (λi=>p (xs.getD i default)))))):=by
 refine Ctr.of (n:=9) G Tryz.func143 Z a8 Z Z Z (λw0=>?_)
 refine zcl (J1 xs f rs c p hl hf) ?_
 refine zf1 ?_
 all_goals (rw [a4Z])
theorem a7K (rs:List Route) (k:Nat) (x:Ifc) (hr8:rs.length=8) (hF:IfF x) (hk:k<=8):Ctr Tryz.prog 91 [.lst 2 (rs.map q9),.v (.int .i64 (k:Int)),.agg [.v (.int .i64 x.ma),.lst 1 (x.st.map Rf.r7),.lst 3 (x.qu.sl.map j5),.lst 2 (x.qu.wa.map j9)]] (.one (.v (.bool (okRq rs x.qu k)))):=by
 have hl4:=hF.qu.sl.len
 have hwn:=hF.qu.wn8
 refine Ctr.of (n:=38) G Tryz.func91 Z a8 Z Z Z (λw0=>?_)
 refine b7Y (t:=0) Z (λz0=>?_)
 refine n8 2 Z (λ_=>Z) (λu2=>?_)
 refine c1Y ?_
 refine p6 ?_
 refine B3 3 Z Z Z Z Z Z Z ?_
 refine vm3 ?_
 refine d4 4 Z Z Z (ArgsOK.of Z) (R0 x.qu.wa J) Z Z ?_
 refine zgo ?_
 refine i7 [3,4,16,17] [0,1] (λ(i:Nat)=>[(7,.own 3),(18,.v (.int .i64 (i:Int)))]) (λ(i:Nat)=>[(3,some (.row 76 2 ((ftL x.qu i).map j9)))]) (λ(i:Nat)=>i<=4/\∀t,t < i→(x.qu.sl.getD t default).s≠3) (λ(i:Nat)=>4 - i) 0 Z Z ?_ ?_ ?_ ?_
 ·exact T7
 ·exact c3Z
 ·exact ⟨⟨_,Z,by (first | rfl | (simp;done) | (simp;omega))⟩,Z,Z,trivial⟩
 intro i hinv
 have hpl:=@b2S x.qu i
 refine vm2 ?_
 refine zcd (λh1=>?_) (λh1=>?_)
 ·refine vm3 ?_
  refine b7E ?_
  refine zcd (λh2=>?_) (λh2=>?_)
  ·refine zf1 ?_
   all_goals exact c3p
  refine zcd (λh3=>?_) (λh3=>?_)
  ·refine zcl (E4 _) ?_
   refine p6 ?_
   refine m5 G 6 Z Z Z Z Z Z Z Z ?_
   refine p6 ?_
   refine vm4 ?_
   exact c3D
  exact c3D
 obtain rfl:i=4:=J
 have hfl:=@b2S x.qu 4
 refine vm3 ?_
 refine b5 Z Z (a9U Z Z) ?_
 refine zcl (I1 (ftL x.qu 4) 144 rs [.int .i64 (k:Int)] (λw=>!rtW rs k w) J (λj hj=>a5t _ rs k hr8 (c5x hF.qu (Nat.le_refl _) (j6.mpr ⟨j,hj,Z⟩)))) ?_
 refine zf1 ?_
 all_goals exact c3p
theorem a0n (m:Mach) (hs:SmallM m):Ctr Tryz.prog 50 [.agg [.lst 2 (m.rs.map q9),.lst 1 (m.en.map m8),.lst 1 (m.ra.map m8),.nst none 4 (m.cp.map (r6 104 76))]] (.one (.v (.bool (a0A m)))):=by
 have z0:=hs.rs
 have z1:=hs.en
 have z2:=hs.ra
 have z3:=hs.cp
 refine Ctr.of (n:=44) G Tryz.func50 Z a8 Z Z Z (λw0=>?_)
 refine n8 0 Z (λ_=>Z) (λu0=>?_)
 refine s9 ?_
 refine b4n ?_
 refine zgn ?_
 refine s9 ?_
 refine a5p ?_
 iterate 5 refine zst ?_
 refine p6 ?_
 refine b5 Z Z (j4 Z (ArgsOK.of Z) (a8w m.rs _ J) Z) ?_
 refine a2n ?_
 refine A5 Z Z Z (λh1=>?_) (λh1=>?_)
 ·try rw [h1]
  try simp only [rfb] at h1
  exact c0w
 try rw [h1]
 try simp only [rfb] at h1
 have hr8:=(H1.mp h1).2.1
 have hc2:=(H1.mp h1).1
 iterate 6 refine zst ?_
 refine A5 Z Z Z (λh2=>?_) (λh2=>?_)
 ·try rw [h2]
  try simp only [rfb] at h2
  exact c0w
 try rw [h2]
 try simp only [rfb] at h2
 refine zgn ?_
 refine l4 Z (λh3=>?_) (λh3=>?_)
 ·try rw [h3]
  try simp only [rfb] at h3
  exact c0v
 try rw [h3]
 try simp only [rfb] at h3
 refine zgn ?_
 refine zgn ?_
 refine o7 (i7 [1,25,26] [0] (λ(k:Nat)=>[(27,.v (.int .i64 (k:Int)))]) (λ(k:Nat)=>[]) (λ(k:Nat)=>k<=m.cp.length/\∀j,j < k→a7i m j=true) (λ(k:Nat)=>m.cp.length - k) 0 Z Z ?_ ?_ ?_ ?_)
 ·exact T7
 ·exact E7
 ·exact trivial
 intro k hk
 refine vm2 ?_
 refine zgn ?_
 refine s9 (l4 Z (λh4=>?_) (λh4=>?_))
 ·try rw [h4]
  try simp only [rfb] at h4
  have hsz:=hs.allI (i:=k) J
  have hsz2:szI (m.cp.getD k default)=(m.cp.getD k default).st.length+(m.cp.getD k default).qu.sl.length+(m.cp.getD k default).qu.wa.length:=rfl
  refine zgn ?_
  refine s9 (o7 (s9 ?_))
  refine a2m ?_
  refine vm9 ?_
  refine zst ?_
  refine p6 ?_
  refine a3H 31 Z (λ_=>Z) λv31=>e9 G Z Z Z Z Z Z Z Z Z Z Z ?_
  refine zgn ?_
  refine a5p ?_
  refine zst ?_
  refine p6 ?_
  refine b5 Z Z (j4 Z (ArgsOK.of Z) (a6o (m.cp.getD k default) J J J) Z) ?_
  refine a2n ?_
  refine A5 Z Z Z (λh5=>?_) (λh5=>?_)
  ·try rw [h5]
   try simp only [rfb] at h5
   exact c0w
  try rw [h5]
  try simp only [rfb] at h5
  have hIF:=(b2R h5).1
  iterate 4 refine zst ?_
  refine a0k ?_
  refine b5 Z Z (j4 Z (ArgsOK.of Z) (a7K m.rs k (m.cp.getD k default) hr8 hIF J) Z) ?_
  refine zgn ?_
  refine l4 Z (λh6=>?_) (λh6=>?_)
  ·try rw [h6]
   try simp only [rfb] at h6
   exact c0v
  try rw [h6]
  try simp only [rfb] at h6
  refine zgn ?_
  refine b6 ?_
  refine vm7 ?_
  refine zgn ?_
  exact c3W
 try rw [h4]
 try simp only [rfb] at h4
 refine zgn ?_
 refine b4s ?_
 all_goals exact c6t
theorem a4N (m:Mach) (hs:SmallM m):Ctr Tryz.prog 66 [.agg [.lst 2 (m.rs.map q9),.lst 1 (m.en.map m8),.lst 1 (m.ra.map m8),.nst none 4 (m.cp.map (r6 104 76))]] (.one (.v (.bool (a0A m)))):=by
 have z0:=hs.rs
 have z1:=hs.en
 have z2:=hs.ra
 have z3:=hs.cp
 refine Ctr.of (n:=50) G Tryz.func66 Z a8 Z Z Z (λw0=>?_)
 refine n8 0 Z (λ_=>Z) (λu0=>?_)
 refine vm1 ?_
 refine zcl (a0J m.rs _ J) ?_
 refine zcd (λh1=>?_) (λh1=>?_)
 ·refine zwt ?_
  refine zf1 ?_
  exact b7G
 have hr8:=(H1.mp h1).2.1
 have hc2:=(H1.mp h1).1
 refine zcd (λh2=>?_) (λh2=>?_)
 ·refine zwt ?_
  refine zf1 ?_
  exact b7G
 refine zcd (λh3=>?_) (λh3=>?_)
 ·refine zf1 ?_
  exact b7G
 refine zgo ?_
 refine i7 [1] [0] (λ(k:Nat)=>[(3,.v (.int .i64 (k:Int)))]) (λ(k:Nat)=>[]) (λ(k:Nat)=>k<=m.cp.length/\∀j,j < k→a7i m j=true) (λ(k:Nat)=>m.cp.length - k) 0 Z Z ?_ ?_ ?_ ?_
 ·exact T7
 ·exact E7
 ·exact trivial
 intro k hk
 refine vm2 ?_
 refine zcd (λh4=>?_) (λh4=>?_)
 ·have hsz:=hs.allI (i:=k) J
  have hsz2:szI (m.cp.getD k default)=(m.cp.getD k default).st.length+(m.cp.getD k default).qu.sl.length+(m.cp.getD k default).qu.wa.length:=rfl
  refine zgd ?_
  refine zcl (b0K (m.cp.getD k default) J J J) ?_
  refine zcd (λh5=>?_) (λh5=>?_)
  ·refine zwt ?_
   refine zf1 ?_
   exact b7G
  have hIF:=(b2R h5).1
  refine zgo ?_
  refine b02 ?_
  refine g8 Z Z (a0Y G Z Z Z Z) ?_
  refine zcl (a9m m.rs (m.cp.getD k default).qu k hr8 hIF.qu J) ?_
  refine zcd (λh6=>?_) (λh6=>?_)
  ·refine zf1 ?_
   exact b7G
  refine zgo ?_
  exact c3W
 refine zf1 ?_
 all_goals exact c6t
theorem b0L (q:Int) (m:Mach) (hq:0<=q/\q.toNat < m.ra.length):Ctr Tryz.prog 114 [.v (.int .i64 q),.eptN [.lst 2 (m.rs.map q9),.lst 1 (m.en.map m8),.lst 1 (m.ra.map m8),.nst none 4 (m.cp.map (r6 104 76))]] (.one (.v (.bool (m.ra.getD q.toNat default)))):=by
 refine Ctr.of (n:=9) G Tryz.func114 Z a8 Z Z Z (λw0=>?_)
 refine vm3 ?_
 refine b3a ?_
 refine p6 ?_
 refine b7C ?_
 exact b0C
theorem a8y (f:Nat) (m:Mach) (p:Nat→Bool) (hf:∀i:Nat,i < 8→Ctr Tryz.prog f [.v (.int .i64 (i:Int)),.eptN [.lst 2 (m.rs.map q9),.lst 1 (m.en.map m8),.lst 1 (m.ra.map m8),.nst none 4 (m.cp.map (r6 104 76))]] (.one (.v (.bool (p i))))):Ctr Tryz.prog 113 [.fnc f [.eptN [.lst 2 (m.rs.map q9),.lst 1 (m.en.map m8),.lst 1 (m.ra.map m8),.nst none 4 (m.cp.map (r6 104 76))]]] (.one (.fr 3 1 ((whN p 8).map Rf.r7))):=by
 refine Ctr.of (n:=18) G Tryz.func113 Z a8 Z Z Z (λw0=>?_)
 refine b01 ?_
 refine zgo ?_
 refine i7 [0] [] (λ(i:Nat)=>[(3,.own 0),(6,.v (.int .i64 (i:Int)))]) (λ(i:Nat)=>[(0,some (.row 3 1 ((whN p i).map Rf.r7)))]) (λ(i:Nat)=>i<=8) (λ(i:Nat)=>8 - i) 0 Z Z ?_ ?_ ?_ ?_
 ·exact R9
 ·exact a0O
 ·exact a07
 intro i hinv
 have hwl:=@a7q p i
 refine vm2 ?_
 refine zcd (λh1=>?_) (λh1=>?_)
 ·refine vm3 ?_
  refine b5 Z Z (b2k Z Z (ArgsOK.of Z) Z (hf i J) Z) ?_
  refine zcd (λh2=>?_) (λh2=>?_)
  ·refine vm3 ?_
   refine b3b ?_
   refine p6 ?_
   refine vm4 ?_
   exact c18
  exact c18
 obtain rfl:i=8:=J
 refine zfo ?_
 all_goals (rfl)
theorem a9n (x:Ifc) (hF:IfF x):Ctr Tryz.prog 174 [.agg [.v (.int .i64 x.ma),.lst 1 (x.st.map Rf.r7),.lst 3 (x.qu.sl.map j5),.lst 2 (x.qu.wa.map j9)]] (.one (.v (.bool (a2V x)))):=by
 have hsn:=hF.sn
 have hpl:=a2S hF.qu
 refine Ctr.of (n:=14) G Tryz.func174 Z a8 Z Z Z (λw0=>?_)
 refine n8 0 Z (λ_=>Z) (λu0=>?_)
 refine vm1 ?_
 refine zcd (λh1=>?_) (λh1=>?_)
 ·exact c32
 refine zgo ?_
 refine a0k ?_
 refine d4 2 Z Z Z (ArgsOK.of Z) (V0 x.qu hF.qu) Z Z ?_
 exact c32
theorem G7 (xs:List Ifc) (f:Nat) (p:Ifc→Bool) (hl:xs.length<=1048576) (hf:∀i,i < xs.length→Ctr Tryz.prog f [.agg [.v (.int .i64 (xs.getD i default).ma),.lst 1 ((xs.getD i default).st.map Rf.r7),.lst 3 ((xs.getD i default).qu.sl.map j5),.lst 2 ((xs.getD i default).qu.wa.map j9)]] (.one (.v (.bool (p (xs.getD i default)))))):Ctr Tryz.prog 227 [.nst none 4 (xs.map (r6 104 76)),.fnc f []] (.one (.v (.int .i64 (P0 (λi=>p (xs.getD i default)) xs.length)))):=by
 refine Ctr.of (n:=19) G Tryz.func227 Z a8 Z Z Z (λw0=>?_)
 exact ws6
theorem F4 (xs:List Ifc) (f:Nat) (p:Ifc→Bool) (hl:xs.length<=1048576) (hf:∀i,i < xs.length→Ctr Tryz.prog f [.agg [.v (.int .i64 (xs.getD i default).ma),.lst 1 ((xs.getD i default).st.map Rf.r7),.lst 3 ((xs.getD i default).qu.sl.map j5),.lst 2 ((xs.getD i default).qu.wa.map j9)]] (.one (.v (.bool (p (xs.getD i default)))))):Ctr Tryz.prog 173 [.nst none 4 (xs.map (r6 104 76)),.fnc f []] (.one (.v (.bool (a0t xs.length (λi=>p (xs.getD i default)))))):=by
 refine Ctr.of (n:=9) G Tryz.func173 Z a8 Z Z Z (λw0=>?_)
 refine zcl (G7 xs f p hl hf) ?_
 refine zf1 ?_
 all_goals (rw [a4Z])
theorem b07 (m:Mach) (hs:SmallM m) (hM:a0A m=true):Ctr Tryz.prog 115 [.agg [.lst 2 (m.rs.map q9),.lst 1 (m.en.map m8),.lst 1 (m.ra.map m8),.nst none 4 (m.cp.map (r6 104 76))]] (.many [.v (.bool (a8l m)),.v (.bool true)]):=by
 have hG:=(maF hM).g
 have hra:=hG.ra
 have hen:=hG.en
 have hcp:=hs.cp
 refine Ctr.of (n:=30) G Tryz.func115 Z a8 Z Z Z (λw0=>?_)
 refine n8 0 Z (λ_=>Z) (λu0=>?_)
 refine vm1 ?_
 refine zcl (Ctr.bool (a0n m hs) (hM)) ?_
 refine zwf ?_
 refine zgo ?_
 refine i7 [1,10,11] [0] (λ(i:Nat)=>[(12,.v (.int .i64 (i:Int)))]) (λ(i:Nat)=>[]) (λ(i:Nat)=>i<=8/\∀j,j < i→a83 m j=false) (λ(i:Nat)=>8 - i) 0 Z Z ?_ ?_ ?_ ?_
 ·exact T7
 ·exact E7
 ·exact trivial
 intro i hinv
 refine vm2 ?_
 refine zcd (λh1=>?_) (λh1=>?_)
 ·refine zcd (λh2=>?_) (λh2=>?_)
  ·refine zcd (λh3=>?_) (λh3=>?_)
   ·refine zgo ?_
    refine d8 (r4 Z Z Z Z (b3 (j8 ?_) (b3 (j8 ?_) d9)))
    all_goals exact c3q
   exact c2a
  refine zwf ?_
  exact c2a
 refine zcl (Ctr.argsTo (F4 m.cp 174 a2V J (λi hi=>a9n _ (hG.ok i hi).f)) (λw vs h=>c5Q vs h)) ?_
 refine zgo ?_
 refine d8 (r4 Z Z Z Z (b3 (j8 ?_) (b3 (j8 ?_) d9)))
 all_goals exact c3q
theorem b0M (m:Mach) (hs:SmallM m) (hM:a0A m=true):Ctr Tryz.prog 126 [.agg [.lst 2 (m.rs.map q9),.lst 1 (m.en.map m8),.lst 1 (m.ra.map m8),.nst none 4 (m.cp.map (r6 104 76))]] (.one (.v (.bool (a8l m)))):=by
 have hG:=(maF hM).g
 have hra:=hG.ra
 have hen:=hG.en
 have hcp:=hs.cp
 refine Ctr.of (n:=47) G Tryz.func126 Z a8 Z Z Z (λw0=>?_)
 refine n8 0 Z (λ_=>Z) (λu0=>?_)
 refine vm1 ?_
 refine zgo ?_
 refine i7 [1] [0] (λ(i:Nat)=>[(3,.v (.int .i64 (i:Int)))]) (λ(i:Nat)=>[]) (λ(i:Nat)=>i<=8/\∀j,j < i→a83 m j=false) (λ(i:Nat)=>8 - i) 0 Z Z ?_ ?_ ?_ ?_
 ·exact T7
 ·exact E7
 ·exact trivial
 intro i hinv
 refine vm2 ?_
 refine zcd (λh1=>?_) (λh1=>?_)
 ·refine zcd (λh2=>?_) (λh2=>?_)
  ·refine zcd (λh3=>?_) (λh3=>?_)
   ·exact c6T
   exact c2a
  refine zwf ?_
  exact c2a
 refine zgo ?_
 refine i7 [1] [0] (λ(k:Nat)=>[(4,.v (.int .i64 (k:Int)))]) (λ(k:Nat)=>[]) (λ(k:Nat)=>k<=m.cp.length/\∀j,j < k→a2V (m.cp.getD j default)=false) (λ(k:Nat)=>m.cp.length - k) 0 Z Z ?_ ?_ ?_ ?_
 ·exact T7
 ·exact E7
 ·exact trivial
 intro k hk
 refine vm2 ?_
 refine zcd (λh4=>?_) (λh4=>?_)
 ·have hI:=(hG.ok k J).f
  have hsn:=hI.sn
  have hpl:=a2S hI.qu
  refine vm3 ?_
  refine b3a ?_
  refine p6 ?_
  refine b7C ?_
  refine zcd (λh5=>?_) (λh5=>?_)
  ·refine zwt ?_
   exact c6T
  refine zgo ?_
  refine a0k ?_
  refine b3a ?_
  refine zgo ?_
  refine a0k ?_
  refine d4 2 Z Z Z (ArgsOK.of Z) (a0m (m.cp.getD k default).qu hI.qu) Z Z ?_
  refine zcd (λh6=>?_) (λh6=>?_)
  ·exact c6T
  refine zgo ?_
  refine ⟨(k+1),?_,?_,⟨⟨_,Z,by rfl⟩,Z,trivial⟩,trivial,Z,Z,Z⟩
  ·exact ⟨by omega,s4 hk.2 (c1z J J)⟩
  omega
 refine zf1 ?_
 all_goals exact c26
theorem a9o (s:ByteArray) (hs:s.size<=9223372036854775807):Ctr Tryz.prog 74 [.v (.string s)] (.many [.v (.int .i64 (nmN s)),.v (.bool (nmK s))]):=by
 refine Ctr.of (n:=28) G Tryz.func74 Z Y Z Z Z (λw0=>?_)
 refine c1 (λK1 hK1=>?_)
 refine b6 (a7 Z (b5 Z Z (b8 Z Z) (a7 Z (b5 Z Z (b8 Z Z) (b4 (hK1 _ ?_))))))
 clear hK1 K1
 refine c1 (λK2 hK2=>?_)
 refine c1 (λK3 hK3=>?_)
 refine b6 (a7 Z (b5 Z Z (b9 Z Z) (a7 Z (b5 Z Z (r5 G Z Z Z) (a7 Z (b5 Z Z (t8 Z Z Z Z) (b4 (hK3 _ ?_))))))))
 clear hK3 K3
 refine l4 Z (λh1=>?_) (λh1=>?_)
 ·try rw [h1]
  try simp only [rfb] at h1
  refine c1 (λK4 hK4=>?_)
  refine b6 (a7 Z (b5 Z Z (b8 Z Z) (a7 Z (b5 Z Z (b8 Z Z) (b4 (hK4 _ ?_))))))
  clear hK4 K4
  refine d8 (r4 Z Z Z Z (b3 (j8 ?_) (b3 (j8 ?_) d9)))
  all_goals clear hK2 K2
  all_goals (first | (rw [(a2F (s:=s) J).1];done) | (rw [(a2F (s:=s) J).2];done) | (rw [(a44 (s:=s) J (hc1.symm.trans h2)).1];done) | (rw [(a44 (s:=s) J (hc1.symm.trans h2)).2];done) | (rw [(a74 (s:=s) J h3).1];done) | (rw [(a74 (s:=s) J h3).2];done) | (rw [(b1s (s:=s) J (hc1.symm.trans h2) h4).1];done) | (rw [(b1s (s:=s) J (hc1.symm.trans h2) h4).2];done) | (rw [(a77 (s:=s) J (hc1.symm.trans h2) h3 h4).1];done) | (rw [(a77 (s:=s) J (hc1.symm.trans h2) h3 h4).2];done))
 ·try rw [h1]
  try simp only [rfb] at h1
  have hbd:=c0Q (s:=s) J
  refine p8 (hK2 _ ?_)
  clear hK2 K2
  refine c1 (λK5 hK5=>?_)
  refine b6 (a7 Z (b5 Z Z (b9 Z Z) (a7 Z ?_)))
  refine d6 0 [] Z Z Z (b0E s J) Z RowsIn.nil Z (λ_=>Z) Z (λx1 ⟨hv1,hc1⟩=>?_)
  refine a7 Z (b5 Z Z (b9 Z Z) (a7 Z (b5 Z Z (i1 Z Z Z) (a7 Z (b5 Z Z (i1 Z Z Z) (a7 Z (b5 Z Z (b8 Z Z) (a7 Z (b5 Z Z (b8 Z Z) (b4 (hK5 _ ?_)))))))))))
  clear hK5 K5
  refine c1 (λK6 hK6=>?_)
  refine c1 (λK7 hK7=>?_)
  refine b6 (a7 Z (b5 Z Z (b9 Z Z) (a7 Z (b5 Z Z (c9v Y Z Z hv1) ?_))))
  refine a7 Z (b5 Z Z (b9 Z Z) (A5 Z Z Z (λh2=>?_) (λh2=>?_)))
  ·try rw [h2]
   try simp only [rfb] at h2
   refine l7 Z Z Z Z Z Z (l7 Z Z Z Z Z Z (l7 Z Z Z Z Z Z (a7 Z (b5 Z Z (w5 Z Z Z) (a7 Z (b5 Z Z (b9 Z Z) (l7 Z Z Z Z Z Z (l7 Z Z Z Z Z Z (l7 Z Z Z Z Z Z (l7 Z Z Z Z Z Z (a7 Z (b5 Z Z (w5 Z Z Z) (b4 (hK7 _ ?_))))))))))))))
   clear hK7 K7
   refine J4 Z ?_
   refine c1 (λK8 hK8=>?_)
   refine b6 (a7 Z (b5 Z Z (b8 Z Z) (a7 Z (b5 Z Z (b8 Z Z) (b4 (hK8 _ ?_))))))
   clear hK8 K8
   exact c6L
  ·try rw [h2]
   try simp only [rfb] at h2
   refine o9 Z Z Z (b5 Z Z (b9 Z Z) (o9 Z Z Z (b5 Z Z (j4 Z (ArgsOK.of Z) (H9 _ _ _) Z) ?_)))
   refine o9 Z Z Z (b5 Z Z (a1z Z Z) (a7 Z (b5 Z Z (A6 Z Z Z) (a7 Z (b5 Z Z (b9 Z Z) (A5 Z Z Z (λh3=>?_) (λh3=>?_)))))))
   ·try rw [h3]
    try simp only [rfb] at h3
    refine l7 Z Z Z Z Z Z (l7 Z Z Z Z Z Z (l7 Z Z Z Z Z Z (l7 Z Z Z Z Z Z (a7 Z (b5 Z Z (w5 Z Z Z) (b4 (hK7 _ ?_)))))))
    clear hK7 K7
    refine J4 Z ?_
    refine c1 (λK9 hK9=>?_)
    refine b6 (a7 Z (b5 Z Z (b8 Z Z) (a7 Z (b5 Z Z (b8 Z Z) (b4 (hK9 _ ?_))))))
    clear hK9 K9
    exact c6L
   ·try rw [h3]
    try simp only [rfb] at h3
    refine o9 Z Z Z (b5 Z Z (b9 Z Z) (o9 Z Z Z (b5 Z Z (j4 Z (ArgsOK.of Z) (y8 _ J J) Z) (o9 Z Z Z (b5 Z Z (b9 Z Z) (o9 Z Z Z (b5 Z Z (w7 Z Z Z Z) (a7 Z (b5 Z Z (A6 Z Z Z) (b4 (hK7 _ ?_)))))))))))
    clear hK7 K7
    refine l4 Z (λh4=>?_) (λh4=>?_)
    ·try rw [h4]
     try simp only [rfb] at h4
     refine c1 (λK10 hK10=>?_)
     refine b6 (a7 Z (b5 Z Z (b8 Z Z) (a7 Z (b5 Z Z (b8 Z Z) (b4 (hK10 _ ?_))))))
     clear hK10 K10
     exact c6L
    ·try rw [h4]
     try simp only [rfb] at h4
     refine p8 (hK6 _ ?_)
     clear hK6 K6
     refine c1 (λK11 hK11=>?_)
     refine b6 (a7 Z (b5 Z Z (b9 Z Z) (a7 Z (b5 Z Z (b8 Z Z) (a7 Z (b5 Z Z (b8 Z Z) (b4 (hK11 _ ?_))))))))
     clear hK11 K11
     refine d8 (r4 Z Z Z Z (b3 (j8 ?_) (b3 (j8 ?_) d9)))
     all_goals (first | (rw [(a2F (s:=s) J).1];done) | (rw [(a2F (s:=s) J).2];done) | (rw [(a44 (s:=s) J (hc1.symm.trans h2)).1];done) | (rw [(a44 (s:=s) J (hc1.symm.trans h2)).2];done) | (rw [(a74 (s:=s) J h3).1];done) | (rw [(a74 (s:=s) J h3).2];done) | (rw [(b1s (s:=s) J (hc1.symm.trans h2) h4).1];done) | (rw [(b1s (s:=s) J (hc1.symm.trans h2) h4).2];done) | (rw [(a77 (s:=s) J (hc1.symm.trans h2) h3 h4).1];done) | (rw [(a77 (s:=s) J (hc1.symm.trans h2) h3 h4).2];done))
theorem b08 (s:ByteArray) (hs:s.size<=9223372036854775807):Ctr Tryz.prog 125 [.v (.string s)] (.many [.v (.int .i64 (nmN s)),.v (.bool (nmK s))]):=by
 have hb0:s2 s 0=((s.data.toList.getD ((0:Int)).toNat 0).toNat:Int):=rfl
 refine Ctr.of (n:=58) G Tryz.func125 Z Y Z Z Z (λw0=>?_)
 refine c1 (λK1 hK1=>?_)
 refine b6 (a7 Z (b5 Z Z (b8 Z Z) (a7 Z (b5 Z Z (b8 Z Z) (b4 (hK1 _ ?_))))))
 clear hK1 K1
 refine c1 (λK2 hK2=>?_)
 refine b6 (a7 Z (b5 Z Z (b9 Z Z) (a7 Z (b5 Z Z (b8 Z Z) (b4 (hK2 _ ?_))))))
 clear hK2 K2
 refine c0J (nt:=58) (λ(a:ByteArray)=>[(4,.v (.string a)),(0,.v (.string s))]) (λ(a:ByteArray)=>[]) (λa=>a=p4 s) 30 [0,4] [] ?_ (λa ha=>?_)
 ·skip
  refine c1 (λK4 hK4=>?_)
  refine b6 (a7 Z (b5 Z Z (b9 Z Z) (a7 Z (b5 Z Z (r5 G Z Z Z) (a7 Z (b5 Z Z (t8 Z Z Z Z) (a7 Z (b5 Z Z (b9 Z Z) (A5 Z Z Z (λh1=>?_) (λh1=>?_))))))))))
  ·try rw [h1]
   try simp only [rfb] at h1
   refine o9 Z Z Z (b5 Z Z (b9 Z Z) (o9 Z Z Z (b5 Z Z (O9 G Z Z Z Z J J) (o9 Z Z Z (b5 Z Z (t8 Z Z Z Z) (a7 Z (b5 Z Z (w5 Z Z Z) (b4 (hK4 _ ?_)))))))))
   clear hK4 K4
   refine l4 Z (λh2=>?_) (λh2=>?_)
   ·try rw [h2]
    try simp only [rfb] at h2
    refine b6 (a7 Z (b5 Z Z (b9 Z Z) (a7 Z (b5 Z Z (z6 G Z Z Z Z Z J J J) (a7 Z (b5 Z Z (b8 Z Z) ?_))))))
    exact b4 ⟨(s.extract ((1:Int)).toNat ((s.size:Int)).toNat),c7r J (by first | assumption | omega),Z,Z,Z,Z⟩
   ·try rw [h2]
    try simp only [rfb] at h2
    exact p8 ⟨s,c2r J,Z,Z,Z,Z⟩
  ·try rw [h1]
   try simp only [rfb] at h1
   refine l7 Z Z Z Z Z Z (l7 Z Z Z Z Z Z (l7 Z Z Z Z Z Z (a7 Z (b5 Z Z (A6 Z Z Z) (b4 (hK4 _ ?_))))))
   clear hK4 K4
   refine a27 Z ?_
   exact p8 ⟨s,c2r J,Z,Z,Z,Z⟩
 ·skip
  subst ha
  have hbl:=c45 (s:=s)
  refine c1 (λK5 hK5=>?_)
  refine c1 (λK6 hK6=>?_)
  refine b6 (a7 Z (b5 Z Z (b9 Z Z) (a7 Z (b5 Z Z (r5 G Z Z Z) (a7 Z (b5 Z Z (j4 Z (ArgsOK.of Z) (a0I _ _ _) Z) (a7 Z (b5 Z Z (a1z Z Z) (b4 (hK6 _ ?_))))))))))
  clear hK6 K6
  refine l4 Z (λh3=>?_) (λh3=>?_)
  ·try rw [h3]
   try simp only [rfb] at h3
   refine c1 (λK7 hK7=>?_)
   refine b6 (a7 Z (b5 Z Z (b8 Z Z) (a7 Z (b5 Z Z (b8 Z Z) (b4 (hK7 _ ?_))))))
   clear hK7 K7
   refine d8 (r4 Z Z Z Z (b3 (j8 ?_) (b3 (j8 ?_) d9)))
   all_goals clear hK5 K5
   all_goals (first | (rw [(b0W (s:=s) h3).1];done) | (rw [(b0W (s:=s) h3).2];done) | (rw [(b0X (s:=s) (i:=i) J (by simp only [a1m,Bool.and_eq_false_iff,decide_eq_false_iff_not];omega)).1];done) | (rw [(b0X (s:=s) (i:=i) J (by simp only [a1m,Bool.and_eq_false_iff,decide_eq_false_iff_not];omega)).2];done) | (rw [(a2I (s:=s) (n:=-dV (p4 s) i) (by have e:i=(p4 s).size:=J;rw [a2G J,e]) (by assumption)).1];done) | (rw [(a2I (s:=s) (n:=-dV (p4 s) i) (by have e:i=(p4 s).size:=J;rw [a2G J,e]) (by assumption)).2];done) | (rw [(a2I (s:=s) (n:=dV (p4 s) i) (by have e:i=(p4 s).size:=J;rw [a2H J,e]) (by assumption)).1];done) | (rw [(a2I (s:=s) (n:=dV (p4 s) i) (by have e:i=(p4 s).size:=J;rw [a2H J,e]) (by assumption)).2];done) | (rw [(a2J (s:=s) (n:=-dV (p4 s) i) (i:=i) h3 J hinv.2 (by have e:i=(p4 s).size:=J;rw [a2G J,e]) (by assumption)).1];done) | (rw [(a2J (s:=s) (n:=-dV (p4 s) i) (i:=i) h3 J hinv.2 (by have e:i=(p4 s).size:=J;rw [a2G J,e]) (by assumption)).2];done) | (rw [(a2J (s:=s) (n:=dV (p4 s) i) (i:=i) h3 J hinv.2 (by have e:i=(p4 s).size:=J;rw [a2H J,e]) (by assumption)).1];done) | (rw [(a2J (s:=s) (n:=dV (p4 s) i) (i:=i) h3 J hinv.2 (by have e:i=(p4 s).size:=J;rw [a2H J,e]) (by assumption)).2];done))
  ·try rw [h3]
   try simp only [rfb] at h3
   have hin:=v8.mp h3
   refine p8 (hK5 _ ?_)
   clear hK5 K5
   refine c1 (λK8 hK8=>?_)
   refine b6 (a7 Z (b5 Z Z (b8 Z Z) (b4 (hK8 _ ?_))))
   clear hK8 K8
   refine c1 (λK9 hK9=>?_)
   refine c1 (λK10 hK10=>?_)
   refine b6 (a7 Z (b5 Z Z (b8 Z Z) (b4 (hK10 _ ?_))))
   clear hK10 K10
   refine o7 ?_
   refine i7 [0,4] [] (λ(i:Nat)=>[(5,.v (.int .i64 (dV (p4 s) i))),(6,.v (.int .i64 (i:Int)))]) (λ(i:Nat)=>[]) (λ(i:Nat)=>i<=(p4 s).size/\∀j,j < i→a1m (p4 s) j=true) (λ(i:Nat)=>(p4 s).size - i) 0 Z Z ?_ ?_ ?_ ?_
   ·exact T7
   ·exact a0O
   ·exact trivial
   ·intro i hinv
    have hi:i<=(p4 s).size:=hinv.1
    have hdl:=c2o hinv.2
    have hbi:s2 (p4 s) i=(((p4 s).data.toList.getD ((i:Int)).toNat 0).toNat:Int):=rfl
    simp only [List.cons_append,List.nil_append]
    refine c1 (λK11 hK11=>?_)
    refine c1 (λK12 hK12=>?_)
    refine b6 (a7 Z (b5 Z Z (b9 Z Z) (a7 Z (b5 Z Z (b9 Z Z) (a7 Z (b5 Z Z (r5 G Z Z Z) (a7 Z (b5 Z Z (t8 Z Z Z Z) (b4 (hK12 _ ?_))))))))))
    clear hK12 K12
    refine l4 Z (λh4=>?_) (λh4=>?_)
    ·try rw [h4]
     try simp only [rfb] at h4
     refine p8 (hK11 _ ?_)
     clear hK11 K11
     refine c1 (λK13 hK13=>?_)
     refine o7 ?_
     refine c1 (λK14 hK14=>?_)
     refine c1 (λK15 hK15=>?_)
     refine b6 (a7 Z (b5 Z Z (b9 Z Z) (a7 Z (b5 Z Z (b9 Z Z) (a7 Z (b5 Z Z (O9 G Z Z Z Z J J) ?_))))))
     refine a7 Z (b5 Z Z (t8 Z Z Z Z) (a7 Z (b5 Z Z (b9 Z Z) (A5 Z Z Z (λh5=>?_) (λh5=>?_)))))
     ·try rw [h5]
      try simp only [rfb] at h5
      refine l7 Z Z Z Z Z Z (l7 Z Z Z Z Z Z (l7 Z Z Z Z Z Z (l7 Z Z Z Z Z Z (a7 Z (b5 Z Z (w5 Z Z Z) (b4 (hK15 _ ?_)))))))
      clear hK15 K15
      refine J4 Z ?_
      refine c1 (λK16 hK16=>?_)
      refine b6 (a7 Z (b5 Z Z (b8 Z Z) (a7 Z (b5 Z Z (b8 Z Z) (b4 (hK16 _ ?_))))))
      clear hK16 K16
      exact c8U
     ·try rw [h5]
      try simp only [rfb] at h5
      refine o9 Z Z Z (b5 Z Z (b9 Z Z) (o9 Z Z Z (b5 Z Z (b9 Z Z) (o9 Z Z Z (b5 Z Z (O9 G Z Z Z Z J J) (o9 Z Z Z (b5 Z Z (t8 Z Z Z Z) (a7 Z (b5 Z Z (A6 Z Z Z) (b4 (hK15 _ ?_)))))))))))
      clear hK15 K15
      refine l4 Z (λh6=>?_) (λh6=>?_)
      ·try rw [h6]
       try simp only [rfb] at h6
       refine c1 (λK17 hK17=>?_)
       refine b6 (a7 Z (b5 Z Z (b8 Z Z) (a7 Z (b5 Z Z (b8 Z Z) (b4 (hK17 _ ?_))))))
       clear hK17 K17
       exact c8U
      ·try rw [h6]
       try simp only [rfb] at h6
       refine p8 (hK14 _ ?_)
       clear hK14 K14
       refine b6 (a7 Z (b5 Z Z (b9 Z Z) (a7 Z ?_)))
       first | refine b5 Z Z (p5 Z Z Z Z J J) ?_ | refine b5 Z Z (s3 Z Z Z Z) ?_
       refine a7 Z (b5 Z Z (b9 Z Z) (a7 Z (b5 Z Z (b9 Z Z) (a7 Z (b5 Z Z (O9 G Z Z Z Z J J) (a7 Z ?_))))))
       first | refine b5 Z Z (p5 Z Z Z Z J J) ?_ | refine b5 Z Z (s3 Z Z Z Z) ?_
       refine a7 Z ?_
       first | refine b5 Z Z (a7W G Z Z Z Z J J) ?_ | refine b5 Z Z (a17 G Z Z Z Z) ?_
       refine a7 Z ?_
       first | refine b5 Z Z (p5 Z Z Z Z J J) ?_ | refine b5 Z Z (s3 Z Z Z Z) ?_
       refine a7 Z (b5 Z Z (b8 Z Z) (b4 (hK13 _ ?_)))
       clear hK13 K13
       refine b6 (a7 Z (b5 Z Z (b9 Z Z) (a7 Z ?_)))
       first | refine b5 Z Z (p5 Z Z Z Z J J) ?_ | refine b5 Z Z (s3 Z Z Z Z) ?_
       refine a7 Z (b5 Z Z (b8 Z Z) ?_)
       refine b4 ⟨(i+1),?_,?_,⟨⟨_,Z,by (first | rfl | exact congrArg (λv=>AV.v (.int .i64 v)) (b5K (t:=p4 s) (i:=i) J J J J))⟩,Z,⟨⟨_,Z,by (first | rfl | exact congrArg (λv=>AV.v (.int .i64 v)) (b5K (t:=p4 s) (i:=i) J J J J))⟩,Z,trivial⟩⟩,trivial,Z,Z,Z⟩
       ·exact ⟨by omega,s4 hinv.2 (by simp only [a1m,Bool.and_eq_true,decide_eq_true_eq];omega)⟩
       ·omega
    ·try rw [h4]
     try simp only [rfb] at h4
     refine G2 (hK9 _ ?_)
     clear hK11 K11 hK9 K9
     refine c1 (λK18 hK18=>?_)
     refine c1 (λK19 hK19=>?_)
     refine b6 (a7 Z (b5 Z Z (b9 Z Z) (a7 Z (b5 Z Z (r5 G Z Z Z) (a7 Z (b5 Z Z (b9 Z Z) (a7 Z (b5 Z Z (r5 G Z Z Z) (a7 Z (b5 Z Z (t8 Z Z Z Z) (b4 (hK19 _ ?_))))))))))))
     clear hK19 K19
     refine l4 Z (λh7=>?_) (λh7=>?_)
     ·try rw [h7]
      try simp only [rfb] at h7
      refine b6 (a7 Z (b5 Z Z (b9 Z Z) (a7 Z (b5 Z Z (c2i Z Z J J) (a7 Z (b5 Z Z (b8 Z Z) (b4 (hK18 _ ?_))))))))
      clear hK18 K18
      refine c1 (λK20 hK20=>?_)
      refine c1 (λK21 hK21=>?_)
      refine b6 (a7 Z (b5 Z Z (b9 Z Z) (a7 Z (b5 Z Z (j4 Z (ArgsOK.of Z) (u7 _ J J) Z) (a7 Z (b5 Z Z (b9 Z Z) (a7 Z (b5 Z Z (w7 Z Z Z Z) (b4 (hK21 _ ?_))))))))))
      clear hK21 K21
      refine l4 Z (λh8=>?_) (λh8=>?_)
      ·try rw [h8]
       try simp only [rfb] at h8
       refine c1 (λK22 hK22=>?_)
       refine b6 (a7 Z (b5 Z Z (b8 Z Z) (a7 Z (b5 Z Z (b8 Z Z) (b4 (hK22 _ ?_))))))
       clear hK22 K22
       refine d8 (r4 Z Z Z Z (b3 (j8 ?_) (b3 (j8 ?_) d9)))
       all_goals clear hK20 K20
       all_goals (first | (rw [(b0W (s:=s) h3).1];done) | (rw [(b0W (s:=s) h3).2];done) | (rw [(b0X (s:=s) (i:=i) J (by simp only [a1m,Bool.and_eq_false_iff,decide_eq_false_iff_not];omega)).1];done) | (rw [(b0X (s:=s) (i:=i) J (by simp only [a1m,Bool.and_eq_false_iff,decide_eq_false_iff_not];omega)).2];done) | (rw [(a2I (s:=s) (n:=-dV (p4 s) i) (by have e:i=(p4 s).size:=J;rw [a2G J,e]) (by assumption)).1];done) | (rw [(a2I (s:=s) (n:=-dV (p4 s) i) (by have e:i=(p4 s).size:=J;rw [a2G J,e]) (by assumption)).2];done) | (rw [(a2I (s:=s) (n:=dV (p4 s) i) (by have e:i=(p4 s).size:=J;rw [a2H J,e]) (by assumption)).1];done) | (rw [(a2I (s:=s) (n:=dV (p4 s) i) (by have e:i=(p4 s).size:=J;rw [a2H J,e]) (by assumption)).2];done) | (rw [(a2J (s:=s) (n:=-dV (p4 s) i) (i:=i) h3 J hinv.2 (by have e:i=(p4 s).size:=J;rw [a2G J,e]) (by assumption)).1];done) | (rw [(a2J (s:=s) (n:=-dV (p4 s) i) (i:=i) h3 J hinv.2 (by have e:i=(p4 s).size:=J;rw [a2G J,e]) (by assumption)).2];done) | (rw [(a2J (s:=s) (n:=dV (p4 s) i) (i:=i) h3 J hinv.2 (by have e:i=(p4 s).size:=J;rw [a2H J,e]) (by assumption)).1];done) | (rw [(a2J (s:=s) (n:=dV (p4 s) i) (i:=i) h3 J hinv.2 (by have e:i=(p4 s).size:=J;rw [a2H J,e]) (by assumption)).2];done))
      ·try rw [h8]
       try simp only [rfb] at h8
       refine p8 (hK20 _ ?_)
       clear hK20 K20
       refine c1 (λK23 hK23=>?_)
       refine b6 (a7 Z (b5 Z Z (b9 Z Z) (a7 Z (b5 Z Z (b8 Z Z) (a7 Z (b5 Z Z (b8 Z Z) (b4 (hK23 _ ?_))))))))
       clear hK23 K23
       exact c8V
     ·try rw [h7]
      try simp only [rfb] at h7
      refine p8 (hK18 _ ?_)
      clear hK18 K18
      refine c1 (λK24 hK24=>?_)
      refine c1 (λK25 hK25=>?_)
      refine b6 (a7 Z (b5 Z Z (b9 Z Z) (a7 Z (b5 Z Z (j4 Z (ArgsOK.of Z) (u7 _ J J) Z) (a7 Z (b5 Z Z (b9 Z Z) (a7 Z (b5 Z Z (w7 Z Z Z Z) (b4 (hK25 _ ?_))))))))))
      clear hK25 K25
      refine l4 Z (λh9=>?_) (λh9=>?_)
      ·try rw [h9]
       try simp only [rfb] at h9
       refine c1 (λK26 hK26=>?_)
       refine b6 (a7 Z (b5 Z Z (b8 Z Z) (a7 Z (b5 Z Z (b8 Z Z) (b4 (hK26 _ ?_))))))
       clear hK26 K26
       refine d8 (r4 Z Z Z Z (b3 (j8 ?_) (b3 (j8 ?_) d9)))
       all_goals clear hK24 K24
       all_goals (first | (rw [(b0W (s:=s) h3).1];done) | (rw [(b0W (s:=s) h3).2];done) | (rw [(b0X (s:=s) (i:=i) J (by simp only [a1m,Bool.and_eq_false_iff,decide_eq_false_iff_not];omega)).1];done) | (rw [(b0X (s:=s) (i:=i) J (by simp only [a1m,Bool.and_eq_false_iff,decide_eq_false_iff_not];omega)).2];done) | (rw [(a2I (s:=s) (n:=-dV (p4 s) i) (by have e:i=(p4 s).size:=J;rw [a2G J,e]) (by assumption)).1];done) | (rw [(a2I (s:=s) (n:=-dV (p4 s) i) (by have e:i=(p4 s).size:=J;rw [a2G J,e]) (by assumption)).2];done) | (rw [(a2I (s:=s) (n:=dV (p4 s) i) (by have e:i=(p4 s).size:=J;rw [a2H J,e]) (by assumption)).1];done) | (rw [(a2I (s:=s) (n:=dV (p4 s) i) (by have e:i=(p4 s).size:=J;rw [a2H J,e]) (by assumption)).2];done) | (rw [(a2J (s:=s) (n:=-dV (p4 s) i) (i:=i) h3 J hinv.2 (by have e:i=(p4 s).size:=J;rw [a2G J,e]) (by assumption)).1];done) | (rw [(a2J (s:=s) (n:=-dV (p4 s) i) (i:=i) h3 J hinv.2 (by have e:i=(p4 s).size:=J;rw [a2G J,e]) (by assumption)).2];done) | (rw [(a2J (s:=s) (n:=dV (p4 s) i) (i:=i) h3 J hinv.2 (by have e:i=(p4 s).size:=J;rw [a2H J,e]) (by assumption)).1];done) | (rw [(a2J (s:=s) (n:=dV (p4 s) i) (i:=i) h3 J hinv.2 (by have e:i=(p4 s).size:=J;rw [a2H J,e]) (by assumption)).2];done))
      ·try rw [h9]
       try simp only [rfb] at h9
       refine p8 (hK24 _ ?_)
       clear hK24 K24
       refine c1 (λK27 hK27=>?_)
       refine b6 (a7 Z (b5 Z Z (b9 Z Z) (a7 Z (b5 Z Z (b8 Z Z) (a7 Z (b5 Z Z (b8 Z Z) (b4 (hK27 _ ?_))))))))
       clear hK27 K27
       exact c8V
end Go.Proofs.YtdhckhjphmjniaaGreatDoor
