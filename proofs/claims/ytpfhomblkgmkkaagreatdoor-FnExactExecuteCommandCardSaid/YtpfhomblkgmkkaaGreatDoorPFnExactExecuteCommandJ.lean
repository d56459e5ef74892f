/- Texts merged into one: K2, R7, R9, R10, E. -/
import Derived.Test.YtpfhomblkgmkkaaGreatDoorPFnExactExecuteCommandI
import Derived.Test.YtpfhomblkgmkkaaGreatDoorRows
import Derived.LaidLaws
import Derived.Lib.LaidIn
import Derived.Stop.LaidErr
import Derived.HandedShaped
set_option maxHeartbeats 4000000
set_option linter.unusedSimpArgs false
set_option linter.unusedVariables false
set_option maxRecDepth 20000
namespace Go.Proofs.YtpfhomblkgmkkaaGreatDoor
open Go Go.Rf
theorem a1Q (xs:List Bool) (k:Int) (hn:xs.length<=1048576) (hk:0<=k/\k<=1000000000):CtrM Tryz.prog 80 [.own 0,.v (.int .i64 k)] [.row 4 1 (xs.map j4)] (.one (.v (.int .i64 (k+(xs.length:Int))))) [some (.row 4 1 ((over (mkO k) xs xs.length).map j4))]:=by
 refine CtrM.of (n:=21) (k:=1) G Tryz.func80 Z a8 Z Z Z Z Z Z Z (λw0 _ hpin=>?_)
 refine C8 ?_
 refine r4 (e6 [0] [] (λ(i:Nat)=>[(1,.v (.int .i64 (k+(i:Int)))),(5,.v (.int .i64 (i:Int)))]) (λ(i:Nat)=>[(0,some (.row 4 1 ((over (mkO k) xs i).map j4)))]) (λ(i:Nat)=>i<=xs.length) (λ(i:Nat)=>xs.length - i) 0 Z Z ?_ ?_ ?_ ?_)
 ·exact B2
 ·exact b0B
 ·exact b9K
 intro i hinv
 have hi:i<=xs.length:=hinv
 refine b69 ?_
 refine j9 Z (λh1=>?_) (λh1=>?_)
 ·try rw [h1]
  try simp only [rfb] at h1
  refine a2H ?_
  refine a2G ?_
  refine vm5 ?_
  refine c5X ?_
  refine zst ?_
  refine c7u ?_
  refine zst ?_
  refine vm2 ?_
  refine zgn ?_
  refine ⟨(i+1),?_,?_,⟨⟨_,Z,by (first | rfl | (congr 2;omega))⟩,Z,⟨⟨_,Z,by (first | rfl | (congr 2;omega))⟩,Z,trivial⟩⟩,⟨⟨_,Z,by exact congrArg (Row.row _ _) (by (try simp only [List.set_set]);exact a24 (g:=mkO k) (f:=j4) J)⟩,Z,Z,trivial⟩,Z,Z,Z⟩
  ·omega
  omega
 try rw [h1]
 try simp only [rfb] at h1
 refine C8 ?_
 refine f6 (G7 Z (l4 ?_) Z (AftOK.stays Z ?_ Z AftOK.nil))
 all_goals (
  have e:i=xs.length:=J
  subst e
  first | rfl | (congr 1;omega)
 )
theorem a1V (xs:List Bool) (k:Int) (hn:xs.length<=1048576) (hk:0<=k/\k<=1000000000):Ctr Tryz.prog 83 [.lst 1 ((over (mkO k) xs xs.length).map j4),.v (.int .i64 k)] (.one (.v (.int .i64 (k+(xs.length:Int))))):=by
 refine Ctr.of (n:=23) G Tryz.func83 Z a8 Z Z Z (λw0=>?_)
 refine C8 ?_
 refine r4 (e6 [0] [] (λ(i:Nat)=>[(1,.v (.int .i64 (k+(i:Int)))),(5,.v (.int .i64 (i:Int)))]) (λ(i:Nat)=>[]) (λ(i:Nat)=>i<=xs.length) (λ(i:Nat)=>xs.length - i) 0 Z Z ?_ ?_ ?_ ?_)
 ·exact B2
 ·exact b0B
 ·exact trivial
 intro i hinv
 have hi:i<=xs.length:=hinv
 refine c1j ?_
 refine j9 Z (λh1=>?_) (λh1=>?_)
 ·try rw [h1]
  try simp only [rfb] at h1
  refine a2H ?_
  refine n9 ?_
  refine a45 ?_
  refine b9x ?_
  refine a3v ?_
  refine vm5 ?_
  refine c5X ?_
  refine zst ?_
  refine vm5 ?_
  refine b5 Z Z (c1L (G 4 _ Z).1 Z Z Z) ?_
  exact c3U
 try rw [h1]
 try simp only [rfb] at h1
 refine zgn ?_
 refine a1P ?_
 all_goals exact b9p
theorem a8f (xs:List Int) (k:Int) (hn:xs.length<=1048576) (hk:0<=k/\k<=1000000000):CtrM Tryz.prog 124 [.own 0,.v (.int .i64 k)] [.row 3 1 (xs.map Rf.n7)] (.one (.v (.int .i64 (k+(xs.length:Int))))) [some (.row 3 1 ((over (mkI k) xs xs.length).map Rf.n7))]:=by
 refine CtrM.of (n:=19) (k:=1) G Tryz.func124 Z a8 Z Z Z Z Z Z Z (λw0 _ hpin=>?_)
 refine C8 ?_
 refine r4 (e6 [0] [] (λ(i:Nat)=>[(1,.v (.int .i64 (k+(i:Int)))),(5,.v (.int .i64 (i:Int)))]) (λ(i:Nat)=>[(0,some (.row 3 1 ((over (mkI k) xs i).map Rf.n7)))]) (λ(i:Nat)=>i<=xs.length) (λ(i:Nat)=>xs.length - i) 0 Z Z ?_ ?_ ?_ ?_)
 ·exact B2
 ·exact b0B
 ·exact b9K
 intro i hinv
 have hi:i<=xs.length:=hinv
 refine b69 ?_
 refine j9 Z (λh1=>?_) (λh1=>?_)
 ·try rw [h1]
  try simp only [rfb] at h1
  refine a2H ?_
  refine a2G ?_
  refine c7u ?_
  refine zst ?_
  refine vm2 ?_
  refine zgn ?_
  refine ⟨(i+1),?_,?_,⟨⟨_,Z,by (first | rfl | (congr 2;omega))⟩,Z,⟨⟨_,Z,by (first | rfl | (congr 2;omega))⟩,Z,trivial⟩⟩,⟨⟨_,Z,by exact congrArg (Row.row _ _) (by (try simp only [List.set_set]);exact a24 (g:=mkI k) (f:=Rf.n7) J)⟩,Z,Z,trivial⟩,Z,Z,Z⟩
  ·omega
  omega
 try rw [h1]
 try simp only [rfb] at h1
 refine C8 ?_
 refine f6 (G7 Z (l4 ?_) Z (AftOK.stays Z ?_ Z AftOK.nil))
 all_goals (
  have e:i=xs.length:=J
  subst e
  first | rfl | (congr 1;omega)
 )
theorem a8G (xs:List Int) (k:Int) (hn:xs.length<=1048576) (hk:0<=k/\k<=1000000000):Ctr Tryz.prog 127 [.lst 1 ((over (mkI k) xs xs.length).map Rf.n7),.v (.int .i64 k)] (.one (.v (.int .i64 (k+(xs.length:Int))))):=by
 refine Ctr.of (n:=21) G Tryz.func127 Z a8 Z Z Z (λw0=>?_)
 refine C8 ?_
 refine r4 (e6 [0] [] (λ(i:Nat)=>[(1,.v (.int .i64 (k+(i:Int)))),(5,.v (.int .i64 (i:Int)))]) (λ(i:Nat)=>[]) (λ(i:Nat)=>i<=xs.length) (λ(i:Nat)=>xs.length - i) 0 Z Z ?_ ?_ ?_ ?_)
 ·exact B2
 ·exact b0B
 ·exact trivial
 intro i hinv
 have hi:i<=xs.length:=hinv
 refine c1j ?_
 refine j9 Z (λh1=>?_) (λh1=>?_)
 ·try rw [h1]
  try simp only [rfb] at h1
  refine a2H ?_
  refine n9 ?_
  refine a45 ?_
  refine b9x ?_
  exact c3U
 try rw [h1]
 try simp only [rfb] at h1
 refine zgn ?_
 refine a1P ?_
 all_goals exact b9p
theorem a7j (xs:List Slot) (k:Int) (hn:xs.length<=1048576) (hk:0<=k/\k<=1000000000):CtrM Tryz.prog 125 [.own 0,.v (.int .i64 k)] [.row 169 3 (xs.map e9)] (.one (.v (.int .i64 (k+3 * (xs.length:Int))))) [some (.row 169 3 ((over (b6S k) xs xs.length).map e9))]:=by
 refine CtrM.of (n:=34) (k:=1) G Tryz.func125 Z a8 Z Z Z Z Z Z Z (λw0 _ hpin=>?_)
 refine C8 ?_
 refine r4 (e6 [0] [] (λ(i:Nat)=>[(1,.v (.int .i64 (k+3 * (i:Int)))),(5,.v (.int .i64 (i:Int)))]) (λ(i:Nat)=>[(0,some (.row 169 3 ((over (b6S k) xs i).map e9)))]) (λ(i:Nat)=>i<=xs.length) (λ(i:Nat)=>xs.length - i) 0 Z Z ?_ ?_ ?_ ?_)
 ·exact B2
 ·exact b0B
 ·exact b9K
 intro i hinv
 have hi:i<=xs.length:=hinv
 refine b69 ?_
 refine j9 Z (λh1=>?_) (λh1=>?_)
 ·try rw [h1]
  try simp only [rfb] at h1
  refine a2H ?_
  refine vm1 ?_
  refine n9 ?_
  refine U7 ?_
  refine vm1 ?_
  refine n9 ?_
  refine U7 ?_
  refine vm1 ?_
  refine U7 ?_
  refine U7 ?_
  refine ⟨(i+1),?_,?_,⟨⟨_,Z,by (first | rfl | (congr 2;omega))⟩,Z,⟨⟨_,Z,by (first | rfl | (congr 2;omega))⟩,Z,trivial⟩⟩,⟨⟨_,Z,by exact congrArg (Row.row _ _) (by (try simp only [List.set_set]);exact a24 (g:=b6S k) (f:=e9) J)⟩,Z,Z,trivial⟩,Z,Z,Z⟩
  ·omega
  omega
 try rw [h1]
 try simp only [rfb] at h1
 refine C8 ?_
 refine f6 (G7 Z (l4 ?_) Z (AftOK.stays Z ?_ Z AftOK.nil))
 all_goals (
  have e:i=xs.length:=J
  subst e
  first | rfl | (congr 1;omega)
 )
theorem a7B (xs:List Slot) (k:Int) (hn:xs.length<=1048576) (hk:0<=k/\k<=1000000000):Ctr Tryz.prog 128 [.lst 3 ((over (b6S k) xs xs.length).map e9),.v (.int .i64 k)] (.one (.v (.int .i64 (k+3 * (xs.length:Int))))):=by
 refine Ctr.of (n:=40) G Tryz.func128 Z a8 Z Z Z (λw0=>?_)
 refine C8 ?_
 refine r4 (e6 [0] [] (λ(i:Nat)=>[(1,.v (.int .i64 (k+3 * (i:Int)))),(5,.v (.int .i64 (i:Int)))]) (λ(i:Nat)=>[]) (λ(i:Nat)=>i<=xs.length) (λ(i:Nat)=>xs.length - i) 0 Z Z ?_ ?_ ?_ ?_)
 ·exact B2
 ·exact b0B
 ·exact trivial
 intro i hinv
 have hi:i<=xs.length:=hinv
 refine c1j ?_
 refine j9 Z (λh1=>?_) (λh1=>?_)
 ·try rw [h1]
  try simp only [rfb] at h1
  refine a2H ?_
  refine n9 ?_
  refine a45 ?_
  refine b9x ?_
  refine zgn ?_
  refine j9 Z (λh2=>?_) (λh2=>?_)
  ·try rw [h2]
   try simp only [rfb] at h2
   exact b9A
  try rw [h2]
  try simp only [rfb] at h2
  refine zgn ?_
  refine n9 ?_
  refine U7 ?_
  refine n9 (n9 (b8 ?_))
  exact c7S
 try rw [h1]
 try simp only [rfb] at h1
 refine zgn ?_
 refine a1P ?_
 all_goals exact c5L
theorem a5k (xs:List Wtr) (k:Int) (hn:xs.length<=1048576) (hk:0<=k/\k<=1000000000):CtrM Tryz.prog 126 [.own 0,.v (.int .i64 k)] [.row 182 2 (xs.map e7)] (.one (.v (.int .i64 (k+2 * (xs.length:Int))))) [some (.row 182 2 ((over (b3G k) xs xs.length).map e7))]:=by
 refine CtrM.of (n:=27) (k:=1) G Tryz.func126 Z a8 Z Z Z Z Z Z Z (λw0 _ hpin=>?_)
 refine C8 ?_
 refine r4 (e6 [0] [] (λ(i:Nat)=>[(1,.v (.int .i64 (k+2 * (i:Int)))),(5,.v (.int .i64 (i:Int)))]) (λ(i:Nat)=>[(0,some (.row 182 2 ((over (b3G k) xs i).map e7)))]) (λ(i:Nat)=>i<=xs.length) (λ(i:Nat)=>xs.length - i) 0 Z Z ?_ ?_ ?_ ?_)
 ·exact B2
 ·exact b0B
 ·exact b9K
 intro i hinv
 have hi:i<=xs.length:=hinv
 refine b69 ?_
 refine j9 Z (λh1=>?_) (λh1=>?_)
 ·try rw [h1]
  try simp only [rfb] at h1
  refine a2H ?_
  refine vm1 ?_
  refine n9 ?_
  refine U7 ?_
  refine vm1 ?_
  refine U7 ?_
  refine U7 ?_
  refine ⟨(i+1),?_,?_,⟨⟨_,Z,by (first | rfl | (congr 2;omega))⟩,Z,⟨⟨_,Z,by (first | rfl | (congr 2;omega))⟩,Z,trivial⟩⟩,⟨⟨_,Z,by exact congrArg (Row.row _ _) c2T⟩,Z,Z,trivial⟩,Z,Z,Z⟩
  ·omega
  omega
 try rw [h1]
 try simp only [rfb] at h1
 refine C8 ?_
 refine f6 (G7 Z (l4 ?_) Z (AftOK.stays Z ?_ Z AftOK.nil))
 all_goals (
  have e:i=xs.length:=J
  subst e
  first | rfl | (congr 1;omega)
 )
theorem a5l (xs:List Wtr) (k:Int) (hn:xs.length<=1048576) (hk:0<=k/\k<=1000000000):Ctr Tryz.prog 129 [.lst 2 ((over (b3G k) xs xs.length).map e7),.v (.int .i64 k)] (.one (.v (.int .i64 (k+2 * (xs.length:Int))))):=by
 refine Ctr.of (n:=31) G Tryz.func129 Z a8 Z Z Z (λw0=>?_)
 exact c3D
theorem a4e (xs:List Route) (k:Int) (hn:xs.length<=1048576) (hk:0<=k/\k<=1000000000):CtrM Tryz.prog 79 [.own 0,.v (.int .i64 k)] [.row 83 2 (xs.map m4)] (.one (.v (.int .i64 (k+2 * (xs.length:Int))))) [some (.row 83 2 ((over (b6Q k) xs xs.length).map m4))]:=by
 refine CtrM.of (n:=27) (k:=1) G Tryz.func79 Z a8 Z Z Z Z Z Z Z (λw0 _ hpin=>?_)
 refine C8 ?_
 refine r4 (e6 [0] [] (λ(i:Nat)=>[(1,.v (.int .i64 (k+2 * (i:Int)))),(5,.v (.int .i64 (i:Int)))]) (λ(i:Nat)=>[(0,some (.row 83 2 ((over (b6Q k) xs i).map m4)))]) (λ(i:Nat)=>i<=xs.length) (λ(i:Nat)=>xs.length - i) 0 Z Z ?_ ?_ ?_ ?_)
 ·exact B2
 ·exact b0B
 ·exact b9K
 intro i hinv
 have hi:i<=xs.length:=hinv
 refine b69 ?_
 refine j9 Z (λh1=>?_) (λh1=>?_)
 ·try rw [h1]
  try simp only [rfb] at h1
  refine a2H ?_
  refine vm1 ?_
  refine n9 ?_
  refine U7 ?_
  refine vm1 ?_
  refine U7 ?_
  refine U7 ?_
  refine ⟨(i+1),?_,?_,⟨⟨_,Z,by (first | rfl | (congr 2;omega))⟩,Z,⟨⟨_,Z,by (first | rfl | (congr 2;omega))⟩,Z,trivial⟩⟩,⟨⟨_,Z,by exact congrArg (Row.row _ _) (by (try simp only [List.set_set]);exact a24 (g:=b6Q k) (f:=m4) J)⟩,Z,Z,trivial⟩,Z,Z,Z⟩
  ·omega
  omega
 try rw [h1]
 try simp only [rfb] at h1
 refine C8 ?_
 refine f6 (G7 Z (l4 ?_) Z (AftOK.stays Z ?_ Z AftOK.nil))
 all_goals (
  have e:i=xs.length:=J
  subst e
  first | rfl | (congr 1;omega)
 )
theorem a4p (xs:List Route) (k:Int) (hn:xs.length<=1048576) (hk:0<=k/\k<=1000000000):Ctr Tryz.prog 82 [.lst 2 ((over (b6Q k) xs xs.length).map m4),.v (.int .i64 k)] (.one (.v (.int .i64 (k+2 * (xs.length:Int))))):=by
 refine Ctr.of (n:=31) G Tryz.func82 Z a8 Z Z Z (λw0=>?_)
 exact c3D
theorem a2N (xs:List Ifc) (k:Int) (hn:xs.length<=1048576) (hs:sumI xs xs.length<=1048576) (hk:0<=k/\k<=100000000):CtrM Tryz.prog 81 [.own 0,.v (.int .i64 k)] [.nest 135 4 (xs.map (l8 169 182)) []] (.one (.v (.int .i64 (k+Y3 xs xs.length)))) [some (.nest 135 4 ((a4d k xs xs.length).map (l8 169 182)) [])]:=by
 refine CtrM.of (n:=43) (k:=1) G Tryz.func81 Z a8 Z Z Z Z Z Z Z (λw0 _ hpin=>?_)
 refine C8 ?_
 refine r4 (e6 [0] [] (λ(i:Nat)=>[(1,.v (.int .i64 (k+Y3 xs i))),(5,.v (.int .i64 (i:Int)))]) (λ(i:Nat)=>[(0,some (.nest 135 4 ((a4d k xs i).map (l8 169 182)) []))]) (λ(i:Nat)=>i<=xs.length) (λ(i:Nat)=>xs.length - i) 0 Z Z ?_ ?_ ?_ ?_)
 ·exact B2
 ·exact c6g
 ·exact a0J
 intro i hinv
 have hi:i<=xs.length:=hinv
 have hl1:=@W9 k xs i
 have hl2:=@R2 xs i
 have hl3:=a1I (xs:=xs) hi
 have hl4:=@R2 xs xs.length
 have hl5:i < xs.length→szI (xs.getD i default)<=1048576:=λh=>Int.le_trans (a3l h) hs
 have hl6:szI (xs.getD i default)=(xs.getD i default).st.length+(xs.getD i default).qu.sl.length+(xs.getD i default).qu.wa.length:=rfl
 refine c5V ?_
 refine j9 Z (λh1=>?_) (λh1=>?_)
 ·try rw [h1]
  try simp only [rfb] at h1
  refine a2H ?_
  refine a2G ?_
  refine vm6 ?_
  refine p4 G Z Z Z Z Z (b6T J) Z Z (.v Z .nil) Z Z Z (Nat.le_of_ble_eq_true Z) (λq h=>by cases h) Z ?_
  refine zgn ?_
  refine n9 ?_
  refine U7 ?_
  refine n9 ?_
  refine c7z ?_
  refine c7B ?_
  refine b8 ?_
  refine a3v ?_
  refine vm6 ?_
  refine b9y ?_
  refine vm5 ?_
  refine c1i ?_
  refine w4 4 [3] Z Z Z (a5k (xs.getD i default).qu.wa (k+Y3 xs i+1+(xs.getD i default).st.length+3 * (xs.getD i default).qu.sl.length) J J) Z (RowsIn.cons Z RowsIn.nil) Z Z Z ?_
  exact c74
 try rw [h1]
 try simp only [rfb] at h1
 refine C8 ?_
 refine f6 (G7 Z (l4 ?_) Z (AftOK.stays Z ?_ Z AftOK.nil))
 all_goals (
  have e:i=xs.length:=J
  subst e
  first | rfl | (congr 1;omega)
 )
theorem a2O (xs:List Ifc) (k:Int) (hn:xs.length<=1048576) (hs:sumI xs xs.length<=1048576) (hk:0<=k/\k<=100000000):Ctr Tryz.prog 84 [.nst none 4 ((a4d k xs xs.length).map (l8 169 182)),.v (.int .i64 k)] (.one (.v (.int .i64 (k+Y3 xs xs.length)))):=by
 refine Ctr.of (n:=51) G Tryz.func84 Z a8 Z Z Z (λw0=>?_)
 refine C8 ?_
 refine r4 (e6 [0] [] (λ(i:Nat)=>[(1,.v (.int .i64 (k+Y3 xs i))),(5,.v (.int .i64 (i:Int)))]) (λ(i:Nat)=>[]) (λ(i:Nat)=>i<=xs.length) (λ(i:Nat)=>xs.length - i) 0 Z Z ?_ ?_ ?_ ?_)
 ·exact B2
 ·exact c6g
 ·exact trivial
 intro i hinv
 have hi:i<=xs.length:=hinv
 have hl1:=@W9 k xs i
 have hl2:=@R2 xs i
 have hl3:=a1I (xs:=xs) hi
 have hl4:=@R2 xs xs.length
 have hl5:i < xs.length→szI (xs.getD i default)<=1048576:=λh=>Int.le_trans (a3l h) hs
 have hl6:szI (xs.getD i default)=(xs.getD i default).st.length+(xs.getD i default).qu.sl.length+(xs.getD i default).qu.wa.length:=rfl
 refine c5V ?_
 refine j9 Z (λh1=>?_) (λh1=>?_)
 ·try rw [h1]
  try simp only [rfb] at h1
  refine a2H ?_
  refine n9 ?_
  refine c1l ?_
  refine b33 ?_
  refine zgn ?_
  refine j9 Z (λh2=>?_) (λh2=>?_)
  ·try rw [h2]
   try simp only [rfb] at h2
   exact c1F
  try rw [h2]
  try simp only [rfb] at h2
  refine zgn ?_
  refine n9 ?_
  refine U7 ?_
  refine c1l ?_
  refine b33 ?_
  refine zst ?_
  refine vm5 ?_
  refine b5 Z Z (f7 Z (ArgsOK.of Z) (a8G (xs.getD i default).st (k+Y3 xs i+1) J J) Z) ?_
  refine C8 ?_
  refine j9 Z (λh3=>?_) (λh3=>?_)
  ·try rw [h3]
   try simp only [rfb] at h3
   exact c1F
  try rw [h3]
  try simp only [rfb] at h3
  refine zgn ?_
  refine c1l ?_
  refine vm5 ?_
  refine b41 ?_
  refine b33 ?_
  refine zst ?_
  refine vm5 ?_
  refine b5 Z Z (f7 Z (ArgsOK.of Z) (a7B (xs.getD i default).qu.sl (k+Y3 xs i+1+(xs.getD i default).st.length) J J) Z) ?_
  refine C8 ?_
  refine j9 Z (λh4=>?_) (λh4=>?_)
  ·try rw [h4]
   try simp only [rfb] at h4
   exact c1F
  try rw [h4]
  try simp only [rfb] at h4
  refine zgn ?_
  refine c1l ?_
  refine vm5 ?_
  refine b41 ?_
  refine b33 ?_
  refine zst ?_
  refine vm5 ?_
  refine b5 Z Z (f7 Z (ArgsOK.of Z) (a5l (xs.getD i default).qu.wa (k+Y3 xs i+1+(xs.getD i default).st.length+3 * (xs.getD i default).qu.sl.length) J J) Z) ?_
  refine C8 ?_
  refine j9 Z (λh5=>?_) (λh5=>?_)
  ·try rw [h5]
   try simp only [rfb] at h5
   exact c1F
  try rw [h5]
  try simp only [rfb] at h5
  refine zgn ?_
  refine U7 ?_
  refine ⟨(i+1),?_,?_,⟨⟨_,Z,by (first | rfl | (rw [a1J];simp only [wdI];congr 2;omega))⟩,Z,⟨⟨_,Z,by (first | rfl | (rw [a1J];simp only [wdI];congr 2;omega))⟩,Z,trivial⟩⟩,trivial,Z,Z,Z⟩
  ·omega
  omega
 try rw [h1]
 try simp only [rfb] at h1
 refine zgn ?_
 refine a1P ?_
 all_goals exact c2t
theorem a5m (m:Mach) (k:Int) (hs:SmallM m) (hk:0<=k/\k<=10000000):CtrM Tryz.prog 39 [.agg [.own 0,.own 1,.own 2,.own 3],.v (.int .i64 k)] [.row 83 2 (m.rs.map m4),.row 4 1 (m.en.map j4),.row 4 1 (m.ra.map j4),.nest 135 4 (m.cp.map (l8 169 182)) []] (.one (.v (.int .i64 (b2k k m)))) [some (.row 83 2 ((mkM k m).rs.map m4)),some (.row 4 1 ((mkM k m).en.map j4)),some (.row 4 1 ((mkM k m).ra.map j4)),some (.nest 135 4 ((mkM k m).cp.map (l8 169 182)) [])]:=by
 have hz0:=hs.rs
 have hz1:=hs.en
 have hz2:=hs.ra
 have hz3:=hs.cp
 have hz4:=hs.sum
 have hz6:=@R2 m.cp m.cp.length
 refine CtrM.of (n:=22) (k:=4) G Tryz.func39 Z a8 Z Z Z Z Z Z Z (λw0 _ hpin=>?_)
 refine c1o ?_
 refine c7E ?_
 refine zgn ?_
 refine a2G ?_
 refine vm5 ?_
 refine w4 5 [3] Z Z Z (a2N m.cp (k+2 * m.rs.length+m.en.length+m.ra.length) J J J) Z (RowsIn.cons Z RowsIn.nil) Z Z Z ?_
 exact c1E
theorem a5n (m:Mach) (k:Int) (hs:SmallM m) (hk:0<=k/\k<=10000000):Ctr Tryz.prog 40 [.agg [.lst 2 ((mkM k m).rs.map m4),.lst 1 ((mkM k m).en.map j4),.lst 1 ((mkM k m).ra.map j4),.nst none 4 ((mkM k m).cp.map (l8 169 182))],.v (.int .i64 k)] (.one (.v (.int .i64 (b2k k m)))):=by
 have hz0:=hs.rs
 have hz1:=hs.en
 have hz2:=hs.ra
 have hz3:=hs.cp
 have hz4:=hs.sum
 have hz6:=@R2 m.cp m.cp.length
 refine Ctr.of (n:=30) G Tryz.func40 Z a8 Z Z Z (λw0=>?_)
 refine j5 0 Z (λ_=>Z) (λu0=>?_)
 refine n9 ?_
 refine b0y ?_
 refine zgn ?_
 refine a2G ?_
 refine vm5 ?_
 refine b5 Z Z (f7 Z (ArgsOK.of Z) (a4p m.rs k J J) Z) ?_
 refine C8 ?_
 refine j9 Z (λh1=>?_) (λh1=>?_)
 ·try rw [h1]
  try simp only [rfb] at h1
  exact b9J
 try rw [h1]
 try simp only [rfb] at h1
 refine zgn ?_
 refine a2G ?_
 refine vm5 ?_
 refine b5 Z Z (f7 Z (ArgsOK.of Z) (a1V m.en (k+2 * m.rs.length) J J) Z) ?_
 refine C8 ?_
 refine j9 Z (λh2=>?_) (λh2=>?_)
 ·try rw [h2]
  try simp only [rfb] at h2
  exact b9J
 try rw [h2]
 try simp only [rfb] at h2
 refine zgn ?_
 refine a2G ?_
 refine vm5 ?_
 refine b5 Z Z (f7 Z (ArgsOK.of Z) (a1V m.ra (k+2 * m.rs.length+m.en.length) J J) Z) ?_
 refine C8 ?_
 refine j9 Z (λh3=>?_) (λh3=>?_)
 ·try rw [h3]
  try simp only [rfb] at h3
  exact b9J
 try rw [h3]
 try simp only [rfb] at h3
 refine zgn ?_
 refine a2G ?_
 refine vm5 ?_
 refine b5 Z Z (f7 Z (ArgsOK.of Z) (a2O m.cp (k+2 * m.rs.length+m.en.length+m.ra.length) J J J) Z) ?_
 exact c3L
theorem a3H (m:Mach) (y:Lg) (k:Int) (hs:SmallM m) (hk:0<=k/\k<=10000000):CtrM Tryz.prog 11 [.agg [.own 0,.own 1,.own 2,.own 3,.v (.string y.d),.v (.string y.p),.v (.int .i64 y.n)],.v (.int .i64 k)] [.row 83 2 (m.rs.map m4),.row 4 1 (m.en.map j4),.row 4 1 (m.ra.map j4),.nest 135 4 (m.cp.map (l8 169 182)) []] (.one (.v (.int .i64 (b2k k m)))) [some (.row 83 2 ((mkM k m).rs.map m4)),some (.row 4 1 ((mkM k m).en.map j4)),some (.row 4 1 ((mkM k m).ra.map j4)),some (.nest 135 4 ((mkM k m).cp.map (l8 169 182)) [])]:=by
 have hmn:=a6b (k:=k) hs
 refine CtrM.of (n:=10) (k:=4) G Tryz.func11 Z a8 Z Z Z Z Z Z Z (λw0 _ hpin=>?_)
 refine c1o ?_
 refine vm5 ?_
 refine w4 5 [0,1,2,3] Z Z Z (a5m m k hs hk) Z (RowsIn.cons Z (RowsIn.cons Z (RowsIn.cons Z (RowsIn.cons Z RowsIn.nil)))) Z Z Z ?_
 exact c1E
theorem X8 (m:Mach) (y:Lg) (k:Int) (hs:SmallM m) (hk:0<=k/\k<=10000000):Ctr Tryz.prog 12 [.agg [.lst 2 ((mkM k m).rs.map m4),.lst 1 ((mkM k m).en.map j4),.lst 1 ((mkM k m).ra.map j4),.nst none 4 ((mkM k m).cp.map (l8 169 182)),.v (.string y.d),.v (.string y.p),.v (.int .i64 y.n)],.v (.int .i64 k)] (.one (.v (.int .i64 (b2k k m)))):=by
 have hmn:=a6b (k:=k) hs
 refine Ctr.of (n:=12) G Tryz.func12 Z a8 Z Z Z (λw0=>?_)
 refine j5 0 Z (λ_=>Z) (λu0=>?_)
 refine n9 ?_
 refine b0y ?_
 refine zgn ?_
 refine a2G ?_
 refine vm5 ?_
 refine b5 Z Z (f7 Z (ArgsOK.of Z) (a5n m k hs hk) Z) ?_
 exact c3L
theorem a3I (xs:List Wtr) (k:Int) (hn:xs.length<=1048576) (hk:0<=k/\k<=1000000000):CtrM Tryz.prog 126 [.own 0,.v (.int .i64 k)] [.row 182 2 (xs.map e7) true] (.one (.v (.int .i64 (k+2 * (xs.length:Int))))) [some (.row 182 2 ((over (b3G k) xs xs.length).map e7) true)]:=by
 refine CtrM.of (n:=27) (k:=1) G Tryz.func126 Z a8 Z Z Z Z Z Z Z (λw0 _ hpin=>?_)
 refine C8 ?_
 refine r4 (e6 [0] [] (λ(i:Nat)=>[(1,.v (.int .i64 (k+2 * (i:Int)))),(5,.v (.int .i64 (i:Int)))]) (λ(i:Nat)=>[(0,some (.row 182 2 ((over (b3G k) xs i).map e7) true))]) (λ(i:Nat)=>i<=xs.length) (λ(i:Nat)=>xs.length - i) 0 Z Z ?_ ?_ ?_ ?_)
 ·exact B2
 ·exact b0B
 ·exact ⟨⟨_,Z,by exact congrArg (λz=>Row.row _ _ z true) (by rw [b02])⟩,Z,Z,trivial⟩
 intro i hinv
 have hi:i<=xs.length:=hinv
 refine b69 ?_
 refine j9 Z (λh1=>?_) (λh1=>?_)
 ·try rw [h1]
  try simp only [rfb] at h1
  refine a2H ?_
  refine vm1 ?_
  refine n9 ?_
  refine U7 ?_
  refine vm1 ?_
  refine U7 ?_
  refine U7 ?_
  refine ⟨(i+1),?_,?_,⟨⟨_,Z,by (first | rfl | (congr 2;omega))⟩,Z,⟨⟨_,Z,by (first | rfl | (congr 2;omega))⟩,Z,trivial⟩⟩,⟨⟨_,Z,by exact congrArg (λz=>Row.row _ _ z true) c2T⟩,Z,Z,trivial⟩,Z,Z,Z⟩
  ·omega
  omega
 try rw [h1]
 try simp only [rfb] at h1
 refine C8 ?_
 refine f6 (G7 Z (l4 ?_) Z (AftOK.stays Z ?_ Z AftOK.nil))
 all_goals (
  have e:i=xs.length:=J
  subst e
  first | rfl | (congr 1;omega)
 )
theorem a1W (xs:List Ifc) (k:Int) (hn:xs.length<=1048576) (hs:sumI xs xs.length<=1048576) (hk:0<=k/\k<=100000000):CtrM Tryz.prog 81 [.own 0,.v (.int .i64 k)] [.nest 135 4 (xs.map (F4 169 182)) []] (.one (.v (.int .i64 (k+Y3 xs xs.length)))) [some (.nest 135 4 ((a4d k xs xs.length).map (F4 169 182)) [])]:=by
 refine CtrM.of (n:=43) (k:=1) G Tryz.func81 Z a8 Z Z Z Z Z Z Z (λw0 _ hpin=>?_)
 refine C8 ?_
 refine r4 (e6 [0] [] (λ(i:Nat)=>[(1,.v (.int .i64 (k+Y3 xs i))),(5,.v (.int .i64 (i:Int)))]) (λ(i:Nat)=>[(0,some (.nest 135 4 ((a4d k xs i).map (F4 169 182)) []))]) (λ(i:Nat)=>i<=xs.length) (λ(i:Nat)=>xs.length - i) 0 Z Z ?_ ?_ ?_ ?_)
 ·exact B2
 ·exact c6g
 ·exact a0J
 intro i hinv
 have hi:i<=xs.length:=hinv
 have hl1:=@W9 k xs i
 have hl2:=@R2 xs i
 have hl3:=a1I (xs:=xs) hi
 have hl4:=@R2 xs xs.length
 have hl5:i < xs.length→szI (xs.getD i default)<=1048576:=λh=>Int.le_trans (a3l h) hs
 have hl6:szI (xs.getD i default)=(xs.getD i default).st.length+(xs.getD i default).qu.sl.length+(xs.getD i default).qu.wa.length:=rfl
 refine c5V ?_
 refine j9 Z (λh1=>?_) (λh1=>?_)
 ·try rw [h1]
  try simp only [rfb] at h1
  refine a2H ?_
  refine a2G ?_
  refine vm6 ?_
  refine p4 G Z Z Z Z Z (b4X J) Z Z (.v Z .nil) Z Z Z (Nat.le_of_ble_eq_true Z) (λq h=>by cases h) Z ?_
  refine zgn ?_
  refine n9 ?_
  refine U7 ?_
  refine n9 ?_
  refine c7z ?_
  refine c7B ?_
  refine b8 ?_
  refine a3v ?_
  refine vm6 ?_
  refine b9y ?_
  refine vm5 ?_
  refine c1i ?_
  refine w4 4 [3] Z Z Z (a3I (xs.getD i default).qu.wa (k+Y3 xs i+1+(xs.getD i default).st.length+3 * (xs.getD i default).qu.sl.length) J J) Z (RowsIn.cons Z RowsIn.nil) Z Z Z ?_
  exact c74
 try rw [h1]
 try simp only [rfb] at h1
 refine C8 ?_
 refine f6 (G7 Z (l4 ?_) Z (AftOK.stays Z ?_ Z AftOK.nil))
 all_goals (
  have e:i=xs.length:=J
  subst e
  first | rfl | (congr 1;omega)
 )
theorem a3J (m:Mach) (k:Int) (hs:SmallM m) (hk:0<=k/\k<=10000000):CtrM Tryz.prog 39 [.agg [.own 0,.own 1,.own 2,.own 3],.v (.int .i64 k)] [.row 83 2 (m.rs.map m4),.row 4 1 (m.en.map j4),.row 4 1 (m.ra.map j4),.nest 135 4 (m.cp.map (F4 169 182)) []] (.one (.v (.int .i64 (b2k k m)))) [some (.row 83 2 ((mkM k m).rs.map m4)),some (.row 4 1 ((mkM k m).en.map j4)),some (.row 4 1 ((mkM k m).ra.map j4)),some (.nest 135 4 ((mkM k m).cp.map (F4 169 182)) [])]:=by
 have hz0:=hs.rs
 have hz1:=hs.en
 have hz2:=hs.ra
 have hz3:=hs.cp
 have hz4:=hs.sum
 have hz6:=@R2 m.cp m.cp.length
 refine CtrM.of (n:=22) (k:=4) G Tryz.func39 Z a8 Z Z Z Z Z Z Z (λw0 _ hpin=>?_)
 refine c1o ?_
 refine c7E ?_
 refine zgn ?_
 refine a2G ?_
 refine vm5 ?_
 refine w4 5 [3] Z Z Z (a1W m.cp (k+2 * m.rs.length+m.en.length+m.ra.length) J J J) Z (RowsIn.cons Z RowsIn.nil) Z Z Z ?_
 exact c1E
theorem a3K (m:Mach) (y:Lg) (k:Int) (hs:SmallM m) (hk:0<=k/\k<=10000000):CtrM Tryz.prog 11 [.agg [.own 0,.own 1,.own 2,.own 3,.v (.string y.d),.v (.string y.p),.v (.int .i64 y.n)],.v (.int .i64 k)] [.row 83 2 (m.rs.map m4),.row 4 1 (m.en.map j4),.row 4 1 (m.ra.map j4),.nest 135 4 (m.cp.map (F4 169 182)) []] (.one (.v (.int .i64 (b2k k m)))) [some (.row 83 2 ((mkM k m).rs.map m4)),some (.row 4 1 ((mkM k m).en.map j4)),some (.row 4 1 ((mkM k m).ra.map j4)),some (.nest 135 4 ((mkM k m).cp.map (F4 169 182)) [])]:=by
 have hmn:=a6b (k:=k) hs
 refine CtrM.of (n:=10) (k:=4) G Tryz.func11 Z a8 Z Z Z Z Z Z Z (λw0 _ hpin=>?_)
 refine c1o ?_
 refine vm5 ?_
 refine w4 5 [0,1,2,3] Z Z Z (a3J m k hs hk) Z (RowsIn.cons Z (RowsIn.cons Z (RowsIn.cons Z (RowsIn.cons Z RowsIn.nil)))) Z Z Z ?_
 exact c1E
theorem Y8 (m:Mach) (y:Lg) (t:ByteArray) (hz0:t.size<=9223372036854775807) (hb:BigM m) (h0:y.d.size<=9223372036854775807/\y.p.size<=9223372036854775807):Ctr Tryz.prog 3 [.agg [.lst 2 (m.rs.map m4),.lst 1 (m.en.map j4),.lst 1 (m.ra.map j4),.nst none 4 (m.cp.map (l8 169 182)),.v (.string y.d),.v (.string y.p),.v (.int .i64 y.n)],.v (.string t)] (.one (.v (.bool true))):=by
 refine Ctr.of (n:=104) G Tryz.func3 Z Y Z Z Z (λw0=>?_)
 refine j5 0 Z (λ_=>Z) (λu0=>?_)
 refine d3 (λK1 hK1=>?_)
 refine b8 (a7 Z (A3 1 Z Z Z Z Z Z Z (a7 Z (b5 Z Z (c6 Z Z) (b6 (hK1 _ ?_))))))
 clear hK1 K1
 refine d3 (λK2 hK2=>?_)
 refine d3 (λK3 hK3=>?_)
 refine b8 (a7 Z (b5 Z Z (c7 Z Z) (a7 Z (b5 Z Z (o8 G Z Z Z) (a7 Z (b5 Z Z (B3 Z Z Z Z) (b6 (hK3 _ ?_))))))))
 clear hK3 K3
 refine j9 Z (λh1=>?_) (λh1=>?_)
 ·try rw [h1]
  try simp only [rfb] at h1
  refine d3 (λK4 hK4=>?_)
  refine b8 (a7 Z (b5 Z Z (c6 Z Z) (b6 (hK4 _ ?_))))
  clear hK4 K4
  refine f6 (D0 Z (l4 ?_))
  all_goals clear hK2 K2
  all_goals (first | rfl | (exfalso;omega) | (simp_all;done))
 ·try rw [h1]
  try simp only [rfb] at h1
  have hz:t.size<=1048576:=by omega
  refine s4 (hK2 _ ?_)
  clear hK2 K2
  refine d3 (λK5 hK5=>?_)
  refine b8 (a7 Z (b5 Z Z (c6 Z Z) (b6 (hK5 _ ?_))))
  clear hK5 K5
  refine d3 (λK6 hK6=>?_)
  refine b8 (a7 Z (b5 Z Z (d9 G Z Z Z Z Z Z) (a7 Z (b5 Z Z (c7 Z Z) (a7 Z (b5 Z Z (f7 Z (ArgsOK.of Z) (a7z m y _ hb h0 J) Z) (a7 Z (b5 Z Z (c6 Z Z) (b6 (hK6 _ ?_))))))))))
  clear hK6 K6
  refine d3 (λK7 hK7=>?_)
  refine d3 (λK8 hK8=>?_)
  refine b8 (a7 Z (b5 Z Z (c7 Z Z) (a7 Z (b5 Z Z (B3 Z Z Z Z) (b6 (hK8 _ ?_))))))
  clear hK8 K8
  refine j9 Z (λh2=>?_) (λh2=>?_)
  ·try rw [h2]
   try simp only [rfb] at h2
   refine d3 (λK9 hK9=>?_)
   refine b8 (a7 Z (b5 Z Z (c6 Z Z) (b6 (hK9 _ ?_))))
   clear hK9 K9
   refine f6 (D0 Z (l4 ?_))
   all_goals clear hK7 K7
   all_goals (first | rfl | (exfalso;omega) | (simp_all;done))
  ·try rw [h2]
   try simp only [rfb] at h2
   obtain ⟨hs,hx⟩:=b4T (m:=m) (x:=y) (l:=1048576) J J
   have cs1:=a2M m y t hs hx hz
   have ci1:=a2L m y t hs hx hz
   have hxs:=b66 (s:=t) hs hx
   generalize exC m y t=r at hxs cs1 ci1
   obtain ⟨n,z,o⟩:=r
   dsimp only at hxs cs1 ci1
   obtain ⟨hns,hzx⟩:=hxs
   have hnb:=hns.big
   have hm2:=a6b (m:=m) (k:=1) hs
   have hn2:=a6b (m:=n) (k:=1) hns
   refine s4 (hK7 _ ?_)
   clear hK7 K7
   refine d3 (λK10 hK10=>?_)
   refine b8 (a7 Z (b5 Z Z (d9 G Z Z Z Z Z Z) (a7 Z (c8 5 Z Z Z (ArgsOK.of Z) (I6 m y hs hx) Z Z (a7 Z (b5 Z Z (c7 Z Z) (a7 Z (c8 9 Z Z Z (ArgsOK.of Z) cs1 Z Z (a7 Z (b5 Z Z (c7 Z Z) (a7 Z (b5 Z Z (j7 Z Z Z) (a7 Z (b5 Z Z (j7 Z Z Z) (a7 Z (d6 G 10 Z Z Z Z Z (a7 Z (m3 G Z Z Z Z Z Z Z Z Z Z Z (a7 Z (b5 Z Z (c6 Z Z) (b6 (hK10 _ ?_))))))))))))))))))))))
   clear hK10 K10
   refine d3 (λK11 hK11=>?_)
   refine b8 (a7 Z (b5 Z Z (d9 G Z Z Z Z Z Z) (a7 Z (c8 14 Z Z Z (ArgsOK.of Z) (I6 m y hs hx) Z Z (a7 Z (d6 G 15 Z Z Z Z Z (a7 Z (m3 G Z Z Z Z Z Z Z Z Z Z Z (b6 (hK11 _ ?_))))))))))
   clear hK11 K11
   refine d3 (λK12 hK12=>?_)
   refine b8 (a7 Z (b5 Z Z (d9 G Z Z Z Z Z Z) (a7 Z (b5 Z Z (c7 Z Z) (a7 Z (c8 19 Z Z Z (ArgsOK.of Z) ci1 Z Z (a7 Z (b5 Z Z (c7 Z Z) (a7 Z (b5 Z Z (j7 Z Z Z) (a7 Z (b5 Z Z (j7 Z Z Z) (a7 Z (d6 G 20 Z Z Z Z Z (a7 Z (m3 G Z Z Z Z Z Z Z Z Z Z Z (a7 Z (b5 Z Z (c6 Z Z) (b6 (hK12 _ ?_))))))))))))))))))))
   clear hK12 K12
   refine d3 (λK13 hK13=>?_)
   refine d3 (λK14 hK14=>?_)
   refine b8 (a7 Z (b5 Z Z (d9 G Z Z Z Z Z Z) (a7 Z (b5 Z Z (d9 G Z Z Z Z Z Z) (a7 Z (b5 Z Z (f7 Z (ArgsOK.of Z) (Ctr.bool (Ctr.argsTo (I7 n z n z hnb) (λw vs h=>b88 flM vs h)) (a4a)) Z) (a7 Z (b5 Z Z (a5r Z Z) (a7 Z (b5 Z Z (c7 Z Z) (p5 Z Z Z (b5 Z Z (c7 Z Z) (p5 Z Z Z (b5 Z Z (c7 Z Z) (p5 Z Z Z (b5 Z Z (a7L (v':=.bool false) (s8 Z Z Z Z) (by first | rfl | exact congrArg Value.bool (decide_eq_false J) | (simp;done) | (simp;omega))) (a7 Z (b5 Z Z (x6 Z Z Z) (b6 (hK14 _ ?_))))))))))))))))))))
   clear hK14 K14
   refine K0 Z (s4 (hK13 _ ?_))
   clear hK13 K13
   refine d3 (λK15 hK15=>?_)
   refine d3 (λK16 hK16=>?_)
   refine l3 5 [0,1,2,3,4,5,6,7,8,9,10,11,12,13,14,15,16,17,18,19] mixed Y Z Z (λr0=>?_) (λ_ h=>h)
   refine d5 0 Z Y Y Z Z Z Z (d9 G Z Z Z Z Z Z) (d5 1 Z Y Y Z Z Z Z (d9 G Z Z Z Z Z Z) ?_)
   refine b7 (rs:=[2]) Y Z (AllB.cons ?_ AllB.nil)
   refine f9 [0,1,2,3,4,5,6,7,8,9,10,11,12,13,14,15,16,17,18,19] Z Z (c8 24 Z Z Z (ArgsOK.of Z) (I6 m y hs hx) Z Z (b6 ⟨Z,?_⟩))
   refine b7 (rs:=[3]) Y Z (AllB.cons ?_ AllB.nil)
   refine f9 [0,1,2,3,4,5,6,7,8,9,10,11,12,13,14,15,16,17,18,19] Z Z (b5 Z Z (f7 Z (ArgsOK.of Z) (Ctr.bool (I7 m y m y hb) (a4a)) Z) (b6 ⟨Z,?_⟩))
   refine d5 4 Z Y Y Z Z Z Z (a5r Z Z) (C3 Y (hK16 _ ?_))
   clear hK16 K16
   refine K0 Z (s4 (hK15 _ ?_))
   clear hK15 K15
   refine d3 (λK17 hK17=>?_)
   refine b8 (a7 Z (b5 Z Z (c6 Z Z) (b6 (hK17 _ ?_))))
   clear hK17 K17
   refine d3 (λK18 hK18=>?_)
   refine b8 (a7 Z (b5 Z Z (d9 G Z Z Z Z Z Z) (a7 Z (b5 Z Z (c7 Z Z) (a7 Z (w4 24 [10,11,12,13] Z Z Z (a3H m y 1 hs J) Z (RowsIn.cons Z (RowsIn.cons Z (RowsIn.cons Z (RowsIn.cons Z RowsIn.nil)))) Z Z Z (a7 Z (b5 Z Z (c6 Z Z) (b6 (hK18 _ ?_))))))))))
   clear hK18 K18
   refine d3 (λK19 hK19=>?_)
   refine d3 (λK20 hK20=>?_)
   refine b8 (a7 Z (b5 Z Z (c7 Z Z) (a7 Z (b5 Z Z (a7L (v':=.bool false) (B3 Z Z Z Z) (by first | rfl | exact congrArg Value.bool (decide_eq_false J) | (simp;done) | (simp;omega))) (a7 Z (b5 Z Z (c7 Z Z) (p5 Z Z Z (b5 Z Z (d9 G Z Z Z Z Z Z) (p5 Z Z Z (b5 Z Z (d9 G Z Z Z Z Z Z) (p5 Z Z Z (b5 Z Z (f7 Z (ArgsOK.of Z) (Ctr.bool (Ctr.argsTo (I7 n z n z hnb) (λw vs h=>b88 flM vs h)) (a4a)) Z) (p5 Z Z Z (b5 Z Z (a5r Z Z) (a7 Z (b5 Z Z (x6 Z Z Z) (a7 Z (b5 Z Z (c7 Z Z) (p5 Z Z Z (b5 Z Z (c7 Z Z) (p5 Z Z Z (b5 Z Z (c7 Z Z) (p5 Z Z Z (b5 Z Z (a7L (v':=.bool false) (s8 Z Z Z Z) (by first | rfl | exact congrArg Value.bool (decide_eq_false J) | (simp;done) | (simp;omega))) (a7 Z (b5 Z Z (x6 Z Z Z) (b6 (hK20 _ ?_))))))))))))))))))))))))))))
   clear hK20 K20
   refine K0 Z (s4 (hK19 _ ?_))
   clear hK19 K19
   refine d3 (λK21 hK21=>?_)
   refine b8 (a7 Z (b5 Z Z (c6 Z Z) (b6 (hK21 _ ?_))))
   clear hK21 K21
   refine d3 (λK22 hK22=>?_)
   refine b8 (a7 Z (b5 Z Z (d9 G Z Z Z Z Z Z) (a7 Z (b5 Z Z (c7 Z Z) (a7 Z (w4 24 [15,16,17,18] Z Z Z (a3K n z 1 hns J) Z (RowsIn.cons Z (RowsIn.cons Z (RowsIn.cons Z (RowsIn.cons Z RowsIn.nil)))) Z Z Z (a7 Z (b5 Z Z (c6 Z Z) (b6 (hK22 _ ?_))))))))))
   clear hK22 K22
   refine d3 (λK23 hK23=>?_)
   refine b8 (a7 Z (b5 Z Z (c6 Z Z) (b6 (hK23 _ ?_))))
   clear hK23 K23
   refine d3 (λK24 hK24=>?_)
   refine b8 (a7 Z (b5 Z Z (d9 G Z Z Z Z Z Z) (a7 Z (b5 Z Z (c7 Z Z) (a7 Z (b5 Z Z (f7 Z (ArgsOK.of Z) (Ctr.argsTo (X8 n z 1 hns J) (λw vs h=>b88 flM vs h)) Z) (a7 Z (b5 Z Z (c6 Z Z) (b6 (hK24 _ ?_))))))))))
   clear hK24 K24
   refine d3 (λK25 hK25=>?_)
   refine d3 (λK26 hK26=>?_)
   refine b8 (a7 Z (b5 Z Z (c7 Z Z) (a7 Z (b5 Z Z (a7L (v':=.bool false) (B3 Z Z Z Z) (by first | rfl | exact congrArg Value.bool (decide_eq_false J) | (simp;done) | (simp;omega))) (b6 (hK26 _ ?_))))))
   clear hK26 K26
   refine K0 Z (s4 (hK25 _ ?_))
   clear hK25 K25
   refine d3 (λK27 hK27=>?_)
   refine d3 (λK28 hK28=>?_)
   refine b8 (a7 Z (b5 Z Z (c7 Z Z) (a7 Z (b5 Z Z (c7 Z Z) (a7 Z (b5 Z Z (a7L (v':=.bool false) (B3 Z Z Z Z) (by first | rfl | exact congrArg Value.bool (decide_eq_false J) | (simp;done) | (simp;omega))) (b6 (hK28 _ ?_))))))))
   clear hK28 K28
   refine K0 Z (s4 (hK27 _ ?_))
   clear hK27 K27
   refine d3 (λK29 hK29=>?_)
   refine b8 (a7 Z (b5 Z Z (d9 G Z Z Z Z Z Z) (a7 Z (c8 28 Z Z Z (ArgsOK.of Z) (I6 m y hs hx) Z Z (a7 Z (b5 Z Z (c7 Z Z) (a7 Z (c8 32 Z Z Z (ArgsOK.of Z) ci1 Z Z (a7 Z (b5 Z Z (c7 Z Z) (a7 Z (b5 Z Z (j7 Z Z Z) (a7 Z (b5 Z Z (j7 Z Z Z) (a7 Z (d6 G 33 Z Z Z Z Z (a7 Z (m3 G Z Z Z Z Z Z Z Z Z Z Z (a7 Z (b5 Z Z (c6 Z Z) (b6 (hK29 _ ?_))))))))))))))))))))))
   clear hK29 K29
   refine d3 (λK30 hK30=>?_)
   refine d3 (λK31 hK31=>?_)
   refine b8 (a7 Z (b5 Z Z (d9 G Z Z Z Z Z Z) (a7 Z (b5 Z Z (d9 G Z Z Z Z Z Z) (a7 Z (b5 Z Z (f7 Z (ArgsOK.of Z) (Ctr.bool (Ctr.argsTo (I7 n z n z hnb) (λw vs h=>b88 flM vs h)) (a4a)) Z) (a7 Z (b5 Z Z (a5r Z Z) (a7 Z (b5 Z Z (c7 Z Z) (p5 Z Z Z (b5 Z Z (c7 Z Z) (p5 Z Z Z (b5 Z Z (c7 Z Z) (p5 Z Z Z (b5 Z Z (a7L (v':=.bool false) (s8 Z Z Z Z) (by first | rfl | exact congrArg Value.bool (decide_eq_false J) | (simp;done) | (simp;omega))) (a7 Z (b5 Z Z (x6 Z Z Z) (b6 (hK31 _ ?_))))))))))))))))))))
   clear hK31 K31
   refine K0 Z (s4 (hK30 _ ?_))
   clear hK30 K30
   refine d3 (λK32 hK32=>?_)
   refine b8 (a7 Z (b5 Z Z (c6 Z Z) (b6 (hK32 _ ?_))))
   clear hK32 K32
   refine d3 (λK33 hK33=>?_)
   refine b8 (a7 Z (b5 Z Z (d9 G Z Z Z Z Z Z) (a7 Z (b5 Z Z (c7 Z Z) (a7 Z (b5 Z Z (f7 Z (ArgsOK.of Z) (Ctr.argsTo (X8 n z 1 hns J) (λw vs h=>b88 flM vs h)) Z) (a7 Z (b5 Z Z (c6 Z Z) (b6 (hK33 _ ?_))))))))))
   clear hK33 K33
   refine d3 (λK34 hK34=>?_)
   refine d3 (λK35 hK35=>?_)
   refine b8 (a7 Z (b5 Z Z (c7 Z Z) (a7 Z (b5 Z Z (a7L (v':=.bool false) (B3 Z Z Z Z) (by first | rfl | exact congrArg Value.bool (decide_eq_false J) | (simp;done) | (simp;omega))) (b6 (hK35 _ ?_))))))
   clear hK35 K35
   refine K0 Z (s4 (hK34 _ ?_))
   clear hK34 K34
   refine d3 (λK36 hK36=>?_)
   refine d3 (λK37 hK37=>?_)
   refine b8 (a7 Z (b5 Z Z (c7 Z Z) (a7 Z (b5 Z Z (c7 Z Z) (a7 Z (b5 Z Z (a7L (v':=.bool false) (B3 Z Z Z Z) (by first | rfl | exact congrArg Value.bool (decide_eq_false J) | (simp;done) | (simp;omega))) (b6 (hK37 _ ?_))))))))
   clear hK37 K37
   refine K0 Z (s4 (hK36 _ ?_))
   clear hK36 K36
   refine d3 (λK38 hK38=>?_)
   refine b8 (a7 Z (b5 Z Z (c6 Z Z) (b6 (hK38 _ ?_))))
   clear hK38 K38
   refine f6 (D0 Z (l4 ?_))
   all_goals (first | rfl | (exfalso;omega) | (simp_all;done))
end Go.Proofs.YtpfhomblkgmkkaaGreatDoor
namespace Go.Proofs.YtpfhomblkgmkkaaGreatDoor
open Go Go.ChangeShapes Go.WideShapes Go.ChangeAt Go.RowKit Go.Rf
theorem a3L {H:Type} {enc:TypeId×Value→H} {a:Assume} {C:Checked} {os:Os} {f:FuncId} {fn:Func} {s:ChangeSpec} {conds:List PathCond} {apart fresh handsOn again:Bool} {X:World→Array Value→Prop}
 (hX:∀(w w':World) (args:Array Value),w.heap=w'.heap→X w args→X w' args)
 (own:ownKnob C.prog.godebug=none) (started:os.Started) (noInit:C.prog.inits.idxOf? f=none) (hfn:C.prog.funcs[f]?=some fn)
 (witness:∃(w:World) (tape:Tape) (i:Input),w.os=os/\(w.forCall tape i).Shaped C.prog/\i.vars=[]/\Input.okWide C.prog (w.forCall tape i) .any w.heap.size f i /\
  ((s.pre enc C.prog fn conds apart (w.forCall tape i).memory i.args/\X (w.forCall tape i).memory i.args)/\sizedMet enc C.prog fn (OpenSpec.ofChange s) apart (w.forCall tape i).memory i.args)/\a.holds C.prog (lone (Frame.enter C.prog f i.args .normal) [] (w.forCall tape i)))
 (contract:∀(W:World) (base:Nat) (args:Array Value) (ds gs:List (DataW H)) (before:List MemPlace),
  (∀(j:Nat) t v,fn.params[j]?=some t→args[j]?=some v→Value.okWide C.prog W .any base t v) →
  DataW.Whole enc C.prog fn.params.toList s.vars apart W args.toList ds gs before →
  W.ShapedOpen C.prog→X W args →
  Calls C.prog f args W λe W'=>∃v,e=.returned v/\s.post enc C.prog fn apart fresh handsOn again W args v W') :
 ReturnsInHanded a C os f .any (λw args=>(s.pre enc C.prog fn conds apart w args/\X w args)/\sizedMet enc C.prog fn (OpenSpec.ofChange s) apart w args) (s.post enc C.prog fn apart fresh handsOn again):=by
 refine returnsInHanded_of_calls own started noInit witness ?_
 intro w tape i _ hsh _ hok hpre hholds
 obtain ⟨_,_,_,fn',hfn',_,_,_,_,hval⟩:=hok
 have e:fn'=fn:=Option.some.inj (hfn'.symm.trans hfn)
 subst e
 obtain ⟨⟨⟨ds,gs,before,hw,hc⟩,hx⟩,hz⟩:=hpre
 have hw':=DataW.Whole.of_heap (w':=w.forCall tape i) (by rfl) hw
 refine (contract (w.forCall tape i) w.heap.size i.args ds gs before hval hw' hsh (hX _ _ _ (by rfl) hx)).mono λe W' ⟨v,he,hp⟩=>?_
 subst he
 exact ChangeSpec.post_blind hp
theorem own:ownKnob Tryz.prog.godebug=Option.none:=by kernel_rfl
theorem b6h:laidOutB Tryz.prog=true:=by kernel_rfl
abbrev a6H:List (String×DataW Unit):=[("math/bits.deBruijn32tab",Rows.laid_math_bits_deBruijn32tab),("math/bits.deBruijn64tab",Rows.laid_math_bits_deBruijn64tab),("internal/strconv.uint64pow10",Rows.laid_internal_strconv_uint64pow10),("unicode/utf8.acceptRanges",Rows.laid_unicode_utf8_acceptRanges),("strconv.ErrRange",Rows.laid_strconv_ErrRange),("strconv.ErrSyntax",Rows.laid_strconv_ErrSyntax),("unicode/utf8.first",Rows.laid_unicode_utf8_first)]
abbrev c8D:ByteArray:={ data:=#[105,110,118,97,108,105,100,32,115,121,110,116,97,120] }
abbrev c8E:ByteArray:={ data:=#[118,97,108,117,101,32,111,117,116,32,111,102,32,114,97,110,103,101] }
noncomputable def low:Nat:=(World.holding Tryz.prog default ⟨#[],#[],[]⟩).heap.size
noncomputable def b1N (os:Os):World :=
 let w0:=World.holding Tryz.prog os ⟨#[.cells #[.string c8D] 312,.cells #[.string c8E] 312],#[],[]⟩
 let put (h:Array Obj) (g:Nat) (cs:Array Value):Array Obj:=h.modify g fun
  | .cells _ t frozen=>.cells cs t frozen
  | o=>o
 let h1:=put w0.heap 6 #[.int .u8 0,.int .u8 1,.int .u8 28,.int .u8 2,.int .u8 29,.int .u8 14,.int .u8 24,.int .u8 3,.int .u8 30,.int .u8 22,.int .u8 20,.int .u8 15,.int .u8 25,.int .u8 17,.int .u8 4,.int .u8 8,.int .u8 31,.int .u8 27,.int .u8 13,.int .u8 23,.int .u8 21,.int .u8 19,.int .u8 16,.int .u8 7,.int .u8 26,.int .u8 12,.int .u8 18,.int .u8 6,.int .u8 11,.int .u8 5,.int .u8 10,.int .u8 9]
 let h2:=put h1 7 #[.int .u8 0,.int .u8 1,.int .u8 56,.int .u8 2,.int .u8 57,.int .u8 49,.int .u8 28,.int .u8 3,.int .u8 61,.int .u8 58,.int .u8 42,.int .u8 50,.int .u8 38,.int .u8 29,.int .u8 17,.int .u8 4,.int .u8 62,.int .u8 47,.int .u8 59,.int .u8 36,.int .u8 45,.int .u8 43,.int .u8 51,.int .u8 22,.int .u8 53,.int .u8 39,.int .u8 33,.int .u8 30,.int .u8 24,.int .u8 18,.int .u8 12,.int .u8 5,.int .u8 63,.int .u8 55,.int .u8 48,.int .u8 27,.int .u8 60,.int .u8 41,.int .u8 37,.int .u8 16,.int .u8 46,.int .u8 35,.int .u8 44,.int .u8 21,.int .u8 52,.int .u8 32,.int .u8 23,.int .u8 11,.int .u8 54,.int .u8 26,.int .u8 40,.int .u8 15,.int .u8 34,.int .u8 20,.int .u8 31,.int .u8 10,.int .u8 25,.int .u8 14,.int .u8 19,.int .u8 9,.int .u8 13,.int .u8 8,.int .u8 7,.int .u8 6]
 let h3:=put h2 3 #[.int .u64 1,.int .u64 10,.int .u64 100,.int .u64 1000,.int .u64 10000,.int .u64 100000,.int .u64 1000000,.int .u64 10000000,.int .u64 100000000,.int .u64 1000000000,.int .u64 10000000000,.int .u64 100000000000,.int .u64 1000000000000,.int .u64 10000000000000,.int .u64 100000000000000,.int .u64 1000000000000000,.int .u64 10000000000000000,.int .u64 100000000000000000,.int .u64 1000000000000000000,.int .u64 10000000000000000000]
 let h4:=put h3 5 #[.int .u8 128,.int .u8 191,.int .u8 160,.int .u8 191,.int .u8 128,.int .u8 159,.int .u8 144,.int .u8 191,.int .u8 128,.int .u8 143,.int .u8 0,.int .u8 0,.int .u8 0,.int .u8 0,.int .u8 0,.int .u8 0,.int .u8 0,.int .u8 0,.int .u8 0,.int .u8 0,.int .u8 0,.int .u8 0,.int .u8 0,.int .u8 0,.int .u8 0,.int .u8 0,.int .u8 0,.int .u8 0,.int .u8 0,.int .u8 0,.int .u8 0,.int .u8 0]
 let h5:=put h4 2 #[.iface 310 (.pointer (some ⟨low+1,0,none⟩))]
 let h6:=put h5 1 #[.iface 310 (.pointer (some ⟨low,0,none⟩))]
 let h7:=put h6 4 (Go.Pinned.utf8FirstZ.map (λ(n:Nat)=>Value.int .u8 (n:Int))).toArray
 { w0 with heap:=h7 }
theorem b9Y (os:Os) (args:Array Value):laidMet Tryz.prog a6H ((b1N os).forCall (λ_ _=>0) ⟨#[],args,[]⟩).memory :=
 (LaidIn.of_run [6,7,3,5,2,low+1,1,low,4] 8 Y Y Y Y).met
theorem gP:Tryz.prog.globalNamed "internal/strconv.uint64pow10" = some 3:=by kernel_rfl
theorem c6h:(Tryz.prog.globals[3]?).map (·.type)=some 293:=by kernel_rfl
theorem c6i:Tryz.prog.cellsOf 246=1:=by kernel_rfl
theorem c6j:Tryz.prog.cellsOf 293=20:=by kernel_rfl
theorem c8F:(Rows.laid_internal_strconv_uint64pow10:DataW Unit)=Lib.tabData .u64 Lib.pow10Tab:=by kernel_rfl
theorem c6k {W:World} (h:laidMet Tryz.prog a6H W):Lib.TabIs Tryz.prog W "internal/strconv.uint64pow10" .u64 Lib.pow10Tab:=by
 have h2:=h.tail.tail
 rw [c8F] at h2
 exact Lib.tabIs_of_head gP c6h Tryz.underlying293 Tryz.underlying246 c6i c6j h2
theorem gES:Tryz.prog.globalNamed "strconv.ErrSyntax" = some 1:=by kernel_rfl
theorem c1I:(Tryz.prog.globals[1]?).map (·.type)=some 147:=by kernel_rfl
theorem b9Z:Tryz.prog.cellsOf 312=1:=by kernel_rfl
theorem c6l:Tryz.prog.cellsOf 9=1:=by kernel_rfl
theorem c8k : "*" ++ "errors.errorString" = "*errors.errorString" := by decide
theorem c6m (u:TypeId) (h:Tryz.prog.typeName? 3 u=some "*errors.errorString"):u=310 :=
 typeName_ptr_named (nm := "errors.errorString") (by rw [c8k];kernel_rfl) Y (by decide) u (by rw [c8k];exact h)
theorem c6n {W:World} (h:laidMet Tryz.prog a6H W):∃ev:Value,W.cell? ⟨1,0,none⟩=some ev/\(ev=.nilIface∨∃te pe,ev=.iface te pe):=by
 obtain ⟨a0,s0,hv0,-,-,-⟩:=laid_sentinel h.tail.tail.tail.tail.tail gES c1I Tryz.underlying147 c6m Tryz.underlying310 Tryz.underlying312 Z Z Tryz.underlying9 b9Z c6l
 exact ⟨_,by have h0:=World.var?_cell gES hv0 0;simpa using h0,.inr ⟨_,_,Z⟩⟩
theorem c6o {W:World} (h:laidMet Tryz.prog a6H W) (hsh:W.ShapedOpen Tryz.prog):Env.E Tryz.prog W:=⟨c6k h,c6n h,b7h W hsh⟩
end Go.Proofs.YtpfhomblkgmkkaaGreatDoor
