/- Texts merged into one: R5, R6, K2, R7, R8, E. -/
import Derived.Test.YtpfhomblkgmkkaaGreatDoorPFnExactRunScriptI
import Derived.Test.YtpfhomblkgmkkaaGreatDoorRows
import Derived.LaidLaws
import Derived.Lib.LaidIn
import Derived.Stop.LaidErr
import Derived.HandedShaped
set_option maxHeartbeats 4000000
set_option linter.unusedSimpArgs false
set_option linter.unusedVariables false
set_option maxRecDepth 20000
namespace Go.Proofs.YtpfhomblkgmkkaaGreatDoor
open Go Go.Rf
theorem a7x (m:Mach) (y:Lg) (t:ByteArray) (hs:SmallM m) (hx:y.d.size+y.p.size<=1048576) (hz:t.size<=1048576):Ctr Tryz.prog 13 [.agg [.lst 2 (m.rs.map l7),.lst 1 (m.en.map j6),.lst 1 (m.ra.map j6),.nst none 4 (m.cp.map (l6 169 182)),.v (.string y.d),.v (.string y.p),.v (.int .i64 y.n)],.v (.string t)] (.many [.fr 9 1 ((scT m y t).1.map U0),.v (.bool (scT m y t).2)]):=by
 have hsl:=G6 (s:=t) (b:=10)
 refine Ctr.of (n:=47) G Tryz.func13 Z a8 Z Z Z (λw0=>?_)
 refine j5 0 Z (λ_=>Z) (λu0=>?_)
 refine vm3 ?_
 refine n9 ?_
 refine b3Y ?_
 refine n9 ?_
 refine c8 3 Z Z Z (ArgsOK.of Z) (H8 t 10 hz) Z Z ?_
 refine zcl (a3I m y hs hx) ?_
 refine zcd (λh1=>?_) (λh1=>?_)
 ·have hO:=c2f (t:=t) h1
  refine zwt ?_
  exact b9J
 refine c1s ?_
 refine zcd (λh2=>?_) (λh2=>?_)
 ·have hO:=c2g (m:=m) (y:=y) (t:=t) J
  refine zwt ?_
  exact b9J
 refine zcd (λh3=>?_) (λh3=>?_)
 ·have hO:=c2h (m:=m) (y:=y) (t:=t) J
  exact b9J
 refine zgn ?_
 refine zgn ?_
 refine zgn ?_
 refine r4 (B4 (Gh.bump 7 (by decide)) (d9 [2,7] [2] (λ(x:Bool×Nat)=>match x.1 with | false=>[(6,.own 1),(9,.v (.int .i64 (x.2:Int)))] | true=>[(6,.own 1),(9,.v (.int .i64 (x.2:Int)))]) (λ(x:Bool×Nat)=>match x.1 with | false=>[(0,some (.box [.pin (u0 0) 2 (m.rs.map l7),.pin (u0 1) 1 (m.en.map j6),.pin (u0 2) 1 (m.ra.map j6),.nst (some (u0 3)) 4 (m.cp.map (l6 169 182)),.v (.string y.d),.v (.string y.p),.v (.int .i64 y.n)])),(1,some (.row 9 1 ((a3u m y t x.2).map U0)))] | true=>[(0,some (.box [.own 3,.own 4,.own 5,.own 6,.v (.string (U9 m y (csT t) x.2).2.d),.v (.string (U9 m y (csT t) x.2).2.p),.v (.int .i64 (U9 m y (csT t) x.2).2.n)])),(1,some (.row 9 1 ((a3u m y t x.2).map U0))),(3,some (.row 83 2 ((U9 m y (csT t) x.2).1.rs.map l7))),(4,some (.row 4 1 ((U9 m y (csT t) x.2).1.en.map j6))),(5,some (.row 4 1 ((U9 m y (csT t) x.2).1.ra.map j6))),(6,some (.nest 135 4 ((U9 m y (csT t) x.2).1.cp.map (l6 169 182)) []))]) (λ(x:Bool×Nat)=>x.2<=(e7 t 10).length/\(x.1=false→x.2=0)) (λ(x:Bool×Nat)=>(e7 t 10).length - x.2) (false,0) Z Z ?_ ?_ ?_ ?_))
 ·exact ⟨Nat.zero_le _,λ_=>Z⟩
 ·exact a0e
 ·exact b7e
 intro x hinv
 obtain ⟨ph,i⟩:=x;obtain ⟨hi,hph⟩:=hinv;dsimp only at hi hph;cases ph
 ·obtain rfl:i=0:=hph Z
  have hS:=hs
  have hL:=hx
  have hcs:=@b2C t 0
  have hrl:=@a0n m y t 0
  dsimp only
  refine vm4 ?_
  refine zcd (λh4=>?_) (λh4=>?_)
  ·refine zgn ?_
   refine p6 (r4 (p6 (j7 11 [1,2] mixed a8 Z Z (λr0=>?_) (λ_ h=>h))))
   refine c7A ?_
   refine b7 (rs:=[0]) a8 Z (AllB.cons ?_ AllB.nil)
   refine f8 [1,2] Z Z ?_
   refine J5 ?_
   refine b7 (rs:=[5]) a8 Z (AllB.cons ?_ AllB.nil)
   refine f8 [1,2] Z Z (c8 11 Z Z Z (ArgsOK.of Z) (S9 m y (csT t 0) hS hL J) Z Z (b6 ⟨Z,?_⟩))
   refine zsa 6 ?_
   refine zsa 7 ?_
   refine zsa 8 ?_
   refine b7 (rs:=[9]) a8 Z (AllB.cons ?_ AllB.nil)
   refine f8 [1,2] Z Z ?_
   refine J5 ?_
   refine zsa 10 ?_
   refine H4 ?_
   refine n9 ?_
   refine s4 G 12 Z Z Z Z Z Z Z Z ?_
   refine vm6 ?_
   refine zgn ?_
   refine a2v ?_
   exact c70
  exfalso;omega
 obtain ⟨hS,hL⟩:=a8U (cs:=csT t) hs hx i
 have hcs:=@b2C t i
 have hrl:=@a0n m y t i
 dsimp only
 refine vm4 ?_
 refine zcd (λh5=>?_) (λh5=>?_)
 ·refine zgn ?_
  refine p6 (r4 (p6 (j7 11 [1,2,3,4,5,6] mixed a8 Z Z (λr0=>?_) (λ_ h=>h))))
  refine c7A ?_
  refine b7 (rs:=[0]) a8 Z (AllB.cons ?_ AllB.nil)
  refine f8 [1,2,3,4,5,6] Z Z ?_
  refine J5 ?_
  refine b7 (rs:=[5]) a8 Z (AllB.cons ?_ AllB.nil)
  refine f8 [1,2,3,4,5,6] Z Z (c8 11 Z Z Z (ArgsOK.of Z) (S9 (U9 m y (csT t) i).1 (U9 m y (csT t) i).2 (csT t i) hS hL J) Z Z (b6 ⟨Z,?_⟩))
  refine zsa 6 ?_
  refine zsa 7 ?_
  refine zsa 8 ?_
  refine b7 (rs:=[9]) a8 Z (AllB.cons ?_ AllB.nil)
  refine f8 [1,2,3,4,5,6] Z Z ?_
  refine J5 ?_
  refine zsa 10 ?_
  refine H4 ?_
  refine n9 ?_
  refine s4 G 12 Z Z Z Z Z Z Z Z ?_
  refine vm6 ?_
  refine zgn ?_
  refine a2v ?_
  exact c71
 obtain rfl:i=(e7 t 10).length:=J
 have hO:=c7k (m:=m) (y:=y) (t:=t) h1 J J
 refine zgo ?_
 refine e6 (p8 Z Z Z Z (b4 (d6 Z ?_) (b4 (l3 ?_) f6)))
 all_goals exact b60
theorem a2K (k:Int) (hk:k<=9223372036854775806):Ctr Tryz.prog 43 [.v (.int .i64 k)] (.one (.v (.string (mtT k)))):=by
 refine Ctr.of (n:=20) G Tryz.func43 Z a8 Z Z Z (λw0=>?_)
 refine zgn ?_
 refine zgn ?_
 refine m6 Z (λh1=>?_) (λh1=>?_)
 ·try rw [h1]
  try simp only [rfb] at h1
  refine a42 ?_
  all_goals exact c2N
 try rw [h1]
 try simp only [rfb] at h1
 refine zgn ?_
 refine a6r ?_
 obtain ⟨k0,rfl⟩:∃k0:Nat,k=(k0:Int):=⟨k.toNat,by omega⟩
 refine d9 [] [] (λ(⟨n,s⟩:Nat×ByteArray)=>[(0,.v (.int .i64 (n:Int))),(3,.v (.string s))]) (λ(⟨n,s⟩:Nat×ByteArray)=>[]) (λ(⟨n,s⟩:Nat×ByteArray)=>(s.size:Int)+n<=k0/\∃f,n<=f/\mtF f n s=mtF k0 k0 ⟨#[]⟩) (λ(⟨n,s⟩:Nat×ByteArray)=>n) (k0,⟨#[]⟩) Z Z ?_ ?_ ?_ ?_
 ·exact ⟨Int.le_of_eq (Int.zero_add _),k0,Nat.le_refl _,Z⟩
 ·exact a0e
 ·exact trivial
 intro ⟨n,s⟩ hinv
 have hi1:(s.size:Int)+n<=k0:=hinv.1
 refine vm4 ?_
 refine zgn ?_
 refine m6 Z (λh2=>?_) (λh2=>?_)
 ·try rw [h2]
  try simp only [rfb] at h2
  refine zgn ?_
  refine r4 ?_
  refine a0d ?_
  refine zst ?_
  refine vm5 ?_
  refine c5S ?_
  refine vm2 ?_
  refine vm5 ?_
  refine b5 Z Z (a6G G Z Z Z Z) ?_
  refine vm5 ?_
  refine s4 G 1 Z Z Z Z Z Z Z Z ?_
  refine vm5 ?_
  refine b5 Z Z (c6n G Z Z Z Z Z Z Z) ?_
  refine c7M ?_
  refine zgn ?_
  refine b8 ?_
  refine zst ?_
  refine vm5 ?_
  first | refine b5 Z Z (b0L Z Z Z J J J) ?_ | refine b5 Z Z (b7l Z Z Z J) ?_
  refine zgn ?_
  refine ⟨(n / 10,b7u (n:Int)++s),?_,?_,⟨⟨_,Z,by (first | rfl | exact congrArg (λz=>AV.v (Value.int IntKind.i64 z)) c2T)⟩,Z,⟨⟨_,Z,by (first | rfl | exact congrArg (λz=>AV.v (Value.int IntKind.i64 z)) c2T)⟩,Z,trivial⟩⟩,trivial,Z,Z,Z⟩
  ·(have hf:=hinv.2;obtain ⟨f,hf1,hf2⟩:=hf;exact ⟨(by show ((b7u (n:Int)++s).size:Int)+((n / 10:Nat):Int)<=_;rw [ByteArray.size_append,b6s];omega),f - 1,(by show n / 10<=f - 1;omega),(by rw [← hf2,b7w J hf1])⟩)
  (show n / 10 < n;omega)
 try rw [h2]
 try simp only [rfb] at h2
 refine zgn ?_
 refine a0d ?_
 refine c7M ?_
 refine a42 ?_
 all_goals exact c2N
theorem V3 (xs ys:List ByteArray) (hn:xs.length<=9223372036854775807):Ctr Tryz.prog 15 [.lst 1 (xs.map U0),.lst 1 (ys.map U0)] (.one (.v (.bool (@decide (xs=ys) (Classical.propDecidable _))))):=by
 refine Ctr.of (n:=26) G Tryz.func15 Z a8 Z Z Z (λw0=>?_)
 refine zcd (λh1=>?_) (λh1=>?_)
 ·exact b7b
 refine zgo ?_
 refine d9 [0,1] [] (λ(i:Nat)=>[(5,.v (.int .i64 (i:Int)))]) (λ(i:Nat)=>[]) (λ(i:Nat)=>i<=xs.length/\∀j,j < i→xs.getD j default=ys.getD j default) (λ(i:Nat)=>xs.length - i) 0 Z Z ?_ ?_ ?_ ?_
 ·exact D9
 ·exact u3
 ·exact trivial
 intro i hinv
 refine vm4 ?_
 refine zcd (λh2=>?_) (λh2=>?_)
 ·refine zgd ?_
  refine zgo ?_
  refine j4 Z (r5 Z Z (u4 Z Z Z Z) ?_)
  refine zcd (λh3=>?_) (λh3=>?_)
  ·exact b7b
  refine zgo ?_
  refine ⟨(i+1),?_,?_,⟨⟨_,Z,by rfl⟩,Z,trivial⟩,trivial,Z,Z,Z⟩
  ·exact ⟨by omega,n7 hinv.2 (by first | exact W0 i1 | exact W0 a4q)⟩
  omega
 refine zf1 ?_
 all_goals exact c1k
theorem a5g (xs:List ByteArray) (hn:xs.length<=1048576):CtrM Tryz.prog 16 [.own 0,.v (.int .i64 1)] [.row 9 1 (xs.map U0)] (.one (.v (.int .i64 (1+(xs.length:Int))))) [some (.row 9 1 ((over (mkW 1) xs xs.length).map U0))]:=by
 refine CtrM.of (n:=20) (k:=1) G Tryz.func16 Z a8 Z Z Z Z Z Z Z (λw0 _ hpin=>?_)
 refine zgn ?_
 refine zgn ?_
 refine r4 (d9 [0] [] (λ(i:Nat)=>[(1,.v (.int .i64 (1+(i:Int)))),(5,.v (.int .i64 (i:Int)))]) (λ(i:Nat)=>[(0,some (.row 9 1 ((over (mkW 1) xs i).map U0)))]) (λ(i:Nat)=>i<=xs.length) (λ(i:Nat)=>xs.length - i) 0 Z Z ?_ ?_ ?_ ?_)
 ·exact C7
 ·exact a0e
 ·exact b7d
 intro i hinv
 have hi:i<=xs.length:=hinv
 refine b62 ?_
 refine m6 Z (λh1=>?_) (λh1=>?_)
 ·try rw [h1]
  try simp only [rfb] at h1
  refine a6r ?_
  refine p6 ?_
  refine a2v ?_
  refine vm5 ?_
  refine b5 Z Z (f9 Z (ArgsOK.of Z) (a2K _ J) Z) ?_
  refine vm8 ?_
  refine zst ?_
  refine vm2 ?_
  refine zgn ?_
  refine ⟨(i+1),?_,?_,⟨⟨_,Z,by (first | rfl | (congr 2;omega))⟩,Z,⟨⟨_,Z,by (first | rfl | (congr 2;omega))⟩,Z,trivial⟩⟩,⟨⟨_,Z,by exact congrArg (Row.row _ _) (by (try simp only [List.set_set]);exact a1w (g:=mkW 1) (f:=U0) J)⟩,Z,Z,trivial⟩,Z,Z,Z⟩
  ·omega
  omega
 try rw [h1]
 try simp only [rfb] at h1
 refine zgn ?_
 refine zgn ?_
 refine e6 (J0 Z (l3 ?_) Z (AftOK.stays Z ?_ Z AftOK.nil))
 all_goals (
  have e:i=xs.length:=J
  subst e
  first | rfl | (congr 1;omega)
 )
theorem a0J (xs:List ByteArray) (hn:xs.length<=1048576):Ctr Tryz.prog 17 [.lst 1 ((over (mkW 1) xs xs.length).map U0),.v (.int .i64 1)] (.one (.v (.int .i64 (1+(xs.length:Int))))):=by
 refine Ctr.of (n:=22) G Tryz.func17 Z a8 Z Z Z (λw0=>?_)
 refine zgn ?_
 refine zgn ?_
 refine r4 (d9 [0] [] (λ(i:Nat)=>[(1,.v (.int .i64 (1+(i:Int)))),(5,.v (.int .i64 (i:Int)))]) (λ(i:Nat)=>[]) (λ(i:Nat)=>i<=xs.length) (λ(i:Nat)=>xs.length - i) 0 Z Z ?_ ?_ ?_ ?_)
 ·exact C7
 ·exact a0e
 ·exact trivial
 intro i hinv
 have hi:i<=xs.length:=hinv
 refine vm4 ?_
 refine p6 ?_
 refine a0d ?_
 refine P0 ?_
 refine vm5 ?_
 first | refine b5 Z Z (T7 G Z Z Z Z (by rw [List.length_map,b6q])) ?_ | refine b5 Z Z (a1o G Z Z Z Z) ?_
 refine zgn ?_
 refine m6 Z (λh1=>?_) (λh1=>?_)
 ·try rw [h1]
  try simp only [rfb] at h1
  refine a6r ?_
  refine p6 ?_
  refine b67 ?_
  refine P0 ?_
  refine j4 Z (r5 Z Z (a7z G Z Z Z Z J (b6r J)) ?_)
  refine P0 ?_
  refine j4 Z (r5 Z Z (f9 Z (ArgsOK.of Z) (a2K _ J) Z) (j4 Z (r5 Z Z (u4 Z Z Z Z) ?_)))
  refine zgn ?_
  refine m6 Z (λh2=>?_) (λh2=>?_)
  ·try rw [h2]
   try simp only [rfb] at h2
   refine a42 ?_
   all_goals exact c2O
  try rw [h2]
  try simp only [rfb] at h2
  refine zgn ?_
  refine a2w ?_
  refine a2w ?_
  refine ⟨(i+1),?_,?_,⟨⟨_,Z,by (first | rfl | (congr 2;omega))⟩,Z,⟨⟨_,Z,by (first | rfl | (congr 2;omega))⟩,Z,trivial⟩⟩,trivial,Z,Z,Z⟩
  ·omega
  omega
 try rw [h1]
 try simp only [rfb] at h1
 refine zgn ?_
 refine a42 ?_
 all_goals exact c2O
theorem a1V (xs:List Bool) (k:Int) (hn:xs.length<=1048576) (hk:0<=k/\k<=1000000000):CtrM Tryz.prog 80 [.own 0,.v (.int .i64 k)] [.row 4 1 (xs.map j6)] (.one (.v (.int .i64 (k+(xs.length:Int))))) [some (.row 4 1 ((over (mkO k) xs xs.length).map j6))]:=by
 refine CtrM.of (n:=21) (k:=1) G Tryz.func80 Z a8 Z Z Z Z Z Z Z (λw0 _ hpin=>?_)
 refine zgn ?_
 refine zgn ?_
 refine r4 (d9 [0] [] (λ(i:Nat)=>[(1,.v (.int .i64 (k+(i:Int)))),(5,.v (.int .i64 (i:Int)))]) (λ(i:Nat)=>[(0,some (.row 4 1 ((over (mkO k) xs i).map j6)))]) (λ(i:Nat)=>i<=xs.length) (λ(i:Nat)=>xs.length - i) 0 Z Z ?_ ?_ ?_ ?_)
 ·exact C7
 ·exact b9I
 ·exact b7d
 intro i hinv
 have hi:i<=xs.length:=hinv
 refine b62 ?_
 refine m6 Z (λh1=>?_) (λh1=>?_)
 ·try rw [h1]
  try simp only [rfb] at h1
  refine a6r ?_
  refine p6 ?_
  refine a2v ?_
  refine vm5 ?_
  refine c5S ?_
  refine zst ?_
  refine vm8 ?_
  refine zst ?_
  refine vm2 ?_
  refine zgn ?_
  refine ⟨(i+1),?_,?_,⟨⟨_,Z,by (first | rfl | (congr 2;omega))⟩,Z,⟨⟨_,Z,by (first | rfl | (congr 2;omega))⟩,Z,trivial⟩⟩,⟨⟨_,Z,by exact congrArg (Row.row _ _) (by (try simp only [List.set_set]);exact a1w (g:=mkO k) (f:=j6) J)⟩,Z,Z,trivial⟩,Z,Z,Z⟩
  ·omega
  omega
 try rw [h1]
 try simp only [rfb] at h1
 refine zgn ?_
 refine zgn ?_
 refine e6 (J0 Z (l3 ?_) Z (AftOK.stays Z ?_ Z AftOK.nil))
 all_goals (
  have e:i=xs.length:=J
  subst e
  first | rfl | (congr 1;omega)
 )
theorem a8B (xs:List Int) (k:Int) (hn:xs.length<=1048576) (hk:0<=k/\k<=1000000000):CtrM Tryz.prog 124 [.own 0,.v (.int .i64 k)] [.row 3 1 (xs.map Rf.n8)] (.one (.v (.int .i64 (k+(xs.length:Int))))) [some (.row 3 1 ((over (mkI k) xs xs.length).map Rf.n8))]:=by
 refine CtrM.of (n:=19) (k:=1) G Tryz.func124 Z a8 Z Z Z Z Z Z Z (λw0 _ hpin=>?_)
 refine zgn ?_
 refine zgn ?_
 refine r4 (d9 [0] [] (λ(i:Nat)=>[(1,.v (.int .i64 (k+(i:Int)))),(5,.v (.int .i64 (i:Int)))]) (λ(i:Nat)=>[(0,some (.row 3 1 ((over (mkI k) xs i).map Rf.n8)))]) (λ(i:Nat)=>i<=xs.length) (λ(i:Nat)=>xs.length - i) 0 Z Z ?_ ?_ ?_ ?_)
 ·exact C7
 ·exact b9I
 ·exact b7d
 intro i hinv
 have hi:i<=xs.length:=hinv
 refine b62 ?_
 refine m6 Z (λh1=>?_) (λh1=>?_)
 ·try rw [h1]
  try simp only [rfb] at h1
  refine a6r ?_
  refine p6 ?_
  refine a2v ?_
  refine vm8 ?_
  refine zst ?_
  refine vm2 ?_
  refine zgn ?_
  refine ⟨(i+1),?_,?_,⟨⟨_,Z,by (first | rfl | (congr 2;omega))⟩,Z,⟨⟨_,Z,by (first | rfl | (congr 2;omega))⟩,Z,trivial⟩⟩,⟨⟨_,Z,by exact congrArg (Row.row _ _) (by (try simp only [List.set_set]);exact a1w (g:=mkI k) (f:=Rf.n8) J)⟩,Z,Z,trivial⟩,Z,Z,Z⟩
  ·omega
  omega
 try rw [h1]
 try simp only [rfb] at h1
 refine zgn ?_
 refine zgn ?_
 refine e6 (J0 Z (l3 ?_) Z (AftOK.stays Z ?_ Z AftOK.nil))
 all_goals (
  have e:i=xs.length:=J
  subst e
  first | rfl | (congr 1;omega)
 )
theorem a7y (xs:List Slot) (k:Int) (hn:xs.length<=1048576) (hk:0<=k/\k<=1000000000):CtrM Tryz.prog 125 [.own 0,.v (.int .i64 k)] [.row 169 3 (xs.map e9)] (.one (.v (.int .i64 (k+3 * (xs.length:Int))))) [some (.row 169 3 ((over (c0K k) xs xs.length).map e9))]:=by
 refine CtrM.of (n:=34) (k:=1) G Tryz.func125 Z a8 Z Z Z Z Z Z Z (λw0 _ hpin=>?_)
 refine zgn ?_
 refine zgn ?_
 refine r4 (d9 [0] [] (λ(i:Nat)=>[(1,.v (.int .i64 (k+3 * (i:Int)))),(5,.v (.int .i64 (i:Int)))]) (λ(i:Nat)=>[(0,some (.row 169 3 ((over (c0K k) xs i).map e9)))]) (λ(i:Nat)=>i<=xs.length) (λ(i:Nat)=>xs.length - i) 0 Z Z ?_ ?_ ?_ ?_)
 ·exact C7
 ·exact b9I
 ·exact b7d
 intro i hinv
 have hi:i<=xs.length:=hinv
 refine b62 ?_
 refine m6 Z (λh1=>?_) (λh1=>?_)
 ·try rw [h1]
  try simp only [rfb] at h1
  refine a6r ?_
  refine vm1 ?_
  refine p6 ?_
  refine a2w ?_
  refine vm1 ?_
  refine p6 ?_
  refine a2w ?_
  refine vm1 ?_
  refine a2w ?_
  refine a2w ?_
  refine ⟨(i+1),?_,?_,⟨⟨_,Z,by (first | rfl | (congr 2;omega))⟩,Z,⟨⟨_,Z,by (first | rfl | (congr 2;omega))⟩,Z,trivial⟩⟩,⟨⟨_,Z,by exact congrArg (Row.row _ _) (by (try simp only [List.set_set]);exact a1w (g:=c0K k) (f:=e9) J)⟩,Z,Z,trivial⟩,Z,Z,Z⟩
  ·omega
  omega
 try rw [h1]
 try simp only [rfb] at h1
 refine zgn ?_
 refine zgn ?_
 refine e6 (J0 Z (l3 ?_) Z (AftOK.stays Z ?_ Z AftOK.nil))
 all_goals (
  have e:i=xs.length:=J
  subst e
  first | rfl | (congr 1;omega)
 )
theorem a5h (xs:List Wtr) (k:Int) (hn:xs.length<=1048576) (hk:0<=k/\k<=1000000000):CtrM Tryz.prog 126 [.own 0,.v (.int .i64 k)] [.row 182 2 (xs.map f7)] (.one (.v (.int .i64 (k+2 * (xs.length:Int))))) [some (.row 182 2 ((over (c0L k) xs xs.length).map f7))]:=by
 refine CtrM.of (n:=27) (k:=1) G Tryz.func126 Z a8 Z Z Z Z Z Z Z (λw0 _ hpin=>?_)
 refine zgn ?_
 refine zgn ?_
 refine r4 (d9 [0] [] (λ(i:Nat)=>[(1,.v (.int .i64 (k+2 * (i:Int)))),(5,.v (.int .i64 (i:Int)))]) (λ(i:Nat)=>[(0,some (.row 182 2 ((over (c0L k) xs i).map f7)))]) (λ(i:Nat)=>i<=xs.length) (λ(i:Nat)=>xs.length - i) 0 Z Z ?_ ?_ ?_ ?_)
 ·exact C7
 ·exact b9I
 ·exact b7d
 intro i hinv
 have hi:i<=xs.length:=hinv
 refine b62 ?_
 refine m6 Z (λh1=>?_) (λh1=>?_)
 ·try rw [h1]
  try simp only [rfb] at h1
  refine a6r ?_
  refine vm1 ?_
  refine p6 ?_
  refine a2w ?_
  refine vm1 ?_
  refine a2w ?_
  refine a2w ?_
  refine ⟨(i+1),?_,?_,⟨⟨_,Z,by (first | rfl | (congr 2;omega))⟩,Z,⟨⟨_,Z,by (first | rfl | (congr 2;omega))⟩,Z,trivial⟩⟩,⟨⟨_,Z,by exact congrArg (Row.row _ _) (by (try simp only [List.set_set]);exact a1w (g:=c0L k) (f:=f7) J)⟩,Z,Z,trivial⟩,Z,Z,Z⟩
  ·omega
  omega
 try rw [h1]
 try simp only [rfb] at h1
 refine zgn ?_
 refine zgn ?_
 refine e6 (J0 Z (l3 ?_) Z (AftOK.stays Z ?_ Z AftOK.nil))
 all_goals (
  have e:i=xs.length:=J
  subst e
  first | rfl | (congr 1;omega)
 )
theorem a4k (xs:List Route) (k:Int) (hn:xs.length<=1048576) (hk:0<=k/\k<=1000000000):CtrM Tryz.prog 79 [.own 0,.v (.int .i64 k)] [.row 83 2 (xs.map l7)] (.one (.v (.int .i64 (k+2 * (xs.length:Int))))) [some (.row 83 2 ((over (c0v k) xs xs.length).map l7))]:=by
 refine CtrM.of (n:=27) (k:=1) G Tryz.func79 Z a8 Z Z Z Z Z Z Z (λw0 _ hpin=>?_)
 refine zgn ?_
 refine zgn ?_
 refine r4 (d9 [0] [] (λ(i:Nat)=>[(1,.v (.int .i64 (k+2 * (i:Int)))),(5,.v (.int .i64 (i:Int)))]) (λ(i:Nat)=>[(0,some (.row 83 2 ((over (c0v k) xs i).map l7)))]) (λ(i:Nat)=>i<=xs.length) (λ(i:Nat)=>xs.length - i) 0 Z Z ?_ ?_ ?_ ?_)
 ·exact C7
 ·exact b9I
 ·exact b7d
 intro i hinv
 have hi:i<=xs.length:=hinv
 refine b62 ?_
 refine m6 Z (λh1=>?_) (λh1=>?_)
 ·try rw [h1]
  try simp only [rfb] at h1
  refine a6r ?_
  refine vm1 ?_
  refine p6 ?_
  refine a2w ?_
  refine vm1 ?_
  refine a2w ?_
  refine a2w ?_
  refine ⟨(i+1),?_,?_,⟨⟨_,Z,by (first | rfl | (congr 2;omega))⟩,Z,⟨⟨_,Z,by (first | rfl | (congr 2;omega))⟩,Z,trivial⟩⟩,⟨⟨_,Z,by exact congrArg (Row.row _ _) (by (try simp only [List.set_set]);exact a1w (g:=c0v k) (f:=l7) J)⟩,Z,Z,trivial⟩,Z,Z,Z⟩
  ·omega
  omega
 try rw [h1]
 try simp only [rfb] at h1
 refine zgn ?_
 refine zgn ?_
 refine e6 (J0 Z (l3 ?_) Z (AftOK.stays Z ?_ Z AftOK.nil))
 all_goals (
  have e:i=xs.length:=J
  subst e
  first | rfl | (congr 1;omega)
 )
theorem a2P (xs:List Ifc) (k:Int) (hn:xs.length<=1048576) (hs:sumI xs xs.length<=1048576) (hk:0<=k/\k<=100000000):CtrM Tryz.prog 81 [.own 0,.v (.int .i64 k)] [.nest 135 4 (xs.map (l6 169 182)) []] (.one (.v (.int .i64 (k+a4T xs xs.length)))) [some (.nest 135 4 ((b2d k xs xs.length).map (l6 169 182)) [])]:=by
 refine CtrM.of (n:=43) (k:=1) G Tryz.func81 Z a8 Z Z Z Z Z Z Z (λw0 _ hpin=>?_)
 refine zgn ?_
 refine zgn ?_
 refine r4 (d9 [0] [] (λ(i:Nat)=>[(1,.v (.int .i64 (k+a4T xs i))),(5,.v (.int .i64 (i:Int)))]) (λ(i:Nat)=>[(0,some (.nest 135 4 ((b2d k xs i).map (l6 169 182)) []))]) (λ(i:Nat)=>i<=xs.length) (λ(i:Nat)=>xs.length - i) 0 Z Z ?_ ?_ ?_ ?_)
 ·exact C7
 ·exact ⟨⟨_,Z,by (first | rfl | (simp only [a4T];congr 2;omega))⟩,Z,⟨⟨_,Z,by (first | rfl | (simp only [a4T];congr 2;omega))⟩,Z,trivial⟩⟩
 ·exact a1k
 intro i hinv
 have hi:i<=xs.length:=hinv
 have hl1:=@a3k k xs i
 have hl2:=@a52 xs i
 have hl3:=a63 (xs:=xs) hi
 have hl4:=@a52 xs xs.length
 have hl5:i < xs.length→szI (xs.getD i default)<=1048576:=λh=>Int.le_trans (a9G h) hs
 have hl6:szI (xs.getD i default)=(xs.getD i default).st.length+(xs.getD i default).qu.sl.length+(xs.getD i default).qu.wa.length:=rfl
 refine vm4 ?_
 refine p6 ?_
 refine a0d ?_
 refine P0 ?_
 refine vm5 ?_
 first | refine b5 Z Z (T7 G Z Z Z Z (by rw [List.length_map,a3k])) ?_ | refine b5 Z Z (a1o G Z Z Z Z) ?_
 refine zgn ?_
 refine m6 Z (λh1=>?_) (λh1=>?_)
 ·try rw [h1]
  try simp only [rfb] at h1
  refine a6r ?_
  refine p6 ?_
  refine a2v ?_
  refine c1n ?_
  refine p5 G Z Z Z Z Z (b6L J) Z Z (.v Z .nil) Z Z Z (Nat.le_of_ble_eq_true Z) (λq h=>by cases h) Z ?_
  refine zgn ?_
  refine p6 ?_
  refine a2w ?_
  refine p6 (B4 (Gh.open (id:=0) (i:=i) (k:=1) 2 Z Z (Y4 a7T Z) Z Z) (b8 ?_))
  refine P0 ?_
  refine c1n ?_
  refine c5N ?_
  refine A1 2 [1] Z Z Z (a8B (xs.getD i default).st (k+a4T xs i+1) J J) Z (RowsIn.cons Z RowsIn.nil) Z Z Z ?_
  refine zgn ?_
  refine p6 (B4 (Gh.close (id:=0) (id':=1) (i:=i) (k:=1) Z Z (Y4 a7T Z) (λq h=>by cases h) Z) (B4 (Gh.open (id:=0) (i:=i) (k:=2) 3 Z Z (Y4 a7T Z) Z Z) (b8 ?_)))
  refine P0 ?_
  refine c1n ?_
  refine b9x ?_
  refine vm5 ?_
  refine c5N ?_
  refine A1 3 [2] Z Z Z (a7y (xs.getD i default).qu.sl (k+a4T xs i+1+(xs.getD i default).st.length) J J) Z (RowsIn.cons Z RowsIn.nil) Z Z Z ?_
  refine zgn ?_
  refine B4 (Gh.close (id:=0) (id':=2) (i:=i) (k:=2) Z Z (Y4 a7T Z) (λq h=>by cases h) Z) (B4 (Gh.open (id:=0) (i:=i) (k:=3) 4 Z Z (Y4 a7T Z) Z Z) (b8 ?_))
  refine P0 ?_
  refine c1n ?_
  refine b9x ?_
  refine vm5 ?_
  refine c5N ?_
  refine A1 4 [3] Z Z Z (a5h (xs.getD i default).qu.wa (k+a4T xs i+1+(xs.getD i default).st.length+3 * (xs.getD i default).qu.sl.length) J J) Z (RowsIn.cons Z RowsIn.nil) Z Z Z ?_
  refine zgn ?_
  refine B4 (Gh.close (id:=0) (id':=3) (i:=i) (k:=3) Z Z (Y4 a7T Z) (λq h=>by cases h) Z) ?_
  refine a2w ?_
  refine ⟨(i+1),?_,?_,⟨⟨_,Z,by (first | rfl | (rw [a64];simp only [wdI];congr 2;omega))⟩,Z,⟨⟨_,Z,by (first | rfl | (rw [a64];simp only [wdI];congr 2;omega))⟩,Z,trivial⟩⟩,⟨⟨_,Z,by (rw [a65];exact congrArg (λz=>Row.nest _ _ z []) (by simp only [List.set_set,Int.toNat_natCast];rw [List.map_set];rfl))⟩,Z,Z,trivial⟩,Z,Z,Z⟩
  ·omega
  omega
 try rw [h1]
 try simp only [rfb] at h1
 refine zgn ?_
 refine zgn ?_
 refine e6 (J0 Z (l3 ?_) Z (AftOK.stays Z ?_ Z AftOK.nil))
 all_goals (
  have e:i=xs.length:=J
  subst e
  first | rfl | (congr 1;omega)
 )
theorem a5i (m:Mach) (k:Int) (hs:SmallM m) (hk:0<=k/\k<=10000000):CtrM Tryz.prog 39 [.agg [.own 0,.own 1,.own 2,.own 3],.v (.int .i64 k)] [.row 83 2 (m.rs.map l7),.row 4 1 (m.en.map j6),.row 4 1 (m.ra.map j6),.nest 135 4 (m.cp.map (l6 169 182)) []] (.one (.v (.int .i64 (b8l k m)))) [some (.row 83 2 ((mkM k m).rs.map l7)),some (.row 4 1 ((mkM k m).en.map j6)),some (.row 4 1 ((mkM k m).ra.map j6)),some (.nest 135 4 ((mkM k m).cp.map (l6 169 182)) [])]:=by
 have hz0:=hs.rs
 have hz1:=hs.en
 have hz2:=hs.ra
 have hz3:=hs.cp
 have hz4:=hs.sum
 have hz6:=@a52 m.cp m.cp.length
 refine CtrM.of (n:=22) (k:=4) G Tryz.func39 Z a8 Z Z Z Z Z Z Z (λw0 _ hpin=>?_)
 refine a0d ?_
 refine vm5 ?_
 refine y9 5 Z Z Z Z Z Z Z ?_
 refine zgn ?_
 refine p6 ?_
 refine a2v ?_
 refine vm5 ?_
 refine A1 5 [0] Z Z Z (a4k m.rs k J J) Z (RowsIn.cons Z RowsIn.nil) Z Z Z ?_
 refine zgn ?_
 refine p6 ?_
 refine a2v ?_
 refine vm5 ?_
 refine A1 5 [1] Z Z Z (a1V m.en (k+2 * m.rs.length) J J) Z (RowsIn.cons Z RowsIn.nil) Z Z Z ?_
 refine zgn ?_
 refine p6 ?_
 refine a2v ?_
 refine vm5 ?_
 refine A1 5 [2] Z Z Z (a1V m.ra (k+2 * m.rs.length+m.en.length) J J) Z (RowsIn.cons Z RowsIn.nil) Z Z Z ?_
 refine zgn ?_
 refine p6 ?_
 refine a2v ?_
 refine vm5 ?_
 refine A1 5 [3] Z Z Z (a2P m.cp (k+2 * m.rs.length+m.en.length+m.ra.length) J J J) Z (RowsIn.cons Z RowsIn.nil) Z Z Z ?_
 exact c3h
theorem a3J (m:Mach) (y:Lg) (k:Int) (hs:SmallM m) (hk:0<=k/\k<=10000000):CtrM Tryz.prog 11 [.agg [.own 0,.own 1,.own 2,.own 3,.v (.string y.d),.v (.string y.p),.v (.int .i64 y.n)],.v (.int .i64 k)] [.row 83 2 (m.rs.map l7),.row 4 1 (m.en.map j6),.row 4 1 (m.ra.map j6),.nest 135 4 (m.cp.map (l6 169 182)) []] (.one (.v (.int .i64 (b8l k m)))) [some (.row 83 2 ((mkM k m).rs.map l7)),some (.row 4 1 ((mkM k m).en.map j6)),some (.row 4 1 ((mkM k m).ra.map j6)),some (.nest 135 4 ((mkM k m).cp.map (l6 169 182)) [])]:=by
 have hmn:=b5t (k:=k) hs
 refine CtrM.of (n:=10) (k:=4) G Tryz.func11 Z a8 Z Z Z Z Z Z Z (λw0 _ hpin=>?_)
 refine a0d ?_
 refine vm5 ?_
 refine y9 5 Z Z Z Z Z Z Z ?_
 refine zgn ?_
 refine p6 ?_
 refine a2v ?_
 refine vm5 ?_
 refine A1 5 [0,1,2,3] Z Z Z (a5i m k hs hk) Z (RowsIn.cons Z (RowsIn.cons Z (RowsIn.cons Z (RowsIn.cons Z RowsIn.nil)))) Z Z Z ?_
 exact c3h
theorem a1W (m:Mach) (y:Lg) (t:ByteArray) (hz0:t.size<=9223372036854775807) (hb:BigM m) (h0:y.d.size<=9223372036854775807/\y.p.size<=9223372036854775807):Ctr Tryz.prog 4 [.agg [.lst 2 (m.rs.map l7),.lst 1 (m.en.map j6),.lst 1 (m.ra.map j6),.nst none 4 (m.cp.map (l6 169 182)),.v (.string y.d),.v (.string y.p),.v (.int .i64 y.n)],.v (.string t)] (.one (.v (.bool true))):=by
 refine Ctr.of (n:=104) G Tryz.func4 Z Y Z Z Z (λw0=>?_)
 refine j5 0 Z (λ_=>Z) (λu0=>?_)
 refine d3 (λK1 hK1=>?_)
 refine b8 (a7 Z (y9 1 Z Z Z Z Z Z Z (a7 Z (b5 Z Z (c6 Z Z) (b6 (hK1 _ ?_))))))
 clear hK1 K1
 refine d3 (λK2 hK2=>?_)
 refine d3 (λK3 hK3=>?_)
 refine b8 (a7 Z (b5 Z Z (c7 Z Z) (a7 Z (b5 Z Z (o9 G Z Z Z) (a7 Z (b5 Z Z (B3 Z Z Z Z) (b6 (hK3 _ ?_))))))))
 clear hK3 K3
 refine m6 Z (λh1=>?_) (λh1=>?_)
 ·try rw [h1]
  try simp only [rfb] at h1
  refine d3 (λK4 hK4=>?_)
  refine b8 (a7 Z (b5 Z Z (c6 Z Z) (b6 (hK4 _ ?_))))
  clear hK4 K4
  refine e6 (C9 Z (l3 ?_))
  all_goals clear hK2 K2
  all_goals (first | rfl | (exfalso;omega) | (simp_all;done))
 ·try rw [h1]
  try simp only [rfb] at h1
  have hz:t.size<=1048576:=by omega
  refine s3 (hK2 _ ?_)
  clear hK2 K2
  refine d3 (λK5 hK5=>?_)
  refine b8 (a7 Z (b5 Z Z (c6 Z Z) (b6 (hK5 _ ?_))))
  clear hK5 K5
  refine d3 (λK6 hK6=>?_)
  refine b8 (a7 Z (b5 Z Z (i6 G Z Z Z Z Z Z) (a7 Z (b5 Z Z (c7 Z Z) (a7 Z (b5 Z Z (f9 Z (ArgsOK.of Z) (a7t m y _ hb h0 J) Z) (a7 Z (b5 Z Z (c6 Z Z) (b6 (hK6 _ ?_))))))))))
  clear hK6 K6
  refine d3 (λK7 hK7=>?_)
  refine d3 (λK8 hK8=>?_)
  refine b8 (a7 Z (b5 Z Z (c7 Z Z) (a7 Z (b5 Z Z (B3 Z Z Z Z) (b6 (hK8 _ ?_))))))
  clear hK8 K8
  refine m6 Z (λh2=>?_) (λh2=>?_)
  ·try rw [h2]
   try simp only [rfb] at h2
   refine d3 (λK9 hK9=>?_)
   refine b8 (a7 Z (b5 Z Z (c6 Z Z) (b6 (hK9 _ ?_))))
   clear hK9 K9
   refine e6 (C9 Z (l3 ?_))
   all_goals clear hK7 K7
   all_goals (first | rfl | (exfalso;omega) | (simp_all;done))
  ·try rw [h2]
   try simp only [rfb] at h2
   obtain ⟨hs,hx⟩:=b4P (m:=m) (x:=y) (l:=1048576) J J
   have hrl:(scT m y t).1.length<=1048576:=by
    by_cases g:(a3p m y && decide (t.size<=4000) && decide ((e7 t 10).length<=30))=true
    ·rw [scT,if_pos g]
     simp only [Bool.and_eq_true,decide_eq_true_eq] at g
     show (a3u m y t _).length<=_
     rw [a0n];omega
    ·rw [scT,if_neg g];exact Nat.zero_le _
   have cs1:=a7x m y t hs hx hz
   have ci1:=a7w m y t hs hx hz
   generalize scT m y t=r at hrl cs1 ci1
   obtain ⟨r,ok⟩:=r
   dsimp only at hrl cs1 ci1
   have hm2:=b5t (m:=m) (k:=1) hs
   refine s3 (hK7 _ ?_)
   clear hK7 K7
   refine d3 (λK10 hK10=>?_)
   refine b8 (a7 Z (b5 Z Z (i6 G Z Z Z Z Z Z) (a7 Z (c8 5 Z Z Z (ArgsOK.of Z) (I3 m y hs hx) Z Z (a7 Z (b5 Z Z (c7 Z Z) (a7 Z (c8 6 Z Z Z (ArgsOK.of Z) cs1 Z Z (a7 Z (b5 Z Z (c7 Z Z) (a7 Z (b5 Z Z (j8 Z Z Z) (a7 Z (b5 Z Z (j8 Z Z Z) (a7 Z (b5 Z Z (c6 Z Z) (a7 Z (b5 Z Z (c6 Z Z) (b6 (hK10 _ ?_))))))))))))))))))))
   clear hK10 K10
   refine d3 (λK11 hK11=>?_)
   refine b8 (a7 Z (b5 Z Z (i6 G Z Z Z Z Z Z) (a7 Z (c8 10 Z Z Z (ArgsOK.of Z) (I3 m y hs hx) Z Z (a7 Z (d8 G 11 Z Z Z Z Z (a7 Z (m4 G Z Z Z Z Z Z Z Z Z Z Z (b6 (hK11 _ ?_))))))))))
   clear hK11 K11
   refine d3 (λK12 hK12=>?_)
   refine b8 (a7 Z (b5 Z Z (i6 G Z Z Z Z Z Z) (a7 Z (b5 Z Z (c7 Z Z) (a7 Z (c8 12 Z Z Z (ArgsOK.of Z) ci1 Z Z (a7 Z (b5 Z Z (c7 Z Z) (a7 Z (b5 Z Z (j8 Z Z Z) (a7 Z (b5 Z Z (j8 Z Z Z) (a7 Z (b5 Z Z (c6 Z Z) (a7 Z (b5 Z Z (c6 Z Z) (b6 (hK12 _ ?_))))))))))))))))))
   clear hK12 K12
   refine d3 (λK13 hK13=>?_)
   refine d3 (λK14 hK14=>?_)
   refine b8 (a7 Z (b5 Z Z (c7 Z Z) (a7 Z (b5 Z Z (c7 Z Z) (a7 Z (b5 Z Z (f9 Z (ArgsOK.of Z) (Ctr.bool (V3 r r J) (@decide_eq_true (r=r) (Classical.propDecidable _) Z)) Z) (a7 Z (b5 Z Z (a5m Z Z) (a7 Z (b5 Z Z (c7 Z Z) (o8 Z Z Z (b5 Z Z (c7 Z Z) (o8 Z Z Z (b5 Z Z (c7 Z Z) (o8 Z Z Z (b5 Z Z (a7I (v':=.bool false) (b41 (G 4 _ Z).1 Z Z Z) (by first | rfl | exact congrArg Value.bool (decide_eq_false J) | (simp;done) | (simp;omega))) (a7 Z (b5 Z Z (x6 Z Z Z) (b6 (hK14 _ ?_))))))))))))))))))))
   clear hK14 K14
   refine J8 Z (s3 (hK13 _ ?_))
   clear hK13 K13
   refine d3 (λK15 hK15=>?_)
   refine d3 (λK16 hK16=>?_)
   refine j7 5 [0,1,2,3,4,5,6,7,8,9,10,11] mixed Y Z Z (λr0=>?_) (λ_ h=>h)
   refine d4 0 Z Y Y Z Z Z Z (i6 G Z Z Z Z Z Z) (d4 1 Z Y Y Z Z Z Z (i6 G Z Z Z Z Z Z) ?_)
   refine b7 (rs:=[2]) Y Z (AllB.cons ?_ AllB.nil)
   refine g8 [0,1,2,3,4,5,6,7,8,9,10,11] Z Z (c8 16 Z Z Z (ArgsOK.of Z) (I3 m y hs hx) Z Z (b6 ⟨Z,?_⟩))
   refine b7 (rs:=[3]) Y Z (AllB.cons ?_ AllB.nil)
   refine g8 [0,1,2,3,4,5,6,7,8,9,10,11] Z Z (b5 Z Z (f9 Z (ArgsOK.of Z) (Ctr.bool (a7u m y m y hb) (b6T)) Z) (b6 ⟨Z,?_⟩))
   refine d4 4 Z Y Y Z Z Z Z (a5m Z Z) (C4 Y (hK16 _ ?_))
   clear hK16 K16
   refine J8 Z (s3 (hK15 _ ?_))
   clear hK15 K15
   refine d3 (λK17 hK17=>?_)
   refine b8 (a7 Z (b5 Z Z (c6 Z Z) (b6 (hK17 _ ?_))))
   clear hK17 K17
   refine d3 (λK18 hK18=>?_)
   refine b8 (a7 Z (b5 Z Z (i6 G Z Z Z Z Z Z) (a7 Z (b5 Z Z (c7 Z Z) (a7 Z (A1 16 [6,7,8,9] Z Z Z (a3J m y 1 hs J) Z (RowsIn.cons Z (RowsIn.cons Z (RowsIn.cons Z (RowsIn.cons Z RowsIn.nil)))) Z Z Z (a7 Z (b5 Z Z (c6 Z Z) (b6 (hK18 _ ?_))))))))))
   clear hK18 K18
   refine d3 (λK19 hK19=>?_)
   refine d3 (λK20 hK20=>?_)
   refine b8 (a7 Z (b5 Z Z (c7 Z Z) (a7 Z (b5 Z Z (a7I (v':=.bool false) (B3 Z Z Z Z) (by first | rfl | exact congrArg Value.bool (decide_eq_false J) | (simp;done) | (simp;omega))) (a7 Z (b5 Z Z (c7 Z Z) (o8 Z Z Z (b5 Z Z (c7 Z Z) (o8 Z Z Z (b5 Z Z (c7 Z Z) (o8 Z Z Z (b5 Z Z (f9 Z (ArgsOK.of Z) (Ctr.bool (V3 r r J) (@decide_eq_true (r=r) (Classical.propDecidable _) Z)) Z) (o8 Z Z Z (b5 Z Z (a5m Z Z) (a7 Z (b5 Z Z (x6 Z Z Z) (a7 Z (b5 Z Z (c7 Z Z) (o8 Z Z Z (b5 Z Z (c7 Z Z) (o8 Z Z Z (b5 Z Z (c7 Z Z) (o8 Z Z Z (b5 Z Z (a7I (v':=.bool false) (b41 (G 4 _ Z).1 Z Z Z) (by first | rfl | exact congrArg Value.bool (decide_eq_false J) | (simp;done) | (simp;omega))) (a7 Z (b5 Z Z (x6 Z Z Z) (b6 (hK20 _ ?_))))))))))))))))))))))))))))
   clear hK20 K20
   refine J8 Z (s3 (hK19 _ ?_))
   clear hK19 K19
   refine d3 (λK21 hK21=>?_)
   refine b8 (a7 Z (b5 Z Z (c6 Z Z) (b6 (hK21 _ ?_))))
   clear hK21 K21
   refine d3 (λK22 hK22=>?_)
   refine b8 (a7 Z (b5 Z Z (c7 Z Z) (a7 Z (b5 Z Z (c7 Z Z) (a7 Z (A1 16 [11] Z Z Z (a5g r hrl) Z (RowsIn.cons Z RowsIn.nil) Z Z Z (a7 Z (b5 Z Z (c6 Z Z) (b6 (hK22 _ ?_))))))))))
   clear hK22 K22
   refine d3 (λK23 hK23=>?_)
   refine b8 (a7 Z (b5 Z Z (c6 Z Z) (b6 (hK23 _ ?_))))
   clear hK23 K23
   refine d3 (λK24 hK24=>?_)
   refine b8 (a7 Z (b5 Z Z (c7 Z Z) (a7 Z (b5 Z Z (c7 Z Z) (a7 Z (b5 Z Z (f9 Z (ArgsOK.of Z) (a0J r hrl) Z) (a7 Z (b5 Z Z (c6 Z Z) (b6 (hK24 _ ?_))))))))))
   clear hK24 K24
   refine d3 (λK25 hK25=>?_)
   refine d3 (λK26 hK26=>?_)
   refine b8 (a7 Z (b5 Z Z (c7 Z Z) (a7 Z (b5 Z Z (a7I (v':=.bool false) (B3 Z Z Z Z) (by first | rfl | exact congrArg Value.bool (decide_eq_false J) | (simp;done) | (simp;omega))) (b6 (hK26 _ ?_))))))
   clear hK26 K26
   refine J8 Z (s3 (hK25 _ ?_))
   clear hK25 K25
   refine d3 (λK27 hK27=>?_)
   refine d3 (λK28 hK28=>?_)
   refine b8 (a7 Z (b5 Z Z (c7 Z Z) (a7 Z (b5 Z Z (c7 Z Z) (a7 Z (b5 Z Z (a7I (v':=.bool false) (B3 Z Z Z Z) (by first | rfl | exact congrArg Value.bool (decide_eq_false J) | (simp;done) | (simp;omega))) (b6 (hK28 _ ?_))))))))
   clear hK28 K28
   refine J8 Z (s3 (hK27 _ ?_))
   clear hK27 K27
   refine d3 (λK29 hK29=>?_)
   refine b8 (a7 Z (b5 Z Z (i6 G Z Z Z Z Z Z) (a7 Z (c8 20 Z Z Z (ArgsOK.of Z) (I3 m y hs hx) Z Z (a7 Z (b5 Z Z (c7 Z Z) (a7 Z (c8 21 Z Z Z (ArgsOK.of Z) ci1 Z Z (a7 Z (b5 Z Z (c7 Z Z) (a7 Z (b5 Z Z (j8 Z Z Z) (a7 Z (b5 Z Z (j8 Z Z Z) (a7 Z (b5 Z Z (c6 Z Z) (a7 Z (b5 Z Z (c6 Z Z) (b6 (hK29 _ ?_))))))))))))))))))))
   clear hK29 K29
   refine d3 (λK30 hK30=>?_)
   refine d3 (λK31 hK31=>?_)
   refine b8 (a7 Z (b5 Z Z (c7 Z Z) (a7 Z (b5 Z Z (c7 Z Z) (a7 Z (b5 Z Z (f9 Z (ArgsOK.of Z) (Ctr.bool (V3 r r J) (@decide_eq_true (r=r) (Classical.propDecidable _) Z)) Z) (a7 Z (b5 Z Z (a5m Z Z) (a7 Z (b5 Z Z (c7 Z Z) (o8 Z Z Z (b5 Z Z (c7 Z Z) (o8 Z Z Z (b5 Z Z (c7 Z Z) (o8 Z Z Z (b5 Z Z (a7I (v':=.bool false) (b41 (G 4 _ Z).1 Z Z Z) (by first | rfl | exact congrArg Value.bool (decide_eq_false J) | (simp;done) | (simp;omega))) (a7 Z (b5 Z Z (x6 Z Z Z) (b6 (hK31 _ ?_))))))))))))))))))))
   clear hK31 K31
   refine J8 Z (s3 (hK30 _ ?_))
   clear hK30 K30
   refine d3 (λK32 hK32=>?_)
   refine b8 (a7 Z (b5 Z Z (c6 Z Z) (b6 (hK32 _ ?_))))
   clear hK32 K32
   refine d3 (λK33 hK33=>?_)
   refine b8 (a7 Z (b5 Z Z (c7 Z Z) (a7 Z (b5 Z Z (c7 Z Z) (a7 Z (b5 Z Z (f9 Z (ArgsOK.of Z) (a0J r hrl) Z) (a7 Z (b5 Z Z (c6 Z Z) (b6 (hK33 _ ?_))))))))))
   clear hK33 K33
   refine d3 (λK34 hK34=>?_)
   refine d3 (λK35 hK35=>?_)
   refine b8 (a7 Z (b5 Z Z (c7 Z Z) (a7 Z (b5 Z Z (a7I (v':=.bool false) (B3 Z Z Z Z) (by first | rfl | exact congrArg Value.bool (decide_eq_false J) | (simp;done) | (simp;omega))) (b6 (hK35 _ ?_))))))
   clear hK35 K35
   refine J8 Z (s3 (hK34 _ ?_))
   clear hK34 K34
   refine d3 (λK36 hK36=>?_)
   refine d3 (λK37 hK37=>?_)
   refine b8 (a7 Z (b5 Z Z (c7 Z Z) (a7 Z (b5 Z Z (c7 Z Z) (a7 Z (b5 Z Z (a7I (v':=.bool false) (B3 Z Z Z Z) (by first | rfl | exact congrArg Value.bool (decide_eq_false J) | (simp;done) | (simp;omega))) (b6 (hK37 _ ?_))))))))
   clear hK37 K37
   refine J8 Z (s3 (hK36 _ ?_))
   clear hK36 K36
   refine d3 (λK38 hK38=>?_)
   refine b8 (a7 Z (b5 Z Z (c6 Z Z) (b6 (hK38 _ ?_))))
   clear hK38 K38
   refine e6 (C9 Z (l3 ?_))
   all_goals (first | rfl | (exfalso;omega) | (simp_all;done))
end Go.Proofs.YtpfhomblkgmkkaaGreatDoor
namespace Go.Proofs.YtpfhomblkgmkkaaGreatDoor
open Go Go.ChangeShapes Go.WideShapes Go.ChangeAt Go.RowKit Go.Rf
theorem a3K {H:Type} {enc:TypeId×Value→H} {a:Assume} {C:Checked} {os:Os} {f:FuncId} {fn:Func} {s:ChangeSpec} {conds:List PathCond} {apart fresh handsOn again:Bool} {X:World→Array Value→Prop}
 (hX:∀(w w':World) (args:Array Value),w.heap=w'.heap→X w args→X w' args)
 (own:ownKnob C.prog.godebug=none) (started:os.Started) (noInit:C.prog.inits.idxOf? f=none) (hfn:C.prog.funcs[f]?=some fn)
 (witness:∃(w:World) (tape:Tape) (i:Input),w.os=os/\(w.forCall tape i).Shaped C.prog/\i.vars=[]/\Input.okWide C.prog (w.forCall tape i) .any w.heap.size f i /\
  ((s.pre enc C.prog fn conds apart (w.forCall tape i).memory i.args/\X (w.forCall tape i).memory i.args)/\sizedMet enc C.prog fn (OpenSpec.ofChange s) apart (w.forCall tape i).memory i.args)/\a.holds C.prog (lone (Frame.enter C.prog f i.args .normal) [] (w.forCall tape i)))
 (contract:∀(W:World) (base:Nat) (args:Array Value) (ds gs:List (DataW H)) (before:List MemPlace),
  (∀(j:Nat) t v,fn.params[j]?=some t→args[j]?=some v→Value.okWide C.prog W .any base t v) →
  DataW.Whole enc C.prog fn.params.toList s.vars apart W args.toList ds gs before →
  W.ShapedOpen C.prog→X W args →
  Calls C.prog f args W λe W'=>∃v,e=.returned v/\s.post enc C.prog fn apart fresh handsOn again W args v W') :
 ReturnsInHanded a C os f .any (λw args=>(s.pre enc C.prog fn conds apart w args/\X w args)/\sizedMet enc C.prog fn (OpenSpec.ofChange s) apart w args) (s.post enc C.prog fn apart fresh handsOn again):=by
 refine returnsInHanded_of_calls own started noInit witness ?_
 intro w tape i _ hsh _ hok hpre hholds
 obtain ⟨_,_,_,fn',hfn',_,_,_,_,hval⟩:=hok
 have e:fn'=fn:=Option.some.inj (hfn'.symm.trans hfn)
 subst e
 obtain ⟨⟨⟨ds,gs,before,hw,hc⟩,hx⟩,hz⟩:=hpre
 have hw':=DataW.Whole.of_heap (w':=w.forCall tape i) (by rfl) hw
 refine (contract (w.forCall tape i) w.heap.size i.args ds gs before hval hw' hsh (hX _ _ _ (by rfl) hx)).mono λe W' ⟨v,he,hp⟩=>?_
 subst he
 exact ChangeSpec.post_blind hp
theorem own:ownKnob Tryz.prog.godebug=Option.none:=by kernel_rfl
theorem b6a:laidOutB Tryz.prog=true:=by kernel_rfl
abbrev a6B:List (String×DataW Unit):=[("math/bits.deBruijn32tab",Rows.laid_math_bits_deBruijn32tab),("math/bits.deBruijn64tab",Rows.laid_math_bits_deBruijn64tab),("internal/strconv.uint64pow10",Rows.laid_internal_strconv_uint64pow10),("unicode/utf8.acceptRanges",Rows.laid_unicode_utf8_acceptRanges),("strconv.ErrRange",Rows.laid_strconv_ErrRange),("strconv.ErrSyntax",Rows.laid_strconv_ErrSyntax),("unicode/utf8.first",Rows.laid_unicode_utf8_first)]
abbrev c8F:ByteArray:={ data:=#[105,110,118,97,108,105,100,32,115,121,110,116,97,120] }
abbrev c8G:ByteArray:={ data:=#[118,97,108,117,101,32,111,117,116,32,111,102,32,114,97,110,103,101] }
noncomputable def low:Nat:=(World.holding Tryz.prog default ⟨#[],#[],[]⟩).heap.size
noncomputable def b1H (os:Os):World :=
 let w0:=World.holding Tryz.prog os ⟨#[.cells #[.string c8F] 312,.cells #[.string c8G] 312],#[],[]⟩
 let put (h:Array Obj) (g:Nat) (cs:Array Value):Array Obj:=h.modify g fun
  | .cells _ t frozen=>.cells cs t frozen
  | o=>o
 let h1:=put w0.heap 6 #[.int .u8 0,.int .u8 1,.int .u8 28,.int .u8 2,.int .u8 29,.int .u8 14,.int .u8 24,.int .u8 3,.int .u8 30,.int .u8 22,.int .u8 20,.int .u8 15,.int .u8 25,.int .u8 17,.int .u8 4,.int .u8 8,.int .u8 31,.int .u8 27,.int .u8 13,.int .u8 23,.int .u8 21,.int .u8 19,.int .u8 16,.int .u8 7,.int .u8 26,.int .u8 12,.int .u8 18,.int .u8 6,.int .u8 11,.int .u8 5,.int .u8 10,.int .u8 9]
 let h2:=put h1 7 #[.int .u8 0,.int .u8 1,.int .u8 56,.int .u8 2,.int .u8 57,.int .u8 49,.int .u8 28,.int .u8 3,.int .u8 61,.int .u8 58,.int .u8 42,.int .u8 50,.int .u8 38,.int .u8 29,.int .u8 17,.int .u8 4,.int .u8 62,.int .u8 47,.int .u8 59,.int .u8 36,.int .u8 45,.int .u8 43,.int .u8 51,.int .u8 22,.int .u8 53,.int .u8 39,.int .u8 33,.int .u8 30,.int .u8 24,.int .u8 18,.int .u8 12,.int .u8 5,.int .u8 63,.int .u8 55,.int .u8 48,.int .u8 27,.int .u8 60,.int .u8 41,.int .u8 37,.int .u8 16,.int .u8 46,.int .u8 35,.int .u8 44,.int .u8 21,.int .u8 52,.int .u8 32,.int .u8 23,.int .u8 11,.int .u8 54,.int .u8 26,.int .u8 40,.int .u8 15,.int .u8 34,.int .u8 20,.int .u8 31,.int .u8 10,.int .u8 25,.int .u8 14,.int .u8 19,.int .u8 9,.int .u8 13,.int .u8 8,.int .u8 7,.int .u8 6]
 let h3:=put h2 3 #[.int .u64 1,.int .u64 10,.int .u64 100,.int .u64 1000,.int .u64 10000,.int .u64 100000,.int .u64 1000000,.int .u64 10000000,.int .u64 100000000,.int .u64 1000000000,.int .u64 10000000000,.int .u64 100000000000,.int .u64 1000000000000,.int .u64 10000000000000,.int .u64 100000000000000,.int .u64 1000000000000000,.int .u64 10000000000000000,.int .u64 100000000000000000,.int .u64 1000000000000000000,.int .u64 10000000000000000000]
 let h4:=put h3 5 #[.int .u8 128,.int .u8 191,.int .u8 160,.int .u8 191,.int .u8 128,.int .u8 159,.int .u8 144,.int .u8 191,.int .u8 128,.int .u8 143,.int .u8 0,.int .u8 0,.int .u8 0,.int .u8 0,.int .u8 0,.int .u8 0,.int .u8 0,.int .u8 0,.int .u8 0,.int .u8 0,.int .u8 0,.int .u8 0,.int .u8 0,.int .u8 0,.int .u8 0,.int .u8 0,.int .u8 0,.int .u8 0,.int .u8 0,.int .u8 0,.int .u8 0,.int .u8 0]
 let h5:=put h4 2 #[.iface 310 (.pointer (some ⟨low+1,0,none⟩))]
 let h6:=put h5 1 #[.iface 310 (.pointer (some ⟨low,0,none⟩))]
 let h7:=put h6 4 (Go.Pinned.utf8FirstZ.map (λ(n:Nat)=>Value.int .u8 (n:Int))).toArray
 { w0 with heap:=h7 }
theorem b9Y (os:Os) (args:Array Value):laidMet Tryz.prog a6B ((b1H os).forCall (λ_ _=>0) ⟨#[],args,[]⟩).memory :=
 (LaidIn.of_run [6,7,3,5,2,low+1,1,low,4] 8 Y Y Y Y).met
theorem gP:Tryz.prog.globalNamed "internal/strconv.uint64pow10" = some 3:=by kernel_rfl
theorem c6b:(Tryz.prog.globals[3]?).map (·.type)=some 293:=by kernel_rfl
theorem c6c:Tryz.prog.cellsOf 246=1:=by kernel_rfl
theorem c6d:Tryz.prog.cellsOf 293=20:=by kernel_rfl
theorem c8H:(Rows.laid_internal_strconv_uint64pow10:DataW Unit)=Lib.tabData .u64 Lib.pow10Tab:=by kernel_rfl
theorem c6e {W:World} (h:laidMet Tryz.prog a6B W):Lib.TabIs Tryz.prog W "internal/strconv.uint64pow10" .u64 Lib.pow10Tab:=by
 have h2:=h.tail.tail
 rw [c8H] at h2
 exact Lib.tabIs_of_head gP c6b Tryz.underlying293 Tryz.underlying246 c6c c6d h2
theorem gES:Tryz.prog.globalNamed "strconv.ErrSyntax" = some 1:=by kernel_rfl
theorem c1I:(Tryz.prog.globals[1]?).map (·.type)=some 147:=by kernel_rfl
theorem b9Z:Tryz.prog.cellsOf 312=1:=by kernel_rfl
theorem c6f:Tryz.prog.cellsOf 9=1:=by kernel_rfl
theorem c8l : "*" ++ "errors.errorString" = "*errors.errorString" := by decide
theorem c6g (u:TypeId) (h:Tryz.prog.typeName? 3 u=some "*errors.errorString"):u=310 :=
 typeName_ptr_named (nm := "errors.errorString") (by rw [c8l];kernel_rfl) Y (by decide) u (by rw [c8l];exact h)
theorem c6h {W:World} (h:laidMet Tryz.prog a6B W):∃ev:Value,W.cell? ⟨1,0,none⟩=some ev/\(ev=.nilIface∨∃te pe,ev=.iface te pe):=by
 obtain ⟨a0,s0,hv0,-,-,-⟩:=laid_sentinel h.tail.tail.tail.tail.tail gES c1I Tryz.underlying147 c6g Tryz.underlying310 Tryz.underlying312 Z Z Tryz.underlying9 b9Z c6f
 exact ⟨_,by have h0:=World.var?_cell gES hv0 0;simpa using h0,.inr ⟨_,_,Z⟩⟩
theorem c6i {W:World} (h:laidMet Tryz.prog a6B W) (hsh:W.ShapedOpen Tryz.prog):Env.E Tryz.prog W:=⟨c6e h,c6h h,b7f W hsh⟩
end Go.Proofs.YtpfhomblkgmkkaaGreatDoor
