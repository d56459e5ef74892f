/- Texts merged into one: W12, A1, A3, E1. -/
import Derived.Test.YtcnodpipinlpcaaGreatPFnRefinementH
set_option maxHeartbeats 4000000
set_option linter.unusedSimpArgs false
set_option linter.unusedVariables false
set_option maxRecDepth 20000
namespace Go.Proofs.YtcnodpipinlpcaaGreat
open Go Go.Rf
theorem F4 (xs:List MStep) (f:Nat) (a:Abs) (p:MStep→Bool) (hl:xs.length<=1048576) (hf:∀i,i < xs.length→Ctr Tryz.prog f [.v (a0R (xs.getD i default)),.eptN [.lst 1 (a.en.map e7),.lst 1 (a.ra.map e7),.lst 1 (a.po.map e7),.lst 1 (a.ma.map Rf.l8),.nst none 1 (a.st.map p8)]] (.one (.v (.bool (p (xs.getD i default)))))):Ctr Tryz.prog 127 [.lst 4 (xs.map a0Q),.fnc f [.eptN [.lst 1 (a.en.map e7),.lst 1 (a.ra.map e7),.lst 1 (a.po.map e7),.lst 1 (a.ma.map Rf.l8),.nst none 1 (a.st.map p8)]]] (.one (.v (.int .i64 (I0 (λi=>p (xs.getD i default)) xs.length)))):=by
 exact c0y
theorem C6 (xs:List MStep) (f:Nat) (a:Abs) (p:MStep→Bool) (hl:xs.length<=1048576) (hf:∀i,i < xs.length→Ctr Tryz.prog f [.v (a0R (xs.getD i default)),.eptN [.lst 1 (a.en.map e7),.lst 1 (a.ra.map e7),.lst 1 (a.po.map e7),.lst 1 (a.ma.map Rf.l8),.nst none 1 (a.st.map p8)]] (.one (.v (.bool (p (xs.getD i default)))))):Ctr Tryz.prog 53 [.lst 4 (xs.map a0Q),.fnc f [.eptN [.lst 1 (a.en.map e7),.lst 1 (a.ra.map e7),.lst 1 (a.po.map e7),.lst 1 (a.ma.map Rf.l8),.nst none 1 (a.st.map p8)]]] (.one (.v (.bool (a0D xs.length (λi=>p (xs.getD i default)))))):=by
 refine Ctr.of (n:=9) G Tryz.func53 Z a6 Z Z Z (λw0=>?_)
 refine zcl (F4 xs f a p hl hf) ?_
 exact b3y
theorem a3k (x:MStep) (a:Abs) (hs:SmallA a):Ctr Tryz.prog 54 [.v (a0R x),.eptN [.lst 1 (a.en.map e7),.lst 1 (a.ra.map e7),.lst 1 (a.po.map e7),.lst 1 (a.ma.map Rf.l8),.nst none 1 (a.st.map p8)]] (.one (.v (.bool (!s4 a.ma.length x)))):=by
 refine Ctr.of (n:=8) G Tryz.func54 Z a6 Z Z Z (λw0=>?_)
 refine w8 ?_
 refine zcl (a2C _ _ b9) ?_
 refine zf1 ?_
 all_goals (first | rfl | (simp_all;done))
theorem a63 (n:Nat) (ss:List MStep) (hn:n<=1048576) (hl:ss.length<=9223372036854775807):Ctr Tryz.prog 59 [.v (.int .i64 (n:Int)),.lst 4 (ss.map a0Q)] (.one (.v (.bool (L3 n ss)))):=by
 refine Ctr.of (n:=22) G Tryz.func59 Z a6 Z Z Z (λw0=>?_)
 refine zgo ?_
 refine f6 [0,1] [] (λ(i:Nat)=>[(5,.v (.int .i64 (i:Int)))]) (λ(i:Nat)=>[]) (λ(i:Nat)=>i<=ss.length/\∀j,j < i→s4 n (ss.getD j default)=true) (λ(i:Nat)=>ss.length - i) 0 Z Z ?_ ?_ ?_ ?_
 ·exact P3
 ·exact u3
 ·exact trivial
 intro i hinv
 refine vm2 ?_
 refine zcd (λh1=>?_) (λh1=>?_)
 ·refine zcl (a8a _ _ a9b) ?_
  refine zcd (λh2=>?_) (λh2=>?_)
  ·refine zf1 ?_
   all_goals exact b89
  exact b3u
 refine zf1 ?_
 all_goals exact b89
theorem a4C (rs:List Route) (a:Abs) (ss:List MStep) (hs:SmallA a) (hn:rs.length<=1048576) (hl:ss.length<=1048576):Ctr Tryz.prog 10 [.lst 2 (rs.map n6),.agg [.lst 1 (a.en.map e7),.lst 1 (a.ra.map e7),.lst 1 (a.po.map e7),.lst 1 (a.ma.map Rf.l8),.nst none 1 (a.st.map p8)],.lst 4 (ss.map a0Q)] (.shp false [some 5,none,none] [.fr 4 1 ((rnT rs a ss).1.en.map e7),.fr 4 1 ((rnT rs a ss).1.ra.map e7),.fr 4 1 ((rnT rs a ss).1.po.map e7),.fr 3 1 ((rnT rs a ss).1.ma.map Rf.l8),.ne 26 1 ((rnT rs a ss).1.st.map p8),.fr 3 1 ((rnT rs a ss).2.1.map Rf.l8),.v (.bool (rnT rs a ss).2.2)]):=by
 refine Ctr.of (n:=61) G Tryz.func10 Z a6 Z Z Z (λw0=>?_)
 refine j8 1 Z (λ_=>Z) (λu1=>?_)
 refine L6 ?_
 refine zcl (F1 _ _ b9 a9b) ?_
 refine zcd (λh1=>?_) (λh1=>?_)
 ·have hR:=c07 (ss:=ss) h1
  refine zwt ?_
  exact c2i
 have hF:=a9w h1
 refine zcd (λh2=>?_) (λh2=>?_)
 ·have hR:=b47 (rs:=rs) (a:=a) (ss:=ss) (a0o (.inl J))
  refine zwt ?_
  exact c2i
 refine zgo ?_
 refine S9 ?_
 refine a7Z ?_
 refine zcl (C6 ss 54 a (λx=>!s4 a.ma.length x) hl (λk hk=>a3k _ _ hs)) ?_
 refine zcd (λh3=>?_) (λh3=>?_)
 ·obtain ⟨j,hj,hj2⟩:=a1D.mp h3
  have hR:=b47 (rs:=rs) (a:=a) (ss:=ss) (a0o (.inr ⟨j,hj,by simpa using hj2⟩))
  exact c2i
 have hv:∀i,i < ss.length→s4 a.ma.length (ss.getD i default)=true:=λi hi=>by simpa using R4.mp h3 i hi
 have hsv:=P2.mpr ⟨show ss.length<=30 by omega,hv⟩
 refine m3 ?_
 refine c4 7 Z Z Z (ArgsOK.of Z) (P4 a hs) Z Z ?_
 refine vm4 ?_
 refine b6s ?_
 refine vm4 ?_
 refine b0a ?_
 refine zgo ?_
 refine f6 [0,6,9,34,35] [1,8] (λ(i:Nat)=>[(10,.own 7),(36,.v (.int .i64 (i:Int)))]) (λ(i:Nat)=>[(2,some (.row 4 1 ((rnN rs a ss i).1.en.map e7))),(3,some (.row 4 1 ((rnN rs a ss i).1.ra.map e7))),(4,some (.row 4 1 ((rnN rs a ss i).1.po.map e7))),(5,some (.row 3 1 ((rnN rs a ss i).1.ma.map Rf.l8))),(6,some (.nest 26 1 ((rnN rs a ss i).1.st.map p8) [])),(7,some (.row 3 1 ((rnN rs a ss i).2.map Rf.l8)))]) (λ(i:Nat)=>i<=ss.length) (λ(i:Nat)=>ss.length - i) 0 Z Z ?_ ?_ ?_ ?_
 ·exact H0
 ·exact a71
 ·exact b71
 intro i hinv
 have hFi:=b8i hF hv i J
 have hvi:i < ss.length→s4 (rnN rs a ss i).1.ma.length (ss.getD i default)=true:=λh=>(by rw [hFi.2];exact hv i h)
 have hli:=@b2M rs a ss i
 refine vm2 ?_
 refine zcd (λh4=>?_) (λh4=>?_)
 ·refine m3 ?_
  refine g9 G 10 Z Z Z Z Z ?_
  refine E9 ?_
  by_cases hno:noS rs (rnN rs a ss i).1 (ss.getD i default)
  ·refine zgo ?_
   refine b5 Z (a1y 10 Z Z Z (ArgsOK.of Z) (H8 rs _ _ _ _ _ hFi.1 (hvi J) hno) (λ_=>Z) Z (λy1=>?_))
   refine m3 ?_
   refine g9 G 11 Z Z Z Z Z ?_
   refine zwt ?_
   exact c3O
  refine m3 ?_
  refine c4 15 Z Z Z (ArgsOK.of Z) (N9 rs _ _ _ _ _ hFi.1 (hvi J) hno) Z Z ?_
  refine m3 ?_
  refine g9 G 16 Z Z Z Z Z ?_
  refine zcd (λh5=>?_) (λh5=>?_)
  ·exact c3O
  refine zcd (λh6=>?_) (λh6=>?_)
  ·refine m3 ?_
   refine p4 G 17 Z Z Z Z Z Z Z Z ?_
   refine vm9 ?_
   refine zgn ?_
   refine e9 ?_
   refine G9 ?_
   refine m6 (Gh.sub 10 2 np Z Z Z) (m6 (Gh.sub 11 3 np Z Z Z) (m6 (Gh.sub 12 4 np Z Z Z) (m6 (Gh.sub 13 5 np Z Z Z) (m6 (Gh.sub 14 6 np Z Z Z) (a8 ⟨(i+1),?_,?_,⟨⟨_,Z,by rfl⟩,Z,⟨⟨_,Z,by rfl⟩,Z,trivial⟩⟩,⟨⟨_,Z,by (first | rfl | (rw [y5 b9];done) | (rw [R5 b9];done) | (rw [T3 b9 b9,List.map_append];rfl) | (rw [J3 b9 b9];done) | (rw [y5 T5];done))⟩,Z,Z,⟨⟨_,Z,by (first | rfl | (rw [y5 b9];done) | (rw [R5 b9];done) | (rw [T3 b9 b9,List.map_append];rfl) | (rw [J3 b9 b9];done) | (rw [y5 T5];done))⟩,Z,Z,⟨⟨_,Z,by (first | rfl | (rw [y5 b9];done) | (rw [R5 b9];done) | (rw [T3 b9 b9,List.map_append];rfl) | (rw [J3 b9 b9];done) | (rw [y5 T5];done))⟩,Z,Z,⟨⟨_,Z,by (first | rfl | (rw [y5 b9];done) | (rw [R5 b9];done) | (rw [T3 b9 b9,List.map_append];rfl) | (rw [J3 b9 b9];done) | (rw [y5 T5];done))⟩,Z,Z,⟨⟨_,Z,by (first | rfl | (rw [y5 b9];done) | (rw [R5 b9];done) | (rw [T3 b9 b9,List.map_append];rfl) | (rw [J3 b9 b9];done) | (rw [y5 T5];done))⟩,Z,Z,⟨⟨_,Z,by (first | rfl | (rw [y5 b9];done) | (rw [R5 b9];done) | (rw [T3 b9 b9,List.map_append];rfl) | (rw [J3 b9 b9];done) | (rw [y5 T5];done))⟩,Z,Z,trivial⟩⟩⟩⟩⟩⟩,Z,Z,Z⟩)))))
   ·omega
   omega
  refine zgn ?_
  refine e9 ?_
  refine G9 ?_
  refine m6 (Gh.sub 10 2 np Z Z Z) (m6 (Gh.sub 11 3 np Z Z Z) (m6 (Gh.sub 12 4 np Z Z Z) (m6 (Gh.sub 13 5 np Z Z Z) (m6 (Gh.sub 14 6 np Z Z Z) (a8 ⟨(i+1),?_,?_,⟨⟨_,Z,by rfl⟩,Z,⟨⟨_,Z,by rfl⟩,Z,trivial⟩⟩,⟨⟨_,Z,by (first | rfl | (rw [y5 b9];done) | (rw [R5 b9];done) | (rw [T3 b9 b9,List.map_append];rfl) | (rw [J3 b9 b9];done) | (rw [y5 T5];done))⟩,Z,Z,⟨⟨_,Z,by (first | rfl | (rw [y5 b9];done) | (rw [R5 b9];done) | (rw [T3 b9 b9,List.map_append];rfl) | (rw [J3 b9 b9];done) | (rw [y5 T5];done))⟩,Z,Z,⟨⟨_,Z,by (first | rfl | (rw [y5 b9];done) | (rw [R5 b9];done) | (rw [T3 b9 b9,List.map_append];rfl) | (rw [J3 b9 b9];done) | (rw [y5 T5];done))⟩,Z,Z,⟨⟨_,Z,by (first | rfl | (rw [y5 b9];done) | (rw [R5 b9];done) | (rw [T3 b9 b9,List.map_append];rfl) | (rw [J3 b9 b9];done) | (rw [y5 T5];done))⟩,Z,Z,⟨⟨_,Z,by (first | rfl | (rw [y5 b9];done) | (rw [R5 b9];done) | (rw [T3 b9 b9,List.map_append];rfl) | (rw [J3 b9 b9];done) | (rw [y5 T5];done))⟩,Z,Z,⟨⟨_,Z,by (first | rfl | (rw [y5 b9];done) | (rw [R5 b9];done) | (rw [T3 b9 b9,List.map_append];rfl) | (rw [J3 b9 b9];done) | (rw [y5 T5];done))⟩,Z,Z,trivial⟩⟩⟩⟩⟩⟩,Z,Z,Z⟩)))))
  ·omega
  omega
 refine zgo ?_
 refine g8 (m5 Z Z Z Z (a7 (b8 Z ?_) (a7 (b8 Z ?_) (a7 (b8 Z ?_) (a7 (b8 Z ?_) (a7 (t8 Z ?_) (a7 (b8 Z ?_) (a7 (p5 ?_) d5))))))))
 all_goals exact b8R
theorem b1q (l:List Int) (hl:l.length<=9223372036854775807):Ctr Tryz.prog 8 [.lst 1 (l.map B9)] (.one (.v (.bool (decide (65536 < l.length))))):=by
 refine Ctr.of (n:=6) G Tryz.func8 Z a6 Z Z Z (λw0=>?_)
 refine zf1 ?_
 all_goals (first | rfl | (simp;done) | (simp;omega))
theorem Z7 (xs ys:List Int) (he:xs=ys) (hn:xs.length<=9223372036854775807):Ctr Tryz.prog 12 [.lst 1 (xs.map Rf.l8),.lst 1 (ys.map Rf.l8)] (.one (.v (.bool true))):=by
 subst he
 refine Ctr.of (n:=26) G Tryz.func12 Z a6 Z Z Z (λw0=>?_)
 refine b37 ?_
 refine zgn ?_
 refine r7 (f6 [0,1] [] (λ(i:Nat)=>[(5,.v (.int .i64 (i:Int)))]) (λ(i:Nat)=>[]) (λ(i:Nat)=>i<=xs.length) (λ(i:Nat)=>xs.length - i) 0 Z Z ?_ ?_ ?_ ?_)
 ·exact H0
 ·exact u3
 ·exact trivial
 intro i hinv
 refine vm2 ?_
 refine zgn ?_
 refine o7 Z (λh1=>?_) (λh1=>?_)
 ·try rw [h1]
  try simp only [rfb] at h1
  refine b4b ?_
  refine r9 Z Z (V4 (v':=.bool false) (a2p Z Z Z Z) b1d) ?_
  exact a72
 try rw [h1]
 try simp only [rfb] at h1
 refine zgn ?_
 refine a1M ?_
 all_goals (rfl)
theorem O8 (xs ys:List Bool) (he:xs=ys) (hn:xs.length<=9223372036854775807):Ctr Tryz.prog 62 [.lst 1 (xs.map e7),.lst 1 (ys.map e7)] (.one (.v (.bool true))):=by
 subst he
 refine Ctr.of (n:=26) G Tryz.func62 Z a6 Z Z Z (λw0=>?_)
 refine b37 ?_
 refine zgn ?_
 refine r7 (f6 [0,1] [] (λ(i:Nat)=>[(5,.v (.int .i64 (i:Int)))]) (λ(i:Nat)=>[]) (λ(i:Nat)=>i<=xs.length) (λ(i:Nat)=>xs.length - i) 0 Z Z ?_ ?_ ?_ ?_)
 ·exact H0
 ·exact u3
 ·exact trivial
 intro i hinv
 refine vm2 ?_
 refine zgn ?_
 refine o7 Z (λh1=>?_) (λh1=>?_)
 ·try rw [h1]
  try simp only [rfb] at h1
  refine b4b ?_
  refine r9 Z Z (V4 (v':=.bool false) (a3R (G 4 _ Z).1 Z Z Z) b1d) ?_
  exact a72
 try rw [h1]
 try simp only [rfb] at h1
 refine zgn ?_
 refine a1M ?_
 all_goals (rfl)
theorem a8s (xs ys:List (List Int)) (he:xs=ys) (hn:xs.length<=9223372036854775807) (hz:∀i,i < xs.length→(xs.getD i default).length<=9223372036854775807):Ctr Tryz.prog 63 [.nst none 1 (xs.map p8),.nst none 1 (ys.map p8)] (.one (.v (.bool true))):=by
 subst he
 refine Ctr.of (n:=27) G Tryz.func63 Z a6 Z Z Z (λw0=>?_)
 refine b37 ?_
 refine zgn ?_
 refine r7 (f6 [0,1] [] (λ(i:Nat)=>[(5,.v (.int .i64 (i:Int)))]) (λ(i:Nat)=>[]) (λ(i:Nat)=>i<=xs.length) (λ(i:Nat)=>xs.length - i) 0 Z Z ?_ ?_ ?_ ?_)
 ·exact H0
 ·exact u3
 ·exact trivial
 intro i hinv
 refine vm2 ?_
 refine zgn ?_
 refine o7 Z (λh1=>?_) (λh1=>?_)
 ·try rw [h1]
  try simp only [rfb] at h1
  refine b6q ?_
  refine a6E ?_
  refine j7 Z ?_
  refine a8n ?_
  refine a6E ?_
  refine j7 Z ?_
  refine a8n ?_
  refine j7 Z (r9 Z Z (l9 Z (ArgsOK.of Z) (Z7 _ _ Z (hz i J)) Z) ?_)
  exact a72
 try rw [h1]
 try simp only [rfb] at h1
 refine zgn ?_
 refine a1M ?_
 all_goals (rfl)
theorem G8 (x y:Abs) (he:x=y) (hb:BigA x):Ctr Tryz.prog 13 [.agg [.lst 1 (x.en.map e7),.lst 1 (x.ra.map e7),.lst 1 (x.po.map e7),.lst 1 (x.ma.map Rf.l8),.nst none 1 (x.st.map p8)],.agg [.lst 1 (y.en.map e7),.lst 1 (y.ra.map e7),.lst 1 (y.po.map e7),.lst 1 (y.ma.map Rf.l8),.nst none 1 (y.st.map p8)]] (.one (.v (.bool true))):=by
 subst he
 refine Ctr.of (n:=38) G Tryz.func13 Z a6 Z Z Z (λw0=>?_)
 refine j8 0 Z (λ_=>Z) (λu0=>?_)
 refine j8 1 Z (λ_=>Z) (λu1=>?_)
 refine w8 ?_
 refine a3c ?_
 refine zcl (O8 _ _ Z hb.en) ?_
 refine zcl (O8 _ _ Z hb.ra) ?_
 refine zcl (O8 _ _ Z hb.po) ?_
 refine zcl (Z7 _ _ Z hb.ma) ?_
 refine zcl (a8s _ _ Z hb.st hb.all) ?_
 exact a6F
theorem a4D:M7 Tryz.prog 118 [.int .i64,.int .i64]=true:=by kernel_rfl
theorem a4E:M7 Tryz.prog 154 [.int .i64,.int .i64,.int .i64]=true:=by kernel_rfl
theorem a4F:M7 Tryz.prog 183 [.int .i64,.int .i64]=true:=by kernel_rfl
theorem a8e (xs ys:List Route) (he:xs=ys) (hn:xs.length<=9223372036854775807):Ctr Tryz.prog 118 [.lst 2 (xs.map n6),.lst 2 (ys.map n6)] (.one (.v (.bool true))):=by
 subst he
 refine Ctr.of (n:=26) G Tryz.func118 Z a6 Z Z Z (λw0=>?_)
 refine b37 ?_
 refine zgn ?_
 refine r7 (f6 [0,1] [] (λ(i:Nat)=>[(5,.v (.int .i64 (i:Int)))]) (λ(i:Nat)=>[]) (λ(i:Nat)=>i<=xs.length) (λ(i:Nat)=>xs.length - i) 0 Z Z ?_ ?_ ?_ ?_)
 ·exact H0
 ·exact u3
 ·exact trivial
 intro i hinv
 refine vm2 ?_
 refine zgn ?_
 refine o7 Z (λh1=>?_) (λh1=>?_)
 ·try rw [h1]
  try simp only [rfb] at h1
  refine b4b ?_
  refine r9 Z Z (V4 (v':=.bool false) (b0z [.int .i64,.int .i64] Z Z Z Z Z Z Z (.inl Z) (.inl Z) a4D ⟨_,_,Z,⟨_,Z⟩,_,_,Z,⟨_,Z⟩,Z⟩ ⟨_,_,Z,⟨_,Z⟩,_,_,Z,⟨_,Z⟩,Z⟩) b1d) ?_
  exact a72
 try rw [h1]
 try simp only [rfb] at h1
 refine zgn ?_
 refine a1M ?_
 all_goals (rfl)
theorem a8t (xs ys:List Slot) (he:xs=ys) (hn:xs.length<=9223372036854775807):Ctr Tryz.prog 206 [.lst 3 (xs.map f9),.lst 3 (ys.map f9)] (.one (.v (.bool true))):=by
 subst he
 refine Ctr.of (n:=26) G Tryz.func206 Z a6 Z Z Z (λw0=>?_)
 refine b37 ?_
 refine zgn ?_
 refine r7 (f6 [0,1] [] (λ(i:Nat)=>[(5,.v (.int .i64 (i:Int)))]) (λ(i:Nat)=>[]) (λ(i:Nat)=>i<=xs.length) (λ(i:Nat)=>xs.length - i) 0 Z Z ?_ ?_ ?_ ?_)
 ·exact H0
 ·exact u3
 ·exact trivial
 intro i hinv
 refine vm2 ?_
 refine zgn ?_
 refine o7 Z (λh1=>?_) (λh1=>?_)
 ·try rw [h1]
  try simp only [rfb] at h1
  refine b4b ?_
  refine r9 Z Z (V4 (v':=.bool false) (b0z [.int .i64,.int .i64,.int .i64] Z Z Z Z Z Z Z (.inl Z) (.inl Z) a4E ⟨_,_,Z,⟨_,Z⟩,_,_,Z,⟨_,Z⟩,_,_,Z,⟨_,Z⟩,Z⟩ ⟨_,_,Z,⟨_,Z⟩,_,_,Z,⟨_,Z⟩,_,_,Z,⟨_,Z⟩,Z⟩) b1d) ?_
  exact a72
 try rw [h1]
 try simp only [rfb] at h1
 refine zgn ?_
 refine a1M ?_
 all_goals (rfl)
theorem a64 (xs ys:List Wtr) (he:xs=ys) (hn:xs.length<=9223372036854775807):Ctr Tryz.prog 207 [.lst 2 (xs.map i5),.lst 2 (ys.map i5)] (.one (.v (.bool true))):=by
 subst he
 refine Ctr.of (n:=26) G Tryz.func207 Z a6 Z Z Z (λw0=>?_)
 refine b37 ?_
 refine zgn ?_
 refine r7 (f6 [0,1] [] (λ(i:Nat)=>[(5,.v (.int .i64 (i:Int)))]) (λ(i:Nat)=>[]) (λ(i:Nat)=>i<=xs.length) (λ(i:Nat)=>xs.length - i) 0 Z Z ?_ ?_ ?_ ?_)
 ·exact H0
 ·exact u3
 ·exact trivial
 intro i hinv
 refine vm2 ?_
 refine zgn ?_
 refine o7 Z (λh1=>?_) (λh1=>?_)
 ·try rw [h1]
  try simp only [rfb] at h1
  refine b4b ?_
  refine r9 Z Z (V4 (v':=.bool false) (b0z [.int .i64,.int .i64] Z Z Z Z Z Z Z (.inl Z) (.inl Z) a4F ⟨_,_,Z,⟨_,Z⟩,_,_,Z,⟨_,Z⟩,Z⟩ ⟨_,_,Z,⟨_,Z⟩,_,_,Z,⟨_,Z⟩,Z⟩) b1d) ?_
  exact a72
 try rw [h1]
 try simp only [rfb] at h1
 refine zgn ?_
 refine a1M ?_
 all_goals (rfl)
theorem a8u (q r:Que) (he:q=r) (h1:q.sl.length<=9223372036854775807) (h2:q.wa.length<=9223372036854775807):Ctr Tryz.prog 167 [.agg [.lst 3 (q.sl.map f9),.lst 2 (q.wa.map i5)],.agg [.lst 3 (r.sl.map f9),.lst 2 (r.wa.map i5)]] (.one (.v (.bool true))):=by
 subst he
 refine Ctr.of (n:=17) G Tryz.func167 Z a6 Z Z Z (λw0=>?_)
 refine j8 0 Z (λ_=>Z) (λu0=>?_)
 refine j8 1 Z (λ_=>Z) (λu1=>?_)
 refine w8 ?_
 refine a3c ?_
 refine zcl (a8t _ _ Z h1) ?_
 refine zcl (a64 _ _ Z h2) ?_
 exact a6F
theorem b0i (x y:Ifc) (he:x=y) (hb:BigI x):Ctr Tryz.prog 119 [.agg [.v (.int .i64 x.ma),.lst 1 (x.st.map Rf.l8),.lst 3 (x.qu.sl.map f9),.lst 2 (x.qu.wa.map i5)],.agg [.v (.int .i64 y.ma),.lst 1 (y.st.map Rf.l8),.lst 3 (y.qu.sl.map f9),.lst 2 (y.qu.wa.map i5)]] (.one (.v (.bool true))):=by
 subst he
 refine Ctr.of (n:=24) G Tryz.func119 Z a6 Z Z Z (λw0=>?_)
 refine j8 0 Z (λ_=>Z) (λu0=>?_)
 refine j8 1 Z (λ_=>Z) (λu1=>?_)
 refine I2 ?_
 refine vm1 ?_
 refine a3c ?_
 refine zgn ?_
 refine b4f ?_
 refine b7 Z Z (V4 (v':=.bool true) (a2p Z Z Z Z) b6m) ?_
 refine a6O ?_
 refine S9 ?_
 refine b7 Z Z (l9 Z (ArgsOK.of Z) (Z7 _ _ Z hb.st) Z) ?_
 refine a57 ?_
 refine S9 ?_
 refine b7 Z Z (l9 Z (ArgsOK.of Z) (a8u x.qu _ Z hb.sl hb.wa) Z) ?_
 refine a1M ?_
 all_goals (rfl)
theorem a2w (x y:Mach) (he:x=y) (hb:BigM x):Ctr Tryz.prog 48 [.agg [.lst 2 (x.rs.map n6),.lst 1 (x.en.map e7),.lst 1 (x.ra.map e7),.nst none 4 (x.cp.map (r3 154 183))],.agg [.lst 2 (y.rs.map n6),.lst 1 (y.en.map e7),.lst 1 (y.ra.map e7),.nst none 4 (y.cp.map (r3 154 183))]] (.one (.v (.bool true))):=by
 subst he
 have hb4:=hb.cp
 refine Ctr.of (n:=56) G Tryz.func48 Z a6 Z Z Z (λw0=>?_)
 refine j8 0 Z (λ_=>Z) (λu0=>?_)
 refine j8 1 Z (λ_=>Z) (λu1=>?_)
 refine I2 ?_
 refine vm1 ?_
 refine a3c ?_
 refine E9 ?_
 refine b4f ?_
 refine b7 Z Z (l9 Z (ArgsOK.of Z) (a8e _ _ Z hb.rs) Z) ?_
 refine a57 ?_
 refine S9 ?_
 refine b7 Z Z (l9 Z (ArgsOK.of Z) (O8 _ _ Z hb.en) Z) ?_
 iterate 7 refine zst ?_
 refine S9 ?_
 refine b7 Z Z (l9 Z (ArgsOK.of Z) (O8 _ _ Z hb.ra) Z) ?_
 iterate 9 refine zst ?_
 refine S9 ?_
 refine b7 Z Z (V4 (v':=.bool false) (a2p Z Z Z Z) b6m) ?_
 refine zgn ?_
 refine C2 Z ?_
 refine zgn ?_
 refine zgn ?_
 refine r7 (f6 [2,3] [0,1] (λ(i:Nat)=>[(5,.v (.int .i64 (i:Int)))]) (λ(i:Nat)=>[]) (λ(i:Nat)=>i<=x.cp.length) (λ(i:Nat)=>x.cp.length - i) 0 Z Z ?_ ?_ ?_ ?_)
 ·exact H0
 ·exact u3
 ·exact trivial
 intro i hinv
 refine vm2 ?_
 refine zgn ?_
 refine o7 Z (λh1=>?_) (λh1=>?_)
 ·try rw [h1]
  try simp only [rfb] at h1
  refine b6q ?_
  iterate 10 refine zst ?_
  refine j7 Z (r9 Z Z (l9 Z (ArgsOK.of Z) (b0i _ _ Z (hb.all i J)) Z) ?_)
  exact a72
 try rw [h1]
 try simp only [rfb] at h1
 refine zgn ?_
 refine a1M ?_
 all_goals (rfl)
theorem a3l (l:List Int) (hl:H5 l):CtrX (α:=Mach) Tryz.prog 116 [.lst 1 (l.map B9)] [] (λy=>(DrM y)/\True) (λy=>.shp true [some 4] [.fr 118 2 (y.rs.map n6),.fr 4 1 (y.en.map e7),.fr 4 1 (y.ra.map e7),.ne 113 4 (y.cp.map (r3 154 183))]) (λy=>[]):=by
 have h:okC 0 (⟨l,0,0⟩:Cur):=⟨hl,Int.le_refl _,Int.le_refl _⟩
 refine CtrX.of (n:=9) (k:=0) G Tryz.func116 Z a6 Z Z Z Z (λ_=>Z) Z Z (λw0 _ hpin=>?_)
 refine a0G ?_
 refine zgn ?_
 refine a9m (t:=0) Z (λy=>?_)
 refine zgo ?_
 refine a3c ?_
 refine zgn ?_
 refine a3s (id:=1) Z ?_
 refine zgo ?_
 refine b5 Z (c9 6 [1] Z Z Z (L8 h J) Z (RowsIn.cons Z RowsIn.nil) Z (λ_=>Z) Z (λx1 ⟨hv1,hc1⟩=>?_))
 refine zgo ?_
 refine g8 (B6 (x1.1) (p9 Z Z Z Z (a7 (b8 Z ?_) (a7 (b8 Z ?_) (a7 (b8 Z ?_) (a7 (t8 Z ?_) d5)))) Z AftOK.nil) (⟨?_,?_⟩))
 all_goals exact b1c
theorem T9 (l:List Int) (hl:H5 l):CtrX (α:=Mach) Tryz.prog 46 [.lst 1 (l.map B9)] [] (λy=>(DrM y)/\True) (λy=>.shp true [some 4] [.fr 118 2 (y.rs.map n6),.fr 4 1 (y.en.map e7),.fr 4 1 (y.ra.map e7),.ne 113 4 (y.cp.map (r3 154 183))]) (λy=>[]):=by
 have h:okC 0 (⟨l,0,0⟩:Cur):=⟨hl,Int.le_refl _,Int.le_refl _⟩
 refine CtrX.of (n:=5) (k:=0) G Tryz.func46 Z a6 Z Z Z Z (λ_=>Z) Z Z (λw0 _ hpin=>?_)
 refine a0G ?_
 refine zgo ?_
 refine b5 Z (c9 5 [] Z Z Z (a3l l hl) Z RowsIn.nil Z (λ_=>Z) Z (λx1 ⟨hv1,hc1⟩=>?_))
 refine zgo ?_
 refine g8 (B6 (x1) (p9 Z Z Z Z (a7 (b8 Z ?_) (a7 (b8 Z ?_) (a7 (b8 Z ?_) (a7 (t8 Z ?_) d5)))) Z AftOK.nil) (⟨?_,?_⟩))
 all_goals exact b1c
theorem a2E (l:List Int) (hl:H5 l):CtrX (α:=List Route×Abs) Tryz.prog 117 [.lst 1 (l.map B9)] [] (λy=>(y.1.length=8/\DrA y.2)/\True) (λy=>.shp false [none,some 5] [.fr 118 2 (y.1.map n6),.fr 4 1 (y.2.en.map e7),.fr 4 1 (y.2.ra.map e7),.fr 4 1 (y.2.po.map e7),.fr 3 1 (y.2.ma.map Rf.l8),.ne 26 1 (y.2.st.map p8)]) (λy=>[]):=by
 have h:okC 0 (⟨l,0,0⟩:Cur):=⟨hl,Int.le_refl _,Int.le_refl _⟩
 refine CtrX.of (n:=17) (k:=0) G Tryz.func117 Z a6 Z Z Z Z (λ_=>Z) Z Z (λw0 _ hpin=>?_)
 refine a0G ?_
 refine zgn ?_
 refine a9m (t:=0) Z (λy=>?_)
 refine zgo ?_
 refine a3c ?_
 refine zgn ?_
 refine a3s (id:=1) Z ?_
 refine zgo ?_
 refine b5 Z (c9 8 [1] Z Z Z (a2D h J) Z (RowsIn.cons Z RowsIn.nil) Z (λ_=>Z) Z (λx1 ⟨hv1,hc1⟩=>?_))
 refine m3 ?_
 refine b0a ?_
 refine zgn ?_
 refine p7 (d7 4 [1,2,3,4,5,6,7,8] mixed a6 Z Z (λr0=>?_) (λ_ h=>h))
 refine a32 ?_
 refine b6 (rs:=[3]) a6 Z (AllB.cons ?_ AllB.nil)
 refine c8 [1,2,3,4,5,6,7,8] Z Z ?_
 refine F6 ?_
 refine vm6 ?_
 refine g8 (B6 (x1.1) (p9 Z Z Z Z (a7 (b8 Z ?_) (a7 (b8 Z ?_) (a7 (b8 Z ?_) (a7 (b8 Z ?_) (a7 (b8 Z ?_) (a7 (t8 Z ?_) d5)))))) Z AftOK.nil) (⟨?_,?_⟩))
 all_goals exact b1c
theorem X5 (l:List Int) (hl:H5 l):CtrX (α:=List Route×Abs) Tryz.prog 47 [.lst 1 (l.map B9)] [] (λy=>(y.1.length=8/\DrA y.2)/\True) (λy=>.shp false [none,some 5] [.fr 118 2 (y.1.map n6),.fr 4 1 (y.2.en.map e7),.fr 4 1 (y.2.ra.map e7),.fr 4 1 (y.2.po.map e7),.fr 3 1 (y.2.ma.map Rf.l8),.ne 26 1 (y.2.st.map p8)]) (λy=>[]):=by
 have h:okC 0 (⟨l,0,0⟩:Cur):=⟨hl,Int.le_refl _,Int.le_refl _⟩
 refine CtrX.of (n:=8) (k:=0) G Tryz.func47 Z a6 Z Z Z Z (λ_=>Z) Z Z (λw0 _ hpin=>?_)
 refine a0G ?_
 refine zgo ?_
 refine b5 Z (c9 7 [] Z Z Z (a2E l hl) Z RowsIn.nil Z (λ_=>Z) Z (λx1 ⟨hv1,hc1⟩=>?_))
 refine zgo ?_
 refine g8 (B6 (x1) (p9 Z Z Z Z (a7 (b8 Z ?_) (a7 (b8 Z ?_) (a7 (b8 Z ?_) (a7 (b8 Z ?_) (a7 (b8 Z ?_) (a7 (t8 Z ?_) d5)))))) Z AftOK.nil) (⟨?_,?_⟩))
 all_goals exact b1c
theorem a2F (l:List Int) (hl:H5 l):CtrX (α:=Mach×List MStep) Tryz.prog 110 [.lst 1 (l.map B9)] [] (λy=>(DrM y.1/\y.2.length<=31)/\True) (λy=>.shp false [some 4,none] [.fr 118 2 (y.1.rs.map n6),.fr 4 1 (y.1.en.map e7),.fr 4 1 (y.1.ra.map e7),.ne 113 4 (y.1.cp.map (r3 154 183)),.fr 40 4 (y.2.map a0Q)]) (λy=>[]):=by
 have h:okC 0 (⟨l,0,0⟩:Cur):=⟨hl,Int.le_refl _,Int.le_refl _⟩
 refine CtrX.of (n:=40) (k:=0) G Tryz.func110 Z a6 Z Z Z Z (λ_=>Z) Z Z (λw0 _ hpin=>?_)
 refine a0G ?_
 refine zgn ?_
 refine a9m (t:=0) Z (λy=>?_)
 refine zgo ?_
 refine a3c ?_
 refine zgn ?_
 refine a3s (id:=1) Z ?_
 refine zgo ?_
 refine b5 Z (c9 6 [1] Z Z Z (L8 h J) Z (RowsIn.cons Z RowsIn.nil) Z (λ_=>Z) Z (λx1 ⟨hv1,hc1⟩=>?_))
 refine vm4 ?_
 refine b1h ?_
 refine m3 ?_
 refine b6s ?_
 refine zgo ?_
 refine b5 Z (c9 8 [1] Z Z Z (p6 hc1 J (10)) Z (RowsIn.cons Z RowsIn.nil) Z (λ_=>Z) Z (λx2 ⟨hv2,hc2⟩=>?_))
 refine zgo ?_
 refine f6 [2,4,5] [0,2,3,4,5,6] (λ(z:Nat×Cur×List MStep)=>[(6,.own 7),(7,.v (.int .i64 (x2.1 - z.1)))]) (λ(z:Nat×Cur×List MStep)=>[(1,some (.box [.lst 1 (z.2.1.c.map B9),.v (.int .i64 z.2.1.a),.v (.int .u64 z.2.1.s)])),(7,some (.row 40 4 (z.2.2.map a0Q)))]) (λ(z:Nat×Cur×List MStep)=>(z.1:Int)<=x2.1/\z.2.2.length=z.1/\okC (5000+20 * z.1) z.2.1) (λ(z:Nat×Cur×List MStep)=>x2.1.toNat - z.1) (0,x2.2,[]) Z Z ?_ ?_ ?_ ?_
 ·exact ⟨hv2.1,Z,hc2.mono (by simp)⟩
 ·exact b6J
 ·exact b0c
 intro z hinv
 obtain ⟨hz1,hz2,hz⟩:=hinv
 have hM3:=hv1.n
 refine vm2 ?_
 refine zcd (λh1=>?_) (λh1=>?_)
 ·refine zgo ?_
  refine b5 Z (c9 8 [1,2,3,4,5] Z Z Z (T8 hz J x1.1 J) Z (RowsIn.cons Z (RowsIn.cons Z (RowsIn.cons Z (RowsIn.cons Z (RowsIn.cons Z RowsIn.nil))))) Z (λ_=>Z) Z (λx3 ⟨hv3,hc3⟩=>?_))
  refine vm4 ?_
  refine b6t ?_
  refine b7P ?_
  refine ⟨(z.1+1,x3.2,z.2.2++[x3.1]),?_,?_,⟨⟨_,Z,by (first | rfl | exact congrArg (λv=>AV.v (.int .i64 v)) (by show x2.1 - (z.1:Int) - 1=x2.1 - ((z.1+1:Nat):Int);omega))⟩,Z,⟨⟨_,Z,by (first | rfl | exact congrArg (λv=>AV.v (.int .i64 v)) (by show x2.1 - (z.1:Int) - 1=x2.1 - ((z.1+1:Nat):Int);omega))⟩,Z,trivial⟩⟩,⟨⟨_,Z,by (first | rfl | exact congrArg (Row.row _ _) a0u)⟩,Z,Z,⟨⟨_,Z,by (first | rfl | exact congrArg (Row.row _ _) a0u)⟩,Z,Z,trivial⟩⟩,Z,Z,Z⟩
  ·exact ⟨by show ((z.1+1:Nat):Int)<=x2.1;omega,by show (z.2.2++[_]).length=z.1+1;simp;omega,hc3.mono g0⟩
  (show x2.1.toNat - (z.1+1) < x2.1.toNat - z.1;omega)
 refine zgo ?_
 refine b5 Z (c9 8 [1] Z Z Z (a73 hz J (24)) Z (RowsIn.cons Z RowsIn.nil) Z (λ_=>Z) Z (λx4 ⟨hv4,hc4⟩=>?_))
 refine zcd (λh2=>?_) (λh2=>?_)
 ·refine zgo ?_
  refine f6 [2,4,5] [0,2,3,4,5,6] (λ(v:Cur×List MStep)=>[(6,.own 7)]) (λ(v:Cur×List MStep)=>[(1,some (.box [.lst 1 (v.1.c.map B9),.v (.int .i64 v.1.a),.v (.int .u64 v.1.s)])),(7,some (.row 40 4 (v.2.map a0Q)))]) (λ(v:Cur×List MStep)=>v.2.length<=31/\okC (6000+2 * v.2.length) v.1) (λ(v:Cur×List MStep)=>31 - v.2.length) (x4.2,z.2.2) Z Z ?_ ?_ ?_ ?_
  ·exact ⟨by show z.2.2.length<=31;omega,hc4.mono (by show _<=6000+2 * (z.2.2.length:Int);omega)⟩
  ·exact b1o
  ·exact b0c
  intro v hinv
  obtain ⟨hw1,hw⟩:=hinv
  refine vm2 ?_
  refine zgo ?_
  refine b5 Z (c9 8 [1] Z Z Z (p6 hw J (2)) Z (RowsIn.cons Z RowsIn.nil) Z (λ_=>Z) Z (λx5 ⟨hv5,hc5⟩=>?_))
  refine zcd (λh3=>?_) (λh3=>?_)
  ·refine m3 ?_
   refine b6t ?_
   refine b7P ?_
   refine ⟨(x5.2,v.2++[⟨2,0,0,0⟩]),?_,?_,⟨⟨_,Z,by rfl⟩,Z,trivial⟩,⟨⟨_,Z,by (first | rfl | exact congrArg (Row.row _ _) a0u)⟩,Z,Z,⟨⟨_,Z,by (first | rfl | exact congrArg (Row.row _ _) a0u)⟩,Z,Z,trivial⟩⟩,Z,Z,Z⟩
   ·exact ⟨by show (v.2++[_]).length<=31;simp;omega,hc5.mono (by show _<=6000+2 * ((v.2++[(⟨2,0,0,0⟩:MStep)]).length:Int);simp;omega)⟩
   (show 31 - (v.2++[_]).length < 31 - v.2.length;simp;omega)
  refine zgo ?_
  refine g8 (B6 ((x1.1,v.2)) (p9 Z Z Z Z (a7 (b8 Z ?_) (a7 (b8 Z ?_) (a7 (b8 Z ?_) (a7 (t8 Z ?_) (a7 (b8 Z ?_) d5))))) Z AftOK.nil) (⟨?_,?_⟩))
  all_goals exact b9a
 refine zgo ?_
 refine g8 (B6 ((x1.1,z.2.2)) (p9 Z Z Z Z (a7 (b8 Z ?_) (a7 (b8 Z ?_) (a7 (b8 Z ?_) (a7 (t8 Z ?_) (a7 (b8 Z ?_) d5))))) Z AftOK.nil) (⟨?_,?_⟩))
 all_goals exact b9a
theorem a4G (l:List Int) (hl:H5 l):CtrX (α:=Mach×List MStep) Tryz.prog 43 [.lst 1 (l.map B9)] [] (λy=>(DrM y.1/\y.2.length<=31)/\True) (λy=>.shp false [some 4,none] [.fr 118 2 (y.1.rs.map n6),.fr 4 1 (y.1.en.map e7),.fr 4 1 (y.1.ra.map e7),.ne 113 4 (y.1.cp.map (r3 154 183)),.fr 40 4 (y.2.map a0Q)]) (λy=>[]):=by
 have h:okC 0 (⟨l,0,0⟩:Cur):=⟨hl,Int.le_refl _,Int.le_refl _⟩
 refine CtrX.of (n:=8) (k:=0) G Tryz.func43 Z a6 Z Z Z Z (λ_=>Z) Z Z (λw0 _ hpin=>?_)
 refine a0G ?_
 refine zgo ?_
 refine b5 Z (c9 6 [] Z Z Z (a2F l hl) Z RowsIn.nil Z (λ_=>Z) Z (λx1 ⟨hv1,hc1⟩=>?_))
 refine zgo ?_
 refine g8 (B6 (x1) (p9 Z Z Z Z (a7 (b8 Z ?_) (a7 (b8 Z ?_) (a7 (b8 Z ?_) (a7 (t8 Z ?_) (a7 (b8 Z ?_) d5))))) Z AftOK.nil) (⟨?_,?_⟩))
 all_goals exact b1c
end Go.Proofs.YtcnodpipinlpcaaGreat
