/- Texts merged into one: W12, A1, A2. -/
import Derived.Test.YtcnodpipinlpcaaGreatPFnAbstractStepsH
set_option maxHeartbeats 4000000
set_option linter.unusedSimpArgs false
set_option linter.unusedVariables false
set_option maxRecDepth 20000
namespace Go.Proofs.YtcnodpipinlpcaaGreat
open Go Go.Rf
theorem F1 (xs:List MStep) (f:Nat) (a:Abs) (p:MStep→Bool) (hl:xs.length≤1048576) (hf:∀ i,i < xs.length→Ctr Tryz.prog f [.v (a0g (xs.getD i default)),.eptN [.lst 1 (a.en.map l0),.lst 1 (a.ra.map l0),.lst 1 (a.po.map l0),.lst 1 (a.ma.map Rf.r5),.nst none 1 (a.st.map s1)]] (.one (.v (.bool (p (xs.getD i default)))))):Ctr Tryz.prog 127 [.lst 4 (xs.map a4c),.fnc f [.eptN [.lst 1 (a.en.map l0),.lst 1 (a.ra.map l0),.lst 1 (a.po.map l0),.lst 1 (a.ma.map Rf.r5),.nst none 1 (a.st.map s1)]]] (.one (.v (.int .i64 (S4 (fun i=>p (xs.getD i default)) xs.length)))):=by
 refine Ctr.of (n:=19) G Tryz.func127 rfl (by kernel_rfl) rfl rfl rfl (fun w0=>?_)
 refine b4 (fun K1 hK1=>?_)
 refine a6 ?_
 refine a1 rfl ?_
 refine a3 rfl rfl (a7 rfl rfl) ?_
 refine a4 ?_
 refine hK1 _ ?_
 clear hK1 K1
 refine b4 (fun K2 hK2=>?_)
 refine b4 (fun K3 hK3=>?_)
 refine a6 ?_
 refine a1 rfl ?_
 refine a3 rfl rfl (a8 rfl rfl) ?_
 refine a1 rfl ?_
 first | refine a3 rfl rfl (r4 G rfl rfl rfl rfl (List.length_map _)) ?_ | refine a3 rfl rfl (t6 G rfl rfl rfl rfl) ?_
 refine a1 rfl ?_
 refine a3 rfl rfl (a8 rfl rfl) ?_
 refine a4 ?_
 refine hK3 _ ?_
 clear hK3 K3
 refine l8 ?_
 refine m4 [0,1,7] [] (fun (i:Nat)=>[(8,.v (.int .i64 (i:Int)))]) (fun (i:Nat)=>[]) (fun (i:Nat)=>i≤xs.length∧∀ j,j < i→p (xs.getD j default)=false) (fun (i:Nat)=>xs.length - i) 0 rfl rfl ?_ ?_ ?_ ?_
 ·exact ⟨Nat.zero_le _,fun j hj=>by omega⟩
 ·exact ⟨⟨_,rfl,by (first | rfl | (simp;done) | (simp;omega))⟩,rfl,trivial⟩
 ·exact trivial
 ·intro i hinv
  simp only [List.cons_append,List.nil_append]
  refine b4 (fun K4 hK4=>?_)
  refine a6 ?_
  refine a1 rfl ?_
  refine a3 rfl rfl (f9 rfl rfl rfl rfl) ?_
  refine a4 ?_
  refine hK4 _ ?_
  clear hK4 K4
  refine b4 (fun K5 hK5=>?_)
  refine d1 rfl (fun h1=>?_) (fun h1=>?_)
  ·try rw [h1]
   try simp only [rfb] at h1
   refine e9 ?_
   refine hK5 _ ?_
   clear hK5 K5
   refine b4 (fun K6 hK6=>?_)
   refine l8 ?_
   refine b4 (fun K7 hK7=>?_)
   refine a6 ?_
   refine a1 rfl ?_
   refine a3 rfl rfl (a8 rfl rfl) ?_
   refine a1 rfl ?_
   refine a3 rfl rfl (a7 rfl rfl) ?_
   refine a4 ?_
   refine hK7 _ ?_
   clear hK7 K7
   refine b4 (fun K8 hK8=>?_)
   refine a6 ?_
   refine a1 rfl ?_
   refine a3 rfl rfl (a8 rfl rfl) ?_
   refine a1 rfl ?_
   refine a3 rfl rfl (a8 rfl rfl) ?_
   refine a1 rfl ?_
   refine a3 rfl rfl (a8 rfl rfl) ?_
   refine a1 rfl ?_
   refine a3 rfl rfl (f6 G rfl rfl rfl rfl (by omega) (C4 (by omega))) ?_
   refine a1 rfl ?_
   refine a3 rfl rfl (B2 G rfl rfl rfl rfl) ?_
   refine a1 rfl ?_
   refine a3 rfl rfl (a8E rfl rfl (ArgsOK.of rfl) rfl (hf _ (by omega)) rfl) ?_
   refine a4 ?_
   refine hK8 _ ?_
   clear hK8 K8
   refine d1 rfl (fun h2=>?_) (fun h2=>?_)
   ·try rw [h2]
    try simp only [rfb] at h2
    refine b4 (fun K9 hK9=>?_)
    refine a6 ?_
    refine a1 rfl ?_
    refine a3 rfl rfl (a8 rfl rfl) ?_
    refine a1 rfl ?_
    refine a3 rfl rfl (a7 rfl rfl) ?_
    refine a4 ?_
    refine hK9 _ ?_
    clear hK9 K9
    refine c8 ?_
    refine j4 rfl ?_
    refine g9 ?_
    all_goals clear hK6 K6 hK2 K2
    all_goals (first | (rw [J2 (i:=i) hinv.2 (by omega) (by assumption)];done) | (rw [Q8 hinv.2 (by omega)];done))
   ·try rw [h2]
    try simp only [rfb] at h2
    refine e9 ?_
    refine hK6 _ ?_
    clear hK6 K6
    refine a6 ?_
    refine a1 rfl ?_
    first | refine a3 rfl rfl (i8 rfl rfl rfl rfl (by omega) (by omega)) ?_ | refine a3 rfl rfl (k4 rfl rfl rfl rfl) ?_
    refine a1 rfl ?_
    refine a3 rfl rfl (a8 rfl rfl) ?_
    refine a4 ⟨(i+1),?_,?_,⟨⟨_,rfl,by rfl⟩,rfl,trivial⟩,trivial,rfl,rfl,rfl⟩
    ·exact ⟨by omega,p7 hinv.2 (by assumption)⟩
    ·omega
  ·try rw [h1]
   try simp only [rfb] at h1
   refine B0 ?_
   refine hK2 _ ?_
   clear hK5 K5 hK2 K2
   refine b4 (fun K10 hK10=>?_)
   refine a6 ?_
   refine a1 rfl ?_
   refine a3 rfl rfl (a7 rfl rfl) ?_
   refine a4 ?_
   refine hK10 _ ?_
   clear hK10 K10
   refine c8 ?_
   refine j4 rfl ?_
   refine g9 ?_
   all_goals (first | (rw [J2 (i:=i) hinv.2 (by omega) (by assumption)];done) | (rw [Q8 hinv.2 (by omega)];done))
theorem D0 (xs:List MStep) (f:Nat) (a:Abs) (p:MStep→Bool) (hl:xs.length≤1048576) (hf:∀ i,i < xs.length→Ctr Tryz.prog f [.v (a0g (xs.getD i default)),.eptN [.lst 1 (a.en.map l0),.lst 1 (a.ra.map l0),.lst 1 (a.po.map l0),.lst 1 (a.ma.map Rf.r5),.nst none 1 (a.st.map s1)]] (.one (.v (.bool (p (xs.getD i default)))))):Ctr Tryz.prog 53 [.lst 4 (xs.map a4c),.fnc f [.eptN [.lst 1 (a.en.map l0),.lst 1 (a.ra.map l0),.lst 1 (a.po.map l0),.lst 1 (a.ma.map Rf.r5),.nst none 1 (a.st.map s1)]]] (.one (.v (.bool (a0F xs.length (fun i=>p (xs.getD i default)))))):=by
 refine Ctr.of (n:=9) G Tryz.func53 rfl (by kernel_rfl) rfl rfl rfl (fun w0=>?_)
 refine b4 (fun K1 hK1=>?_)
 refine a6 ?_
 refine a1 rfl ?_
 refine a3 rfl rfl (a7 rfl rfl) ?_
 refine a4 ?_
 refine hK1 _ ?_
 clear hK1 K1
 refine b4 (fun K2 hK2=>?_)
 refine a6 ?_
 refine a1 rfl ?_
 refine a3 rfl rfl (a8 rfl rfl) ?_
 refine a1 rfl ?_
 refine a3 rfl rfl (a8 rfl rfl) ?_
 refine a1 rfl ?_
 refine a3 rfl rfl (k5 rfl (ArgsOK.of rfl) (F1 xs f a p hl hf) rfl) ?_
 refine a1 rfl ?_
 refine a3 rfl rfl (f9 rfl rfl rfl rfl) ?_
 refine a1 rfl ?_
 refine a3 rfl rfl (a7 rfl rfl) ?_
 refine a4 ?_
 refine hK2 _ ?_
 clear hK2 K2
 refine c8 ?_
 refine j4 rfl ?_
 refine g9 ?_
 all_goals (rw [a2J])
theorem a1E (x:MStep) (a:Abs) (hs:SmallA a):Ctr Tryz.prog 54 [.v (a0g x),.eptN [.lst 1 (a.en.map l0),.lst 1 (a.ra.map l0),.lst 1 (a.po.map l0),.lst 1 (a.ma.map Rf.r5),.nst none 1 (a.st.map s1)]] (.one (.v (.bool (!f8 a.ma.length x)))):=by
 refine Ctr.of (n:=8) G Tryz.func54 rfl (by kernel_rfl) rfl rfl rfl (fun w0=>?_)
 refine b4 (fun K1 hK1=>?_)
 refine a6 ?_
 refine a1 rfl ?_
 refine y4 1 rfl rfl rfl rfl rfl rfl rfl ?_
 refine a1 rfl ?_
 refine a3 rfl rfl (a7 rfl rfl) ?_
 refine a4 ?_
 refine hK1 _ ?_
 clear hK1 K1
 refine b4 (fun K2 hK2=>?_)
 refine a6 ?_
 refine a1 rfl ?_
 refine a3 rfl rfl (U3 G rfl rfl rfl rfl) ?_
 refine a1 rfl ?_
 refine a3 rfl rfl (b3 G rfl rfl rfl rfl rfl rfl) ?_
 refine a1 rfl ?_
 refine a3 rfl rfl (k5 rfl (ArgsOK.of rfl) (P0 _ _ (by assumption)) rfl) ?_
 refine a1 rfl ?_
 refine a3 rfl rfl (C2 rfl rfl) ?_
 refine a1 rfl ?_
 refine a3 rfl rfl (a7 rfl rfl) ?_
 refine a4 ?_
 refine hK2 _ ?_
 clear hK2 K2
 refine c8 ?_
 refine j4 rfl ?_
 refine g9 ?_
 all_goals (first | rfl | (simp_all;done))
theorem a4r (n:Nat) (ss:List MStep) (hn:n≤1048576) (hl:ss.length≤9223372036854775807):Ctr Tryz.prog 59 [.v (.int .i64 (n:Int)),.lst 4 (ss.map a4c)] (.one (.v (.bool (V7 n ss)))):=by
 refine Ctr.of (n:=22) G Tryz.func59 rfl b5 rfl rfl rfl (fun w0=>?_)
 refine zgo ?_
 refine m4 [0,1] [] (fun (i:Nat)=>[(5,.v (.int .i64 (i:Int)))]) (fun (i:Nat)=>[]) (fun (i:Nat)=>i≤ss.length∧∀ j,j < i→f8 n (ss.getD j default)=true) (fun (i:Nat)=>ss.length - i) 0 rfl rfl ?_ ?_ ?_ ?_
 ·exact ⟨Nat.zero_le _,fun j hj=>by omega⟩
 ·exact ⟨⟨_,rfl,by (first | rfl | (simp;done) | (simp;omega))⟩,rfl,trivial⟩
 ·exact trivial
 intro i hinv
 simp only [List.cons_append,List.nil_append]
 refine zcd (fun h1=>?_) (fun h1=>?_)
 ·refine zcl (a1x _ _ (by first | assumption | omega)) ?_
  refine zcd (fun h2=>?_) (fun h2=>?_)
  ·refine zf1 ?_
   all_goals exact b4U
  refine zgo ?_
  refine ⟨(i+1),?_,?_,⟨⟨_,rfl,by rfl⟩,rfl,trivial⟩,trivial,rfl,rfl,rfl⟩
  ·exact ⟨by omega,p7 hinv.2 d8⟩
  omega
 refine zf1 ?_
 all_goals exact b4U
theorem a2u (rs:List Route) (a:Abs) (ss:List MStep) (hs:SmallA a) (hn:rs.length≤1048576) (hl:ss.length≤1048576):Ctr Tryz.prog 11 [.lst 2 (rs.map u7),.agg [.lst 1 (a.en.map l0),.lst 1 (a.ra.map l0),.lst 1 (a.po.map l0),.lst 1 (a.ma.map Rf.r5),.nst none 1 (a.st.map s1)],.lst 4 (ss.map a4c)] (.shp false [some 5,none,none] [.fr 4 1 ((rnT rs a ss).1.en.map l0),.fr 4 1 ((rnT rs a ss).1.ra.map l0),.fr 4 1 ((rnT rs a ss).1.po.map l0),.fr 3 1 ((rnT rs a ss).1.ma.map Rf.r5),.ne 26 1 ((rnT rs a ss).1.st.map s1),.fr 3 1 ((rnT rs a ss).2.1.map Rf.r5),.v (.bool (rnT rs a ss).2.2)]):=by
 refine Ctr.of (n:=64) G Tryz.func11 rfl (by kernel_rfl) rfl rfl rfl (fun w0=>?_)
 refine r8 1 rfl (fun _=>rfl) (fun u1=>?_)
 refine b4 (fun K1 hK1=>?_)
 refine a6 ?_
 refine a1 rfl ?_
 refine y4 1 rfl rfl rfl rfl rfl rfl rfl ?_
 refine a1 rfl ?_
 refine d7 G 2 rfl rfl rfl rfl rfl ?_
 refine a1 rfl ?_
 refine a3 rfl rfl (a7 rfl rfl) ?_
 refine a1 rfl ?_
 refine a3 rfl rfl (a7 rfl rfl) ?_
 refine a4 ?_
 refine hK1 _ ?_
 clear hK1 K1
 refine b4 (fun K2 hK2=>?_)
 refine a6 ?_
 refine a1 rfl ?_
 refine k6 G 3 rfl rfl rfl rfl rfl rfl rfl rfl ?_
 refine a1 rfl ?_
 refine a3 rfl rfl (a7 rfl rfl) ?_
 refine a4 ?_
 refine hK2 _ ?_
 clear hK2 K2
 refine b4 (fun K3 hK3=>?_)
 refine b4 (fun K4 hK4=>?_)
 refine a6 ?_
 refine a1 rfl ?_
 refine a3 rfl rfl (a8 rfl rfl) ?_
 refine a1 rfl ?_
 refine a3 rfl rfl (b3 G rfl rfl rfl rfl rfl rfl) ?_
 refine a1 rfl ?_
 refine a3 rfl rfl (k5 rfl (ArgsOK.of rfl) (V8 _ _ (by assumption) (by first | assumption | omega)) rfl) ?_
 refine a1 rfl (a3 rfl rfl (C2 rfl rfl) (a1 rfl (a3 rfl rfl (a8 rfl rfl) (o8 rfl rfl rfl (fun h1=>?_) (fun h1=>?_)))))
 ·try rw [h1]
  try simp only [rfb] at h1
  have hR:=a8f (ss:=ss) h1
  refine b6 rfl rfl rfl rfl rfl rfl ?_
  refine b6 rfl rfl rfl rfl rfl rfl ?_
  refine b6 rfl rfl rfl rfl rfl rfl ?_
  refine b6 rfl rfl rfl rfl rfl rfl ?_
  refine b6 rfl rfl rfl rfl rfl rfl ?_
  refine b6 rfl rfl rfl rfl rfl rfl ?_
  refine a1 rfl ?_
  refine a3 rfl rfl (i5 rfl rfl rfl) ?_
  refine a4 ?_
  refine hK4 _ ?_
  clear hK4 K4
  refine r7 rfl ?_
  refine b4 (fun K5 hK5=>?_)
  refine a6 ?_
  refine a1 rfl ?_
  refine a3 rfl rfl (g0 G rfl rfl rfl rfl) ?_
  refine a1 rfl ?_
  refine a3 rfl rfl (a8 rfl rfl) ?_
  refine a1 rfl ?_
  refine c5 G rfl rfl rfl rfl rfl rfl rfl rfl rfl rfl rfl ?_
  refine a1 rfl ?_
  refine a3 rfl rfl (a7 rfl rfl) ?_
  refine a1 rfl ?_
  refine a3 rfl rfl (a7 rfl rfl) ?_
  refine a4 ?_
  refine hK5 _ ?_
  clear hK5 K5
  refine c8 (l6 rfl rfl rfl rfl (a5 (o7 ?_) (a5 (o7 ?_) (a5 (o7 ?_) (a5 (o7 ?_) (a5 (H0 ?_) (a5 (b8 rfl ?_) (a5 (g9 ?_) d4))))))))
  all_goals clear hK3 K3
  all_goals (first | (rw [hR];done) | (rw [hR];rfl) | (have hR:=a4e h1 hsv;have e:i=ss.length:=(by omega);subst e;rw [hR];done))
 ·try rw [h1]
  try simp only [rfb] at h1
  have hF:=a3D h1
  refine c6 rfl rfl rfl ?_
  refine a3 rfl rfl (b7 G rfl rfl rfl rfl) ?_
  refine c6 rfl rfl rfl ?_
  refine a3 rfl rfl (E0 (c4 G rfl rfl rfl rfl rfl rfl rfl)) ?_
  refine c6 rfl rfl rfl ?_
  first | refine a3 rfl rfl (r4 G rfl rfl rfl rfl (List.length_map _)) ?_ | refine a3 rfl rfl (t6 G rfl rfl rfl rfl) ?_
  refine c6 rfl rfl rfl ?_
  refine a3 rfl rfl (a8 rfl rfl) ?_
  refine c6 rfl rfl rfl ?_
  refine a3 rfl rfl (k5 rfl (ArgsOK.of rfl) (a4r a.ma.length ss hs.ma (by omega)) rfl) ?_
  refine c6 rfl rfl rfl ?_
  refine a3 rfl rfl (C2 rfl rfl) ?_
  refine a1 rfl ?_
  refine a3 rfl rfl (i7 rfl rfl rfl) ?_
  refine a4 ?_
  refine hK4 _ ?_
  clear hK4 K4
  refine d1 rfl (fun h2=>?_) (fun h2=>?_)
  ·try rw [h2]
   try simp only [rfb] at h2
   have hR:=a6E (rs:=rs) (a:=a) (ss:=ss) h2
   refine b4 (fun K6 hK6=>?_)
   refine a6 ?_
   refine a1 rfl ?_
   refine a3 rfl rfl (g0 G rfl rfl rfl rfl) ?_
   refine a1 rfl ?_
   refine a3 rfl rfl (a8 rfl rfl) ?_
   refine a1 rfl ?_
   refine c5 G rfl rfl rfl rfl rfl rfl rfl rfl rfl rfl rfl ?_
   refine a1 rfl ?_
   refine a3 rfl rfl (a7 rfl rfl) ?_
   refine a1 rfl ?_
   refine a3 rfl rfl (a7 rfl rfl) ?_
   refine a4 ?_
   refine hK6 _ ?_
   clear hK6 K6
   refine c8 (l6 rfl rfl rfl rfl (a5 (o7 ?_) (a5 (o7 ?_) (a5 (o7 ?_) (a5 (o7 ?_) (a5 (H0 ?_) (a5 (b8 rfl ?_) (a5 (g9 ?_) d4))))))))
   all_goals clear hK3 K3
   all_goals (first | (rw [hR];done) | (rw [hR];rfl) | (have hR:=a4e h1 hsv;have e:i=ss.length:=(by omega);subst e;rw [hR];done))
  ·try rw [h2]
   try simp only [rfb] at h2
   have hsv:=h2
   have hv:=(P9.mp hsv).2
   have hl30:=(P9.mp hsv).1
   refine e9 ?_
   refine hK3 _ ?_
   clear hK3 K3
   refine b4 (fun K7 hK7=>?_)
   refine a6 ?_
   refine a1 rfl ?_
   refine a3 rfl rfl (b3 G rfl rfl rfl rfl rfl rfl) ?_
   refine a1 rfl ?_
   refine g8 8 rfl rfl rfl (ArgsOK.of rfl) (Z5 a hs) rfl rfl ?_
   refine a1 rfl ?_
   refine d7 G 9 rfl rfl rfl rfl rfl ?_
   refine a1 rfl ?_
   refine c5 G rfl rfl rfl rfl rfl rfl rfl rfl rfl rfl rfl ?_
   refine a4 ?_
   refine hK7 _ ?_
   clear hK7 K7
   refine b4 (fun K8 hK8=>?_)
   refine b4 (fun K9 hK9=>?_)
   refine a6 ?_
   refine a1 rfl ?_
   refine a3 rfl rfl (a7 rfl rfl) ?_
   refine a4 ?_
   refine hK9 _ ?_
   clear hK9 K9
   refine l8 ?_
   refine m4 [0,2,6,10] [1,8] (fun (i:Nat)=>[(9,.own 2),(11,.v (.int .i64 (i:Int)))]) (fun (i:Nat)=>[(2,some (.row 3 1 ((rnN rs a ss i).2.map Rf.r5))),(3,some (.row 4 1 ((rnN rs a ss i).1.en.map l0))),(4,some (.row 4 1 ((rnN rs a ss i).1.ra.map l0))),(5,some (.row 4 1 ((rnN rs a ss i).1.po.map l0))),(6,some (.row 3 1 ((rnN rs a ss i).1.ma.map Rf.r5))),(7,some (.nest 26 1 ((rnN rs a ss i).1.st.map s1) []))]) (fun (i:Nat)=>i≤ss.length) (fun (i:Nat)=>ss.length - i) 0 rfl rfl ?_ ?_ ?_ ?_
   ·exact Nat.zero_le _
   ·exact ⟨⟨_,rfl,by rfl⟩,rfl,⟨⟨_,rfl,by rfl⟩,rfl,trivial⟩⟩
   ·exact ⟨⟨_,rfl,by rfl⟩,rfl,rfl,⟨⟨_,rfl,by rfl⟩,rfl,rfl,⟨⟨_,rfl,by rfl⟩,rfl,rfl,⟨⟨_,rfl,by rfl⟩,rfl,rfl,⟨⟨_,rfl,by rfl⟩,rfl,rfl,⟨⟨_,rfl,by rfl⟩,rfl,rfl,trivial⟩⟩⟩⟩⟩⟩
   ·intro i hinv
    have hFi:=a80 hF hv i (by omega)
    have hvi:i < ss.length→f8 (rnN rs a ss i).1.ma.length (ss.getD i default)=true:=fun h=>(by rw [hFi.2];exact hv i h)
    have hli:=@a20 rs a ss i
    simp only [List.cons_append,List.nil_append]
    refine b4 (fun K10 hK10=>?_)
    refine b4 (fun K11 hK11=>?_)
    refine a6 ?_
    refine a1 rfl ?_
    refine a3 rfl rfl (a8 rfl rfl) ?_
    refine a1 rfl ?_
    refine a3 rfl rfl (a8 rfl rfl) ?_
    refine a1 rfl ?_
    first | refine a3 rfl rfl (r4 G rfl rfl rfl rfl (List.length_map _)) ?_ | refine a3 rfl rfl (t6 G rfl rfl rfl rfl) ?_
    refine a1 rfl ?_
    refine a3 rfl rfl (f9 rfl rfl rfl rfl) ?_
    refine a4 ?_
    refine hK11 _ ?_
    clear hK11 K11
    refine d1 rfl (fun h3=>?_) (fun h3=>?_)
    ·try rw [h3]
     try simp only [rfb] at h3
     refine e9 ?_
     refine hK10 _ ?_
     clear hK10 K10
     refine b4 (fun K12 hK12=>?_)
     refine l8 ?_
     refine b4 (fun K13 hK13=>?_)
     refine j9 15 [1,2,3,4,5,6,7,8] m5 (by kernel_rfl) rfl rfl (fun r0=>?_) (fun _ h=>h)
     refine b9 0 rfl (by kernel_rfl) (by kernel_rfl) rfl rfl rfl rfl (a8 rfl rfl) ?_
     refine b9 1 rfl (by kernel_rfl) (by kernel_rfl) rfl rfl rfl rfl (b3 G rfl rfl rfl rfl rfl rfl) ?_
     refine b9 2 rfl (by kernel_rfl) (by kernel_rfl) rfl rfl rfl rfl (a8 rfl rfl) ?_
     refine b9 3 rfl (by kernel_rfl) (by kernel_rfl) rfl rfl rfl rfl (a8 rfl rfl) ?_
     refine b9 4 rfl (by kernel_rfl) (by kernel_rfl) rfl rfl rfl rfl (f6 G rfl rfl rfl rfl (by omega) (C4 (by omega))) ?_
     refine b9 5 rfl (by kernel_rfl) (by kernel_rfl) rfl rfl rfl rfl (B2 G rfl rfl rfl rfl) ?_
     refine z8 (N:=10) rfl (s2 (fuel:=8) [⟨11,12,9,true,.box (avR [.slice none 0 0,.slice none 0 0,.slice none 0 0,.slice none 0 0,.slice none 0 0] [])⟩] (AllVOK.cons (VOK.boxS G rfl rfl rfl rfl rfl) (AllVOK.nil)) (fun hok=>?_))
     refine n6 [(6,[])] (by kernel_rfl) (by kernel_rfl) (fun e he=>hok e he) (by kernel_rfl) (AllVS.cons ?_ AllVS.nil)
     refine VStep.mk0 [1,2,3,4,5,6,7,8] rfl rfl (fun b1 _ hbn=>g8 15 rfl rfl rfl (ArgsOK.of rfl) (a1D rs _ _ _ _ _ hFi.1 (hvi (by omega))) rfl rfl (a4 rfl)) (by kernel_rfl) (by kernel_rfl) (by kernel_rfl) (by kernel_rfl) ?_
     refine w9 7 rfl (by kernel_rfl) rfl rfl rfl rfl (a8 rfl rfl) (by kernel_rfl) (by kernel_rfl) (by kernel_rfl) ?_
     refine w9 8 rfl (by kernel_rfl) rfl rfl rfl rfl (c9 rfl rfl rfl) (by kernel_rfl) (by kernel_rfl) (by kernel_rfl) ?_
     refine w9 9 rfl (by kernel_rfl) rfl rfl rfl rfl (c9 rfl rfl rfl) (by kernel_rfl) (by kernel_rfl) (by kernel_rfl) ?_
     refine w9 10 rfl (by kernel_rfl) rfl rfl rfl rfl (c9 rfl rfl rfl) (by kernel_rfl) (by kernel_rfl) (by kernel_rfl) ?_
     refine n6 [(12,[11])] (by kernel_rfl) (by kernel_rfl) (fun e he=>hok e he) (by kernel_rfl) (AllVS.cons ?_ AllVS.nil)
     refine VStep.mk1 [1,2,3,4,5,6,7,8] 12 (.ptr 9 0) 9 (.box (avR [.slice none 0 0,.slice none 0 0,.slice none 0 0,.slice none 0 0,.slice none 0 0] [])) [] rfl rfl rfl rfl rfl (fun b1 _ hbn=>c5 G rfl rfl rfl rfl rfl rfl rfl rfl rfl rfl rfl (a4 rfl)) (by kernel_rfl) (by kernel_rfl) (by kernel_rfl) (by kernel_rfl) ?_
     refine F8 ?_
     clear hok
     refine b9 13 rfl (by kernel_rfl) (by kernel_rfl) rfl rfl rfl rfl (a7 rfl rfl) ?_
     refine b9 14 rfl (by kernel_rfl) (by kernel_rfl) rfl rfl rfl rfl (a7 rfl rfl) ?_
     refine l9 (by kernel_rfl) ?_
     refine hK13 _ ?_
     clear hK13 K13
     refine b4 (fun K14 hK14=>?_)
     refine b4 (fun K15 hK15=>?_)
     refine a6 ?_
     refine a1 rfl ?_
     refine a3 rfl rfl (a8 rfl rfl) ?_
     refine a1 rfl ?_
     refine a3 rfl rfl (C2 rfl rfl) ?_
     refine a4 ?_
     refine hK15 _ ?_
     clear hK15 K15
     refine d1 rfl (fun h4=>?_) (fun h4=>?_)
     ·try rw [h4]
      try simp only [rfb] at h4
      refine B0 ?_
      refine hK12 _ ?_
      clear hK14 K14 hK12 K12
      refine a6 ?_
      refine a1 rfl ?_
      refine a3 rfl rfl (a8 rfl rfl) ?_
      refine a1 rfl ?_
      first | refine a3 rfl rfl (i8 rfl rfl rfl rfl (by omega) (by omega)) ?_ | refine a3 rfl rfl (k4 rfl rfl rfl rfl) ?_
      refine a1 rfl ?_
      refine a3 rfl rfl (a7 rfl rfl) ?_
      refine a4 ⟨(i+1),?_,?_,⟨⟨_,rfl,by rfl⟩,rfl,⟨⟨_,rfl,by rfl⟩,rfl,trivial⟩⟩,⟨⟨_,rfl,by (first | rfl | (rw [m9 (by assumption)];done) | (rw [v2 (by assumption)];done) | (rw [w4 (by assumption) (by assumption),List.map_append];rfl) | (rw [s7 (by assumption) (by assumption)];done) | (rw [m9 (by rw [m8 hno])];done))⟩,rfl,rfl,⟨⟨_,rfl,by (first | rfl | (rw [m9 (by assumption)];done) | (rw [v2 (by assumption)];done) | (rw [w4 (by assumption) (by assumption),List.map_append];rfl) | (rw [s7 (by assumption) (by assumption)];done) | (rw [m9 (by rw [m8 hno])];done))⟩,rfl,rfl,⟨⟨_,rfl,by (first | rfl | (rw [m9 (by assumption)];done) | (rw [v2 (by assumption)];done) | (rw [w4 (by assumption) (by assumption),List.map_append];rfl) | (rw [s7 (by assumption) (by assumption)];done) | (rw [m9 (by rw [m8 hno])];done))⟩,rfl,rfl,⟨⟨_,rfl,by (first | rfl | (rw [m9 (by assumption)];done) | (rw [v2 (by assumption)];done) | (rw [w4 (by assumption) (by assumption),List.map_append];rfl) | (rw [s7 (by assumption) (by assumption)];done) | (rw [m9 (by rw [m8 hno])];done))⟩,rfl,rfl,⟨⟨_,rfl,by (first | rfl | (rw [m9 (by assumption)];done) | (rw [v2 (by assumption)];done) | (rw [w4 (by assumption) (by assumption),List.map_append];rfl) | (rw [s7 (by assumption) (by assumption)];done) | (rw [m9 (by rw [m8 hno])];done))⟩,rfl,rfl,⟨⟨_,rfl,by (first | rfl | (rw [m9 (by assumption)];done) | (rw [v2 (by assumption)];done) | (rw [w4 (by assumption) (by assumption),List.map_append];rfl) | (rw [s7 (by assumption) (by assumption)];done) | (rw [m9 (by rw [m8 hno])];done))⟩,rfl,rfl,trivial⟩⟩⟩⟩⟩⟩,rfl,rfl,rfl⟩
      ·omega
      ·omega
     ·try rw [h4]
      try simp only [rfb] at h4
      refine e9 ?_
      refine hK14 _ ?_
      clear hK14 K14
      refine b4 (fun K16 hK16=>?_)
      refine a6 ?_
      refine a1 rfl ?_
      refine a3 rfl rfl (b3 G rfl rfl rfl rfl rfl rfl) ?_
      refine a1 rfl ?_
      refine c5 G rfl rfl rfl rfl rfl rfl rfl rfl rfl rfl rfl ?_
      refine a4 ?_
      refine hK16 _ ?_
      clear hK16 K16
      refine b4 (fun K17 hK17=>?_)
      refine a6 ?_
      refine a1 rfl ?_
      refine a3 rfl rfl (a8 rfl rfl) ?_
      refine a1 rfl ?_
      refine a3 rfl rfl (a8 rfl rfl) ?_
      refine a1 rfl ?_
      refine a3 rfl rfl (f6 G rfl rfl rfl rfl (by omega) (C4 (by omega))) ?_
      refine a1 rfl ?_
      refine a3 rfl rfl (B5 G rfl rfl rfl rfl) ?_
      refine a1 rfl ?_
      refine a3 rfl rfl (p9 G rfl rfl rfl rfl rfl) ?_
      refine a1 rfl ?_
      refine a3 rfl rfl (f9 rfl rfl rfl rfl) ?_
      refine a4 ?_
      refine hK17 _ ?_
      clear hK17 K17
      refine d1 rfl (fun h5=>?_) (fun h5=>?_)
      ·try rw [h5]
       try simp only [rfb] at h5
       refine a6 ?_
       refine a1 rfl ?_
       refine a3 rfl rfl (a8 rfl rfl) ?_
       refine a1 rfl ?_
       refine a3 rfl rfl (a8 rfl rfl) ?_
       refine a1 rfl ?_
       refine k6 G 16 rfl rfl rfl rfl rfl rfl rfl rfl ?_
       refine a1 rfl ?_
       refine f7 G np rfl rfl rfl rfl rfl rfl rfl rfl rfl (by first | (simp only [List.length_map,List.length_cons,List.length_nil];omega) | (simp;omega)) rfl rfl ?_
       refine a1 rfl ?_
       refine a3 rfl rfl (a7 rfl rfl) ?_
       refine a4 ?_
       refine hK12 _ ?_
       clear hK12 K12
       refine a6 ?_
       refine a1 rfl ?_
       refine a3 rfl rfl (a8 rfl rfl) ?_
       refine a1 rfl ?_
       first | refine a3 rfl rfl (i8 rfl rfl rfl rfl (by omega) (by omega)) ?_ | refine a3 rfl rfl (k4 rfl rfl rfl rfl) ?_
       refine a1 rfl ?_
       refine a3 rfl rfl (a7 rfl rfl) ?_
       refine m7 (Gh.sub 10 3 np rfl rfl rfl) ?_
       refine m7 (Gh.sub 11 4 np rfl rfl rfl) ?_
       refine m7 (Gh.sub 12 5 np rfl rfl rfl) ?_
       refine m7 (Gh.sub 13 6 np rfl rfl rfl) ?_
       refine m7 (Gh.sub 14 7 np rfl rfl rfl) ?_
       refine a4 ⟨(i+1),?_,?_,⟨⟨_,rfl,by rfl⟩,rfl,⟨⟨_,rfl,by rfl⟩,rfl,trivial⟩⟩,⟨⟨_,rfl,by (first | rfl | (rw [m9 (by assumption)];done) | (rw [v2 (by assumption)];done) | (rw [w4 (by assumption) (by assumption),List.map_append];rfl) | (rw [s7 (by assumption) (by assumption)];done) | (rw [m9 (by rw [m8 hno])];done))⟩,rfl,rfl,⟨⟨_,rfl,by (first | rfl | (rw [m9 (by assumption)];done) | (rw [v2 (by assumption)];done) | (rw [w4 (by assumption) (by assumption),List.map_append];rfl) | (rw [s7 (by assumption) (by assumption)];done) | (rw [m9 (by rw [m8 hno])];done))⟩,rfl,rfl,⟨⟨_,rfl,by (first | rfl | (rw [m9 (by assumption)];done) | (rw [v2 (by assumption)];done) | (rw [w4 (by assumption) (by assumption),List.map_append];rfl) | (rw [s7 (by assumption) (by assumption)];done) | (rw [m9 (by rw [m8 hno])];done))⟩,rfl,rfl,⟨⟨_,rfl,by (first | rfl | (rw [m9 (by assumption)];done) | (rw [v2 (by assumption)];done) | (rw [w4 (by assumption) (by assumption),List.map_append];rfl) | (rw [s7 (by assumption) (by assumption)];done) | (rw [m9 (by rw [m8 hno])];done))⟩,rfl,rfl,⟨⟨_,rfl,by (first | rfl | (rw [m9 (by assumption)];done) | (rw [v2 (by assumption)];done) | (rw [w4 (by assumption) (by assumption),List.map_append];rfl) | (rw [s7 (by assumption) (by assumption)];done) | (rw [m9 (by rw [m8 hno])];done))⟩,rfl,rfl,⟨⟨_,rfl,by (first | rfl | (rw [m9 (by assumption)];done) | (rw [v2 (by assumption)];done) | (rw [w4 (by assumption) (by assumption),List.map_append];rfl) | (rw [s7 (by assumption) (by assumption)];done) | (rw [m9 (by rw [m8 hno])];done))⟩,rfl,rfl,trivial⟩⟩⟩⟩⟩⟩,rfl,rfl,rfl⟩
       ·omega
       ·omega
      ·try rw [h5]
       try simp only [rfb] at h5
       refine e9 ?_
       refine hK12 _ ?_
       clear hK12 K12
       refine a6 ?_
       refine a1 rfl ?_
       refine a3 rfl rfl (a8 rfl rfl) ?_
       refine a1 rfl ?_
       first | refine a3 rfl rfl (i8 rfl rfl rfl rfl (by omega) (by omega)) ?_ | refine a3 rfl rfl (k4 rfl rfl rfl rfl) ?_
       refine a1 rfl ?_
       refine a3 rfl rfl (a7 rfl rfl) ?_
       refine m7 (Gh.sub 10 3 np rfl rfl rfl) ?_
       refine m7 (Gh.sub 11 4 np rfl rfl rfl) ?_
       refine m7 (Gh.sub 12 5 np rfl rfl rfl) ?_
       refine m7 (Gh.sub 13 6 np rfl rfl rfl) ?_
       refine m7 (Gh.sub 14 7 np rfl rfl rfl) ?_
       refine a4 ⟨(i+1),?_,?_,⟨⟨_,rfl,by rfl⟩,rfl,⟨⟨_,rfl,by rfl⟩,rfl,trivial⟩⟩,⟨⟨_,rfl,by (first | rfl | (rw [m9 (by assumption)];done) | (rw [v2 (by assumption)];done) | (rw [w4 (by assumption) (by assumption),List.map_append];rfl) | (rw [s7 (by assumption) (by assumption)];done) | (rw [m9 (by rw [m8 hno])];done))⟩,rfl,rfl,⟨⟨_,rfl,by (first | rfl | (rw [m9 (by assumption)];done) | (rw [v2 (by assumption)];done) | (rw [w4 (by assumption) (by assumption),List.map_append];rfl) | (rw [s7 (by assumption) (by assumption)];done) | (rw [m9 (by rw [m8 hno])];done))⟩,rfl,rfl,⟨⟨_,rfl,by (first | rfl | (rw [m9 (by assumption)];done) | (rw [v2 (by assumption)];done) | (rw [w4 (by assumption) (by assumption),List.map_append];rfl) | (rw [s7 (by assumption) (by assumption)];done) | (rw [m9 (by rw [m8 hno])];done))⟩,rfl,rfl,⟨⟨_,rfl,by (first | rfl | (rw [m9 (by assumption)];done) | (rw [v2 (by assumption)];done) | (rw [w4 (by assumption) (by assumption),List.map_append];rfl) | (rw [s7 (by assumption) (by assumption)];done) | (rw [m9 (by rw [m8 hno])];done))⟩,rfl,rfl,⟨⟨_,rfl,by (first | rfl | (rw [m9 (by assumption)];done) | (rw [v2 (by assumption)];done) | (rw [w4 (by assumption) (by assumption),List.map_append];rfl) | (rw [s7 (by assumption) (by assumption)];done) | (rw [m9 (by rw [m8 hno])];done))⟩,rfl,rfl,⟨⟨_,rfl,by (first | rfl | (rw [m9 (by assumption)];done) | (rw [v2 (by assumption)];done) | (rw [w4 (by assumption) (by assumption),List.map_append];rfl) | (rw [s7 (by assumption) (by assumption)];done) | (rw [m9 (by rw [m8 hno])];done))⟩,rfl,rfl,trivial⟩⟩⟩⟩⟩⟩,rfl,rfl,rfl⟩
       ·omega
       ·omega
    ·try rw [h3]
     try simp only [rfb] at h3
     refine B0 ?_
     refine hK8 _ ?_
     clear hK10 K10 hK8 K8
     refine b4 (fun K18 hK18=>?_)
     refine a6 ?_
     refine a1 rfl ?_
     refine a3 rfl rfl (b3 G rfl rfl rfl rfl rfl rfl) ?_
     refine a1 rfl ?_
     refine a3 rfl rfl (a8 rfl rfl) ?_
     refine a1 rfl ?_
     refine c5 G rfl rfl rfl rfl rfl rfl rfl rfl rfl rfl rfl ?_
     refine a1 rfl ?_
     refine a3 rfl rfl (a7 rfl rfl) ?_
     refine a1 rfl ?_
     refine a3 rfl rfl (a7 rfl rfl) ?_
     refine a4 ?_
     refine hK18 _ ?_
     clear hK18 K18
     refine c8 (l6 rfl rfl rfl rfl (a5 (b8 rfl ?_) (a5 (b8 rfl ?_) (a5 (b8 rfl ?_) (a5 (b8 rfl ?_) (a5 (u2 rfl ?_) (a5 (b8 rfl ?_) (a5 (g9 ?_) d4))))))))
     all_goals (first | (rw [hR];done) | (rw [hR];rfl) | (have hR:=a4e h1 hsv;have e:i=ss.length:=(by omega);subst e;rw [hR];done))
theorem a2v (rs:List Route) (a:Abs) (ss:List MStep) (hs:SmallA a) (hn:rs.length≤1048576) (hl:ss.length≤1048576):Ctr Tryz.prog 10 [.lst 2 (rs.map u7),.agg [.lst 1 (a.en.map l0),.lst 1 (a.ra.map l0),.lst 1 (a.po.map l0),.lst 1 (a.ma.map Rf.r5),.nst none 1 (a.st.map s1)],.lst 4 (ss.map a4c)] (.shp false [some 5,none,none] [.fr 4 1 ((rnT rs a ss).1.en.map l0),.fr 4 1 ((rnT rs a ss).1.ra.map l0),.fr 4 1 ((rnT rs a ss).1.po.map l0),.fr 3 1 ((rnT rs a ss).1.ma.map Rf.r5),.ne 26 1 ((rnT rs a ss).1.st.map s1),.fr 3 1 ((rnT rs a ss).2.1.map Rf.r5),.v (.bool (rnT rs a ss).2.2)]):=by
 refine Ctr.of (n:=61) G Tryz.func10 rfl (by kernel_rfl) rfl rfl rfl (fun w0=>?_)
 refine r8 1 rfl (fun _=>rfl) (fun u1=>?_)
 refine b4 (fun K1 hK1=>?_)
 refine a6 ?_
 refine a1 rfl ?_
 refine y4 1 rfl rfl rfl rfl rfl rfl rfl ?_
 refine a1 rfl ?_
 refine d7 G 2 rfl rfl rfl rfl rfl ?_
 refine a1 rfl ?_
 refine a3 rfl rfl (a7 rfl rfl) ?_
 refine a1 rfl ?_
 refine a3 rfl rfl (a7 rfl rfl) ?_
 refine a4 ?_
 refine hK1 _ ?_
 clear hK1 K1
 refine b4 (fun K2 hK2=>?_)
 refine b4 (fun K3 hK3=>?_)
 refine a6 ?_
 refine a1 rfl ?_
 refine a3 rfl rfl (a8 rfl rfl) ?_
 refine a1 rfl ?_
 refine a3 rfl rfl (b3 G rfl rfl rfl rfl rfl rfl) ?_
 refine a1 rfl ?_
 refine a3 rfl rfl (k5 rfl (ArgsOK.of rfl) (O4 _ _ (by assumption) (by first | assumption | omega)) rfl) ?_
 refine a1 rfl (a3 rfl rfl (C2 rfl rfl) (a1 rfl (a3 rfl rfl (a8 rfl rfl) (o8 rfl rfl rfl (fun h1=>?_) (fun h1=>?_)))))
 ·try rw [h1]
  try simp only [rfb] at h1
  have hR:=a8f (ss:=ss) h1
  refine b6 rfl rfl rfl rfl rfl rfl ?_
  refine b6 rfl rfl rfl rfl rfl rfl ?_
  refine b6 rfl rfl rfl rfl rfl rfl ?_
  refine a1 rfl ?_
  refine a3 rfl rfl (i5 rfl rfl rfl) ?_
  refine a1 rfl ?_
  refine a3 rfl rfl (a8 rfl rfl) ?_
  refine b6 rfl rfl rfl rfl rfl rfl ?_
  refine b6 rfl rfl rfl rfl rfl rfl ?_
  refine b6 rfl rfl rfl rfl rfl rfl ?_
  refine a1 rfl ?_
  refine a3 rfl rfl (i5 rfl rfl rfl) ?_
  refine a4 ?_
  refine hK3 _ ?_
  clear hK3 K3
  refine r7 rfl ?_
  refine b4 (fun K4 hK4=>?_)
  refine a6 ?_
  refine a1 rfl ?_
  refine a3 rfl rfl (g0 G rfl rfl rfl rfl) ?_
  refine a1 rfl ?_
  refine c5 G rfl rfl rfl rfl rfl rfl rfl rfl rfl rfl rfl ?_
  refine a1 rfl ?_
  refine a3 rfl rfl (a7 rfl rfl) ?_
  refine a1 rfl ?_
  refine a3 rfl rfl (a7 rfl rfl) ?_
  refine a4 ?_
  refine hK4 _ ?_
  clear hK4 K4
  refine c8 (l6 rfl rfl rfl rfl (a5 (o7 ?_) (a5 (o7 ?_) (a5 (o7 ?_) (a5 (o7 ?_) (a5 (H0 ?_) (a5 (o7 ?_) (a5 (g9 ?_) d4))))))))
  all_goals clear hK2 K2
  all_goals (first | (rw [hR];done) | (rw [hR];rfl) | (have hR:=a4e h1 hsv;have e:i=ss.length:=(by omega);subst e;rw [hR];done))
 ·try rw [h1]
  try simp only [rfb] at h1
  have hF:=a3D h1
  refine c6 rfl rfl rfl ?_
  refine a3 rfl rfl (a8 rfl rfl) ?_
  refine c6 rfl rfl rfl ?_
  first | refine a3 rfl rfl (r4 G rfl rfl rfl rfl (List.length_map _)) ?_ | refine a3 rfl rfl (t6 G rfl rfl rfl rfl) ?_
  refine c6 rfl rfl rfl (a3 rfl rfl (f9 rfl rfl rfl rfl) (a1 rfl (a3 rfl rfl (i7 rfl rfl rfl) (a1 rfl (a3 rfl rfl (a8 rfl rfl) (o8 rfl rfl rfl (fun h2=>?_) (fun h2=>?_)))))))
  ·try rw [h2]
   try simp only [rfb] at h2
   have hR:=a6E (rs:=rs) (a:=a) (ss:=ss) (a5j (.inl (by omega)))
   refine b6 rfl rfl rfl rfl rfl rfl ?_
   refine b6 rfl rfl rfl rfl rfl rfl ?_
   refine b6 rfl rfl rfl rfl rfl rfl ?_
   refine a1 rfl ?_
   refine a3 rfl rfl (i5 rfl rfl rfl) ?_
   refine a4 ?_
   refine hK3 _ ?_
   clear hK3 K3
   refine r7 rfl ?_
   refine b4 (fun K5 hK5=>?_)
   refine a6 ?_
   refine a1 rfl ?_
   refine a3 rfl rfl (g0 G rfl rfl rfl rfl) ?_
   refine a1 rfl ?_
   refine c5 G rfl rfl rfl rfl rfl rfl rfl rfl rfl rfl rfl ?_
   refine a1 rfl ?_
   refine a3 rfl rfl (a7 rfl rfl) ?_
   refine a1 rfl ?_
   refine a3 rfl rfl (a7 rfl rfl) ?_
   refine a4 ?_
   refine hK5 _ ?_
   clear hK5 K5
   refine c8 (l6 rfl rfl rfl rfl (a5 (o7 ?_) (a5 (o7 ?_) (a5 (o7 ?_) (a5 (o7 ?_) (a5 (H0 ?_) (a5 (o7 ?_) (a5 (g9 ?_) d4))))))))
   all_goals clear hK2 K2
   all_goals (first | (rw [hR];done) | (rw [hR];rfl) | (have hR:=a4e h1 hsv;have e:i=ss.length:=(by omega);subst e;rw [hR];done))
  ·try rw [h2]
   try simp only [rfb] at h2
   refine c6 rfl rfl rfl ?_
   refine a3 rfl rfl (a8 rfl rfl) ?_
   refine c6 rfl rfl rfl ?_
   refine a3 rfl rfl (a97 rfl rfl) ?_
   refine c6 rfl rfl rfl ?_
   refine a3 rfl rfl (k5 rfl (ArgsOK.of rfl) (D0 ss 54 a (fun x=>!f8 a.ma.length x) hl (fun k hk=>a1E _ _ hs)) rfl) ?_
   refine a1 rfl ?_
   refine a3 rfl rfl (i7 rfl rfl rfl) ?_
   refine a4 ?_
   refine hK3 _ ?_
   clear hK3 K3
   refine d1 rfl (fun h3=>?_) (fun h3=>?_)
   ·try rw [h3]
    try simp only [rfb] at h3
    obtain ⟨j,hj,hj2⟩:=a5c.mp h3
    have hR:=a6E (rs:=rs) (a:=a) (ss:=ss) (a5j (.inr ⟨j,hj,by simpa using hj2⟩))
    refine b4 (fun K6 hK6=>?_)
    refine a6 ?_
    refine a1 rfl ?_
    refine a3 rfl rfl (g0 G rfl rfl rfl rfl) ?_
    refine a1 rfl ?_
    refine c5 G rfl rfl rfl rfl rfl rfl rfl rfl rfl rfl rfl ?_
    refine a1 rfl ?_
    refine a3 rfl rfl (a7 rfl rfl) ?_
    refine a1 rfl ?_
    refine a3 rfl rfl (a7 rfl rfl) ?_
    refine a4 ?_
    refine hK6 _ ?_
    clear hK6 K6
    refine c8 (l6 rfl rfl rfl rfl (a5 (o7 ?_) (a5 (o7 ?_) (a5 (o7 ?_) (a5 (o7 ?_) (a5 (H0 ?_) (a5 (o7 ?_) (a5 (g9 ?_) d4))))))))
    all_goals clear hK2 K2
    all_goals (first | (rw [hR];done) | (rw [hR];rfl) | (have hR:=a4e h1 hsv;have e:i=ss.length:=(by omega);subst e;rw [hR];done))
   ·try rw [h3]
    try simp only [rfb] at h3
    have hv:∀ i,i < ss.length→f8 a.ma.length (ss.getD i default)=true:=fun i hi=>by simpa using Y3.mp h3 i hi
    have hsv:=P9.mpr ⟨show ss.length≤30 by omega,hv⟩
    refine e9 ?_
    refine hK2 _ ?_
    clear hK2 K2
    refine b4 (fun K7 hK7=>?_)
    refine a6 ?_
    refine a1 rfl ?_
    refine a3 rfl rfl (b3 G rfl rfl rfl rfl rfl rfl) ?_
    refine a1 rfl ?_
    refine g8 7 rfl rfl rfl (ArgsOK.of rfl) (M6 a hs) rfl rfl ?_
    refine a1 rfl ?_
    refine k6 G 8 rfl rfl rfl rfl rfl rfl rfl rfl ?_
    refine a1 rfl ?_
    refine d7 G 9 rfl rfl rfl rfl rfl ?_
    refine a1 rfl ?_
    refine c5 G rfl rfl rfl rfl rfl rfl rfl rfl rfl rfl rfl ?_
    refine a1 rfl ?_
    refine a3 rfl rfl (a7 rfl rfl) ?_
    refine a4 ?_
    refine hK7 _ ?_
    clear hK7 K7
    refine b4 (fun K8 hK8=>?_)
    refine b4 (fun K9 hK9=>?_)
    refine a6 ?_
    refine a1 rfl ?_
    refine a3 rfl rfl (a8 rfl rfl) ?_
    refine a1 rfl ?_
    first | refine a3 rfl rfl (r4 G rfl rfl rfl rfl (List.length_map _)) ?_ | refine a3 rfl rfl (t6 G rfl rfl rfl rfl) ?_
    refine a1 rfl ?_
    refine a3 rfl rfl (a8 rfl rfl) ?_
    refine a4 ?_
    refine hK9 _ ?_
    clear hK9 K9
    refine l8 ?_
    refine m4 [0,6,9,34,35] [1,8] (fun (i:Nat)=>[(10,.own 7),(36,.v (.int .i64 (i:Int)))]) (fun (i:Nat)=>[(2,some (.row 4 1 ((rnN rs a ss i).1.en.map l0))),(3,some (.row 4 1 ((rnN rs a ss i).1.ra.map l0))),(4,some (.row 4 1 ((rnN rs a ss i).1.po.map l0))),(5,some (.row 3 1 ((rnN rs a ss i).1.ma.map Rf.r5))),(6,some (.nest 26 1 ((rnN rs a ss i).1.st.map s1) [])),(7,some (.row 3 1 ((rnN rs a ss i).2.map Rf.r5)))]) (fun (i:Nat)=>i≤ss.length) (fun (i:Nat)=>ss.length - i) 0 rfl rfl ?_ ?_ ?_ ?_
    ·exact Nat.zero_le _
    ·exact ⟨⟨_,rfl,by rfl⟩,rfl,⟨⟨_,rfl,by rfl⟩,rfl,trivial⟩⟩
    ·exact ⟨⟨_,rfl,by rfl⟩,rfl,rfl,⟨⟨_,rfl,by rfl⟩,rfl,rfl,⟨⟨_,rfl,by rfl⟩,rfl,rfl,⟨⟨_,rfl,by rfl⟩,rfl,rfl,⟨⟨_,rfl,by rfl⟩,rfl,rfl,⟨⟨_,rfl,by rfl⟩,rfl,rfl,trivial⟩⟩⟩⟩⟩⟩
    ·intro i hinv
     have hFi:=a80 hF hv i (by omega)
     have hvi:i < ss.length→f8 (rnN rs a ss i).1.ma.length (ss.getD i default)=true:=fun h=>(by rw [hFi.2];exact hv i h)
     have hli:=@a20 rs a ss i
     simp only [List.cons_append,List.nil_append]
     refine b4 (fun K10 hK10=>?_)
     refine a6 ?_
     refine a1 rfl ?_
     refine a3 rfl rfl (f9 rfl rfl rfl rfl) ?_
     refine a4 ?_
     refine hK10 _ ?_
     clear hK10 K10
     refine b4 (fun K11 hK11=>?_)
     refine d1 rfl (fun h4=>?_) (fun h4=>?_)
     ·try rw [h4]
      try simp only [rfb] at h4
      refine e9 ?_
      refine hK11 _ ?_
      clear hK11 K11
      refine b4 (fun K12 hK12=>?_)
      refine l8 ?_
      refine b4 (fun K13 hK13=>?_)
      refine a6 ?_
      refine a1 rfl ?_
      refine a3 rfl rfl (f6 G rfl rfl rfl rfl (by omega) (C4 (by omega))) ?_
      refine a1 rfl ?_
      refine a3 rfl rfl (B2 G rfl rfl rfl rfl) ?_
      refine a1 rfl ?_
      refine d7 G 10 rfl rfl rfl rfl rfl ?_
      refine a1 rfl ?_
      refine c5 G rfl rfl rfl rfl rfl rfl rfl rfl rfl rfl rfl ?_
      refine a4 ?_
      refine hK13 _ ?_
      clear hK13 K13
      refine b4 (fun K14 hK14=>?_)
      by_cases hno:noS rs (rnN rs a ss i).1 (ss.getD i default)
      ·refine a6 ?_
       refine a1 rfl ?_
       refine a3 rfl rfl (a8 rfl rfl) ?_
       refine a1 rfl ?_
       refine a3 rfl rfl (b3 G rfl rfl rfl rfl rfl rfl) ?_
       refine a1 rfl ?_
       refine a3 rfl rfl (b3 G rfl rfl rfl rfl rfl rfl) ?_
       refine a1 rfl ?_
       refine a46 10 rfl rfl rfl (ArgsOK.of rfl) (O6 rs _ _ _ _ _ hFi.1 (hvi (by omega)) hno) (fun _=>rfl) rfl (fun y1=>?_)
       refine a1 rfl ?_
       refine a3 rfl rfl (a8 rfl rfl) ?_
       refine a1 rfl ?_
       refine a3 rfl rfl (c9 rfl rfl rfl) ?_
       refine a1 rfl ?_
       refine a3 rfl rfl (c9 rfl rfl rfl) ?_
       refine a1 rfl ?_
       refine a3 rfl rfl (c9 rfl rfl rfl) ?_
       refine a1 rfl ?_
       refine d7 G 11 rfl rfl rfl rfl rfl ?_
       refine a1 rfl ?_
       refine c5 G rfl rfl rfl rfl rfl rfl rfl rfl rfl rfl rfl ?_
       refine a1 rfl ?_
       refine a3 rfl rfl (a7 rfl rfl) ?_
       refine a1 rfl ?_
       refine a3 rfl rfl (a7 rfl rfl) ?_
       refine a4 ?_
       refine hK14 _ ?_
       clear hK14 K14
       refine b4 (fun K15 hK15=>?_)
       refine b4 (fun K16 hK16=>?_)
       refine a6 ?_
       refine a1 rfl ?_
       refine a3 rfl rfl (a8 rfl rfl) ?_
       refine a1 rfl ?_
       refine a3 rfl rfl (a4t rfl rfl) ?_
       refine a4 ?_
       refine hK16 _ ?_
       clear hK16 K16
       refine r7 rfl ?_
       refine B0 ?_
       refine hK12 _ ?_
       clear hK15 K15 hK12 K12
       refine a6 ?_
       refine a1 rfl ?_
       first | refine a3 rfl rfl (i8 rfl rfl rfl rfl (by omega) (by omega)) ?_ | refine a3 rfl rfl (k4 rfl rfl rfl rfl) ?_
       refine a1 rfl ?_
       refine a3 rfl rfl (a8 rfl rfl) ?_
       refine a4 ⟨(i+1),?_,?_,⟨⟨_,rfl,by rfl⟩,rfl,⟨⟨_,rfl,by rfl⟩,rfl,trivial⟩⟩,⟨⟨_,rfl,by (first | rfl | (rw [m9 (by assumption)];done) | (rw [v2 (by assumption)];done) | (rw [w4 (by assumption) (by assumption),List.map_append];rfl) | (rw [s7 (by assumption) (by assumption)];done) | (rw [m9 (by rw [m8 hno])];done))⟩,rfl,rfl,⟨⟨_,rfl,by (first | rfl | (rw [m9 (by assumption)];done) | (rw [v2 (by assumption)];done) | (rw [w4 (by assumption) (by assumption),List.map_append];rfl) | (rw [s7 (by assumption) (by assumption)];done) | (rw [m9 (by rw [m8 hno])];done))⟩,rfl,rfl,⟨⟨_,rfl,by (first | rfl | (rw [m9 (by assumption)];done) | (rw [v2 (by assumption)];done) | (rw [w4 (by assumption) (by assumption),List.map_append];rfl) | (rw [s7 (by assumption) (by assumption)];done) | (rw [m9 (by rw [m8 hno])];done))⟩,rfl,rfl,⟨⟨_,rfl,by (first | rfl | (rw [m9 (by assumption)];done) | (rw [v2 (by assumption)];done) | (rw [w4 (by assumption) (by assumption),List.map_append];rfl) | (rw [s7 (by assumption) (by assumption)];done) | (rw [m9 (by rw [m8 hno])];done))⟩,rfl,rfl,⟨⟨_,rfl,by (first | rfl | (rw [m9 (by assumption)];done) | (rw [v2 (by assumption)];done) | (rw [w4 (by assumption) (by assumption),List.map_append];rfl) | (rw [s7 (by assumption) (by assumption)];done) | (rw [m9 (by rw [m8 hno])];done))⟩,rfl,rfl,⟨⟨_,rfl,by (first | rfl | (rw [m9 (by assumption)];done) | (rw [v2 (by assumption)];done) | (rw [w4 (by assumption) (by assumption),List.map_append];rfl) | (rw [s7 (by assumption) (by assumption)];done) | (rw [m9 (by rw [m8 hno])];done))⟩,rfl,rfl,trivial⟩⟩⟩⟩⟩⟩,rfl,rfl,rfl⟩
       ·omega
       ·omega
      ·refine a6 ?_
       refine a1 rfl ?_
       refine a3 rfl rfl (a8 rfl rfl) ?_
       refine a1 rfl ?_
       refine a3 rfl rfl (b3 G rfl rfl rfl rfl rfl rfl) ?_
       refine a1 rfl ?_
       refine a3 rfl rfl (b3 G rfl rfl rfl rfl rfl rfl) ?_
       refine a1 rfl ?_
       refine g8 15 rfl rfl rfl (ArgsOK.of rfl) (S2 rs _ _ _ _ _ hFi.1 (hvi (by omega)) hno) rfl rfl ?_
       refine a1 rfl ?_
       refine a3 rfl rfl (a8 rfl rfl) ?_
       refine a1 rfl ?_
       refine a3 rfl rfl (c9 rfl rfl rfl) ?_
       refine a1 rfl ?_
       refine a3 rfl rfl (c9 rfl rfl rfl) ?_
       refine a1 rfl ?_
       refine a3 rfl rfl (c9 rfl rfl rfl) ?_
       refine a1 rfl ?_
       refine d7 G 16 rfl rfl rfl rfl rfl ?_
       refine a1 rfl ?_
       refine c5 G rfl rfl rfl rfl rfl rfl rfl rfl rfl rfl rfl ?_
       refine a1 rfl ?_
       refine a3 rfl rfl (a7 rfl rfl) ?_
       refine a1 rfl ?_
       refine a3 rfl rfl (a7 rfl rfl) ?_
       refine a4 ?_
       refine hK14 _ ?_
       clear hK14 K14
       refine b4 (fun K17 hK17=>?_)
       refine b4 (fun K18 hK18=>?_)
       refine a6 ?_
       refine a1 rfl ?_
       refine a3 rfl rfl (a8 rfl rfl) ?_
       refine a1 rfl ?_
       refine a3 rfl rfl (C2 rfl rfl) ?_
       refine a4 ?_
       refine hK18 _ ?_
       clear hK18 K18
       refine d1 rfl (fun h5=>?_) (fun h5=>?_)
       ·try rw [h5]
        try simp only [rfb] at h5
        refine B0 ?_
        refine hK12 _ ?_
        clear hK17 K17 hK12 K12
        refine a6 ?_
        refine a1 rfl ?_
        first | refine a3 rfl rfl (i8 rfl rfl rfl rfl (by omega) (by omega)) ?_ | refine a3 rfl rfl (k4 rfl rfl rfl rfl) ?_
        refine a1 rfl ?_
        refine a3 rfl rfl (a8 rfl rfl) ?_
        refine a4 ⟨(i+1),?_,?_,⟨⟨_,rfl,by rfl⟩,rfl,⟨⟨_,rfl,by rfl⟩,rfl,trivial⟩⟩,⟨⟨_,rfl,by (first | rfl | (rw [m9 (by assumption)];done) | (rw [v2 (by assumption)];done) | (rw [w4 (by assumption) (by assumption),List.map_append];rfl) | (rw [s7 (by assumption) (by assumption)];done) | (rw [m9 (by rw [m8 hno])];done))⟩,rfl,rfl,⟨⟨_,rfl,by (first | rfl | (rw [m9 (by assumption)];done) | (rw [v2 (by assumption)];done) | (rw [w4 (by assumption) (by assumption),List.map_append];rfl) | (rw [s7 (by assumption) (by assumption)];done) | (rw [m9 (by rw [m8 hno])];done))⟩,rfl,rfl,⟨⟨_,rfl,by (first | rfl | (rw [m9 (by assumption)];done) | (rw [v2 (by assumption)];done) | (rw [w4 (by assumption) (by assumption),List.map_append];rfl) | (rw [s7 (by assumption) (by assumption)];done) | (rw [m9 (by rw [m8 hno])];done))⟩,rfl,rfl,⟨⟨_,rfl,by (first | rfl | (rw [m9 (by assumption)];done) | (rw [v2 (by assumption)];done) | (rw [w4 (by assumption) (by assumption),List.map_append];rfl) | (rw [s7 (by assumption) (by assumption)];done) | (rw [m9 (by rw [m8 hno])];done))⟩,rfl,rfl,⟨⟨_,rfl,by (first | rfl | (rw [m9 (by assumption)];done) | (rw [v2 (by assumption)];done) | (rw [w4 (by assumption) (by assumption),List.map_append];rfl) | (rw [s7 (by assumption) (by assumption)];done) | (rw [m9 (by rw [m8 hno])];done))⟩,rfl,rfl,⟨⟨_,rfl,by (first | rfl | (rw [m9 (by assumption)];done) | (rw [v2 (by assumption)];done) | (rw [w4 (by assumption) (by assumption),List.map_append];rfl) | (rw [s7 (by assumption) (by assumption)];done) | (rw [m9 (by rw [m8 hno])];done))⟩,rfl,rfl,trivial⟩⟩⟩⟩⟩⟩,rfl,rfl,rfl⟩
        ·omega
        ·omega
       ·try rw [h5]
        try simp only [rfb] at h5
        refine e9 ?_
        refine hK17 _ ?_
        clear hK17 K17
        refine b4 (fun K19 hK19=>?_)
        refine a6 ?_
        refine a1 rfl ?_
        refine a3 rfl rfl (b3 G rfl rfl rfl rfl rfl rfl) ?_
        refine a1 rfl ?_
        refine c5 G rfl rfl rfl rfl rfl rfl rfl rfl rfl rfl rfl ?_
        refine a4 ?_
        refine hK19 _ ?_
        clear hK19 K19
        refine b4 (fun K20 hK20=>?_)
        refine a6 ?_
        refine a1 rfl ?_
        refine a3 rfl rfl (b7 G rfl rfl rfl rfl) ?_
        refine a1 rfl ?_
        refine a3 rfl rfl (c4 G rfl rfl rfl rfl rfl rfl rfl) ?_
        refine a1 rfl ?_
        refine a3 rfl rfl (f9 rfl rfl rfl rfl) ?_
        refine a4 ?_
        refine hK20 _ ?_
        clear hK20 K20
        refine d1 rfl (fun h6=>?_) (fun h6=>?_)
        ·try rw [h6]
         try simp only [rfb] at h6
         refine a6 ?_
         refine a1 rfl ?_
         refine a3 rfl rfl (a8 rfl rfl) ?_
         refine a1 rfl ?_
         refine a3 rfl rfl (a8 rfl rfl) ?_
         refine a1 rfl ?_
         refine k6 G 17 rfl rfl rfl rfl rfl rfl rfl rfl ?_
         refine a1 rfl ?_
         refine f7 G np rfl rfl rfl rfl rfl rfl rfl rfl rfl (by first | (simp only [List.length_map,List.length_cons,List.length_nil];omega) | (simp;omega)) rfl rfl ?_
         refine a1 rfl ?_
         refine a3 rfl rfl (a7 rfl rfl) ?_
         refine a4 ?_
         refine hK12 _ ?_
         clear hK12 K12
         refine a6 ?_
         refine a1 rfl ?_
         first | refine a3 rfl rfl (i8 rfl rfl rfl rfl (by omega) (by omega)) ?_ | refine a3 rfl rfl (k4 rfl rfl rfl rfl) ?_
         refine a1 rfl ?_
         refine a3 rfl rfl (a8 rfl rfl) ?_
         refine m7 (Gh.sub 10 2 np rfl rfl rfl) ?_
         refine m7 (Gh.sub 11 3 np rfl rfl rfl) ?_
         refine m7 (Gh.sub 12 4 np rfl rfl rfl) ?_
         refine m7 (Gh.sub 13 5 np rfl rfl rfl) ?_
         refine m7 (Gh.sub 14 6 np rfl rfl rfl) ?_
         refine a4 ⟨(i+1),?_,?_,⟨⟨_,rfl,by rfl⟩,rfl,⟨⟨_,rfl,by rfl⟩,rfl,trivial⟩⟩,⟨⟨_,rfl,by (first | rfl | (rw [m9 (by assumption)];done) | (rw [v2 (by assumption)];done) | (rw [w4 (by assumption) (by assumption),List.map_append];rfl) | (rw [s7 (by assumption) (by assumption)];done) | (rw [m9 (by rw [m8 hno])];done))⟩,rfl,rfl,⟨⟨_,rfl,by (first | rfl | (rw [m9 (by assumption)];done) | (rw [v2 (by assumption)];done) | (rw [w4 (by assumption) (by assumption),List.map_append];rfl) | (rw [s7 (by assumption) (by assumption)];done) | (rw [m9 (by rw [m8 hno])];done))⟩,rfl,rfl,⟨⟨_,rfl,by (first | rfl | (rw [m9 (by assumption)];done) | (rw [v2 (by assumption)];done) | (rw [w4 (by assumption) (by assumption),List.map_append];rfl) | (rw [s7 (by assumption) (by assumption)];done) | (rw [m9 (by rw [m8 hno])];done))⟩,rfl,rfl,⟨⟨_,rfl,by (first | rfl | (rw [m9 (by assumption)];done) | (rw [v2 (by assumption)];done) | (rw [w4 (by assumption) (by assumption),List.map_append];rfl) | (rw [s7 (by assumption) (by assumption)];done) | (rw [m9 (by rw [m8 hno])];done))⟩,rfl,rfl,⟨⟨_,rfl,by (first | rfl | (rw [m9 (by assumption)];done) | (rw [v2 (by assumption)];done) | (rw [w4 (by assumption) (by assumption),List.map_append];rfl) | (rw [s7 (by assumption) (by assumption)];done) | (rw [m9 (by rw [m8 hno])];done))⟩,rfl,rfl,⟨⟨_,rfl,by (first | rfl | (rw [m9 (by assumption)];done) | (rw [v2 (by assumption)];done) | (rw [w4 (by assumption) (by assumption),List.map_append];rfl) | (rw [s7 (by assumption) (by assumption)];done) | (rw [m9 (by rw [m8 hno])];done))⟩,rfl,rfl,trivial⟩⟩⟩⟩⟩⟩,rfl,rfl,rfl⟩
         ·omega
         ·omega
        ·try rw [h6]
         try simp only [rfb] at h6
         refine e9 ?_
         refine hK12 _ ?_
         clear hK12 K12
         refine a6 ?_
         refine a1 rfl ?_
         first | refine a3 rfl rfl (i8 rfl rfl rfl rfl (by omega) (by omega)) ?_ | refine a3 rfl rfl (k4 rfl rfl rfl rfl) ?_
         refine a1 rfl ?_
         refine a3 rfl rfl (a8 rfl rfl) ?_
         refine m7 (Gh.sub 10 2 np rfl rfl rfl) ?_
         refine m7 (Gh.sub 11 3 np rfl rfl rfl) ?_
         refine m7 (Gh.sub 12 4 np rfl rfl rfl) ?_
         refine m7 (Gh.sub 13 5 np rfl rfl rfl) ?_
         refine m7 (Gh.sub 14 6 np rfl rfl rfl) ?_
         refine a4 ⟨(i+1),?_,?_,⟨⟨_,rfl,by rfl⟩,rfl,⟨⟨_,rfl,by rfl⟩,rfl,trivial⟩⟩,⟨⟨_,rfl,by (first | rfl | (rw [m9 (by assumption)];done) | (rw [v2 (by assumption)];done) | (rw [w4 (by assumption) (by assumption),List.map_append];rfl) | (rw [s7 (by assumption) (by assumption)];done) | (rw [m9 (by rw [m8 hno])];done))⟩,rfl,rfl,⟨⟨_,rfl,by (first | rfl | (rw [m9 (by assumption)];done) | (rw [v2 (by assumption)];done) | (rw [w4 (by assumption) (by assumption),List.map_append];rfl) | (rw [s7 (by assumption) (by assumption)];done) | (rw [m9 (by rw [m8 hno])];done))⟩,rfl,rfl,⟨⟨_,rfl,by (first | rfl | (rw [m9 (by assumption)];done) | (rw [v2 (by assumption)];done) | (rw [w4 (by assumption) (by assumption),List.map_append];rfl) | (rw [s7 (by assumption) (by assumption)];done) | (rw [m9 (by rw [m8 hno])];done))⟩,rfl,rfl,⟨⟨_,rfl,by (first | rfl | (rw [m9 (by assumption)];done) | (rw [v2 (by assumption)];done) | (rw [w4 (by assumption) (by assumption),List.map_append];rfl) | (rw [s7 (by assumption) (by assumption)];done) | (rw [m9 (by rw [m8 hno])];done))⟩,rfl,rfl,⟨⟨_,rfl,by (first | rfl | (rw [m9 (by assumption)];done) | (rw [v2 (by assumption)];done) | (rw [w4 (by assumption) (by assumption),List.map_append];rfl) | (rw [s7 (by assumption) (by assumption)];done) | (rw [m9 (by rw [m8 hno])];done))⟩,rfl,rfl,⟨⟨_,rfl,by (first | rfl | (rw [m9 (by assumption)];done) | (rw [v2 (by assumption)];done) | (rw [w4 (by assumption) (by assumption),List.map_append];rfl) | (rw [s7 (by assumption) (by assumption)];done) | (rw [m9 (by rw [m8 hno])];done))⟩,rfl,rfl,trivial⟩⟩⟩⟩⟩⟩,rfl,rfl,rfl⟩
         ·omega
         ·omega
     ·try rw [h4]
      try simp only [rfb] at h4
      refine B0 ?_
      refine hK8 _ ?_
      clear hK11 K11 hK8 K8
      refine b4 (fun K21 hK21=>?_)
      refine a6 ?_
      refine a1 rfl ?_
      refine a3 rfl rfl (b3 G rfl rfl rfl rfl rfl rfl) ?_
      refine a1 rfl ?_
      refine a3 rfl rfl (a8 rfl rfl) ?_
      refine a1 rfl ?_
      refine c5 G rfl rfl rfl rfl rfl rfl rfl rfl rfl rfl rfl ?_
      refine a1 rfl ?_
      refine a3 rfl rfl (a7 rfl rfl) ?_
      refine a1 rfl ?_
      refine a3 rfl rfl (a7 rfl rfl) ?_
      refine a4 ?_
      refine hK21 _ ?_
      clear hK21 K21
      refine c8 (l6 rfl rfl rfl rfl (a5 (b8 rfl ?_) (a5 (b8 rfl ?_) (a5 (b8 rfl ?_) (a5 (b8 rfl ?_) (a5 (u2 rfl ?_) (a5 (b8 rfl ?_) (a5 (g9 ?_) d4))))))))
      all_goals (first | (rw [hR];done) | (rw [hR];rfl) | (have hR:=a4e h1 hsv;have e:i=ss.length:=(by omega);subst e;rw [hR];done))
end Go.Proofs.YtcnodpipinlpcaaGreat
set_option maxRecDepth 20000
namespace Go.Proofs.YtcnodpipinlpcaaGreat
open Go Go.Rf
theorem a7P (l:List Int) (hl:l.length≤9223372036854775807):Ctr Tryz.prog 8 [.lst 1 (l.map C5)] (.one (.v (.bool (decide (65536 < l.length))))):=by
 refine Ctr.of (n:=6) G Tryz.func8 rfl (by kernel_rfl) rfl rfl rfl (fun w0=>?_)
 refine b4 (fun K1 hK1=>?_)
 refine a6 ?_
 refine a1 rfl ?_
 refine a3 rfl rfl (a7 rfl rfl) ?_
 refine a4 ?_
 refine hK1 _ ?_
 clear hK1 K1
 refine b4 (fun K2 hK2=>?_)
 refine a6 ?_
 refine a1 rfl ?_
 refine a3 rfl rfl (a8 rfl rfl) ?_
 refine a1 rfl ?_
 first | refine a3 rfl rfl (r4 G rfl rfl rfl rfl (List.length_map _)) ?_ | refine a3 rfl rfl (t6 G rfl rfl rfl rfl) ?_
 refine a1 rfl ?_
 refine a3 rfl rfl (f9 rfl rfl rfl rfl) ?_
 refine a1 rfl ?_
 refine a3 rfl rfl (a7 rfl rfl) ?_
 refine a4 ?_
 refine hK2 _ ?_
 clear hK2 K2
 refine c8 ?_
 refine j4 rfl ?_
 refine g9 ?_
 all_goals (first | rfl | (simp;done) | (simp;omega))
theorem T7 (xs ys:List Int) (he:xs=ys) (hn:xs.length≤9223372036854775807):Ctr Tryz.prog 12 [.lst 1 (xs.map Rf.r5),.lst 1 (ys.map Rf.r5)] (.one (.v (.bool true))):=by
 subst he
 refine Ctr.of (n:=26) G Tryz.func12 rfl (by kernel_rfl) rfl rfl rfl (fun w0=>?_)
 refine b4 (fun K1 hK1=>?_)
 refine a6 ?_
 refine a1 rfl ?_
 refine a3 rfl rfl (a7 rfl rfl) ?_
 refine a4 ?_
 refine hK1 _ ?_
 clear hK1 K1
 refine b4 (fun K2 hK2=>?_)
 refine b4 (fun K3 hK3=>?_)
 refine a6 ?_
 refine a1 rfl ?_
 refine a3 rfl rfl (a8 rfl rfl) ?_
 refine a1 rfl ?_
 first | refine a3 rfl rfl (r4 G rfl rfl rfl rfl (List.length_map _)) ?_ | refine a3 rfl rfl (t6 G rfl rfl rfl rfl) ?_
 refine a1 rfl ?_
 refine a3 rfl rfl (a8 rfl rfl) ?_
 refine a1 rfl ?_
 first | refine a3 rfl rfl (r4 G rfl rfl rfl rfl (List.length_map _)) ?_ | refine a3 rfl rfl (t6 G rfl rfl rfl rfl) ?_
 refine a1 rfl ?_
 refine a3 rfl rfl (a0X (v':=.bool false) (f9 rfl rfl rfl rfl) (by first | rfl | (simp;done) | (simp [m6,r6];done))) ?_
 refine a4 ?_
 refine hK3 _ ?_
 clear hK3 K3
 refine B1 rfl ?_
 refine e9 ?_
 refine hK2 _ ?_
 clear hK2 K2
 refine b4 (fun K4 hK4=>?_)
 refine b4 (fun K5 hK5=>?_)
 refine a6 ?_
 refine a1 rfl ?_
 refine a3 rfl rfl (a7 rfl rfl) ?_
 refine a4 ?_
 refine hK5 _ ?_
 clear hK5 K5
 refine l8 ?_
 refine m4 [0,1] [] (fun (i:Nat)=>[(5,.v (.int .i64 (i:Int)))]) (fun (i:Nat)=>[]) (fun (i:Nat)=>i≤xs.length) (fun (i:Nat)=>xs.length - i) 0 rfl rfl ?_ ?_ ?_ ?_
 ·exact Nat.zero_le _
 ·exact ⟨⟨_,rfl,by (first | rfl | (simp;done) | (simp;omega))⟩,rfl,trivial⟩
 ·exact trivial
 ·intro i hinv
  simp only [List.cons_append,List.nil_append]
  refine b4 (fun K6 hK6=>?_)
  refine b4 (fun K7 hK7=>?_)
  refine a6 ?_
  refine a1 rfl ?_
  refine a3 rfl rfl (a8 rfl rfl) ?_
  refine a1 rfl ?_
  refine a3 rfl rfl (a8 rfl rfl) ?_
  refine a1 rfl ?_
  first | refine a3 rfl rfl (r4 G rfl rfl rfl rfl (List.length_map _)) ?_ | refine a3 rfl rfl (t6 G rfl rfl rfl rfl) ?_
  refine a1 rfl ?_
  refine a3 rfl rfl (f9 rfl rfl rfl rfl) ?_
  refine a4 ?_
  refine hK7 _ ?_
  clear hK7 K7
  refine d1 rfl (fun h1=>?_) (fun h1=>?_)
  ·try rw [h1]
   try simp only [rfb] at h1
   refine e9 ?_
   refine hK6 _ ?_
   clear hK6 K6
   refine b4 (fun K8 hK8=>?_)
   refine l8 ?_
   refine b4 (fun K9 hK9=>?_)
   refine L1 m5 (by kernel_rfl) ?_
   refine d6 rfl ?_
   refine j5 rfl rfl (a8 rfl rfl) ?_
   refine d6 rfl ?_
   refine j5 rfl rfl (a8 rfl rfl) ?_
   refine d6 rfl ?_
   refine j5 rfl rfl (f6 G rfl rfl rfl rfl (by omega) (C4 (by omega))) ?_
   refine d6 rfl ?_
   refine j5 rfl rfl (p9 G rfl rfl rfl rfl rfl) ?_
   refine d6 rfl ?_
   refine j5 rfl rfl (a8 rfl rfl) ?_
   refine d6 rfl ?_
   refine j5 rfl rfl (a8 rfl rfl) ?_
   refine d6 rfl ?_
   refine j5 rfl rfl (f6 G rfl rfl rfl rfl (by omega) (C4 (by omega))) ?_
   refine d6 rfl ?_
   refine j5 rfl rfl (p9 G rfl rfl rfl rfl rfl) ?_
   refine d6 rfl ?_
   refine j5 rfl rfl (a0X (v':=.bool false) (f9 rfl rfl rfl rfl) (by first | (simp;done) | (simp [m6,r6];done))) ?_
   refine H1 ?_
   refine hK9 _ ?_
   clear hK9 K9
   refine B1 rfl ?_
   refine e9 ?_
   refine hK8 _ ?_
   clear hK8 K8
   refine a6 ?_
   refine a1 rfl ?_
   refine a3 rfl rfl (a8 rfl rfl) ?_
   refine a1 rfl ?_
   first | refine a3 rfl rfl (i8 rfl rfl rfl rfl (by omega) (by omega)) ?_ | refine a3 rfl rfl (k4 rfl rfl rfl rfl) ?_
   refine a1 rfl ?_
   refine a3 rfl rfl (a7 rfl rfl) ?_
   refine a4 ⟨(i+1),?_,?_,⟨⟨_,rfl,by rfl⟩,rfl,trivial⟩,trivial,rfl,rfl,rfl⟩
   ·omega
   ·omega
  ·try rw [h1]
   try simp only [rfb] at h1
   refine B0 ?_
   refine hK4 _ ?_
   clear hK6 K6 hK4 K4
   refine b4 (fun K10 hK10=>?_)
   refine a6 ?_
   refine a1 rfl ?_
   refine a3 rfl rfl (a7 rfl rfl) ?_
   refine a4 ?_
   refine hK10 _ ?_
   clear hK10 K10
   refine c8 ?_
   refine j4 rfl ?_
   refine g9 ?_
   all_goals (rfl)
theorem Z7 (xs ys:List Bool) (he:xs=ys) (hn:xs.length≤9223372036854775807):Ctr Tryz.prog 62 [.lst 1 (xs.map l0),.lst 1 (ys.map l0)] (.one (.v (.bool true))):=by
 subst he
 refine Ctr.of (n:=26) G Tryz.func62 rfl (by kernel_rfl) rfl rfl rfl (fun w0=>?_)
 refine b4 (fun K1 hK1=>?_)
 refine a6 ?_
 refine a1 rfl ?_
 refine a3 rfl rfl (a7 rfl rfl) ?_
 refine a4 ?_
 refine hK1 _ ?_
 clear hK1 K1
 refine b4 (fun K2 hK2=>?_)
 refine b4 (fun K3 hK3=>?_)
 refine a6 ?_
 refine a1 rfl ?_
 refine a3 rfl rfl (a8 rfl rfl) ?_
 refine a1 rfl ?_
 first | refine a3 rfl rfl (r4 G rfl rfl rfl rfl (List.length_map _)) ?_ | refine a3 rfl rfl (t6 G rfl rfl rfl rfl) ?_
 refine a1 rfl ?_
 refine a3 rfl rfl (a8 rfl rfl) ?_
 refine a1 rfl ?_
 first | refine a3 rfl rfl (r4 G rfl rfl rfl rfl (List.length_map _)) ?_ | refine a3 rfl rfl (t6 G rfl rfl rfl rfl) ?_
 refine a1 rfl ?_
 refine a3 rfl rfl (a0X (v':=.bool false) (f9 rfl rfl rfl rfl) (by first | rfl | (simp;done) | (simp [m6,r6];done))) ?_
 refine a4 ?_
 refine hK3 _ ?_
 clear hK3 K3
 refine B1 rfl ?_
 refine e9 ?_
 refine hK2 _ ?_
 clear hK2 K2
 refine b4 (fun K4 hK4=>?_)
 refine b4 (fun K5 hK5=>?_)
 refine a6 ?_
 refine a1 rfl ?_
 refine a3 rfl rfl (a7 rfl rfl) ?_
 refine a4 ?_
 refine hK5 _ ?_
 clear hK5 K5
 refine l8 ?_
 refine m4 [0,1] [] (fun (i:Nat)=>[(5,.v (.int .i64 (i:Int)))]) (fun (i:Nat)=>[]) (fun (i:Nat)=>i≤xs.length) (fun (i:Nat)=>xs.length - i) 0 rfl rfl ?_ ?_ ?_ ?_
 ·exact Nat.zero_le _
 ·exact ⟨⟨_,rfl,by (first | rfl | (simp;done) | (simp;omega))⟩,rfl,trivial⟩
 ·exact trivial
 ·intro i hinv
  simp only [List.cons_append,List.nil_append]
  refine b4 (fun K6 hK6=>?_)
  refine b4 (fun K7 hK7=>?_)
  refine a6 ?_
  refine a1 rfl ?_
  refine a3 rfl rfl (a8 rfl rfl) ?_
  refine a1 rfl ?_
  refine a3 rfl rfl (a8 rfl rfl) ?_
  refine a1 rfl ?_
  first | refine a3 rfl rfl (r4 G rfl rfl rfl rfl (List.length_map _)) ?_ | refine a3 rfl rfl (t6 G rfl rfl rfl rfl) ?_
  refine a1 rfl ?_
  refine a3 rfl rfl (f9 rfl rfl rfl rfl) ?_
  refine a4 ?_
  refine hK7 _ ?_
  clear hK7 K7
  refine d1 rfl (fun h1=>?_) (fun h1=>?_)
  ·try rw [h1]
   try simp only [rfb] at h1
   refine e9 ?_
   refine hK6 _ ?_
   clear hK6 K6
   refine b4 (fun K8 hK8=>?_)
   refine l8 ?_
   refine b4 (fun K9 hK9=>?_)
   refine L1 m5 (by kernel_rfl) ?_
   refine d6 rfl ?_
   refine j5 rfl rfl (a8 rfl rfl) ?_
   refine d6 rfl ?_
   refine j5 rfl rfl (a8 rfl rfl) ?_
   refine d6 rfl ?_
   refine j5 rfl rfl (f6 G rfl rfl rfl rfl (by omega) (C4 (by omega))) ?_
   refine d6 rfl ?_
   refine j5 rfl rfl (p9 G rfl rfl rfl rfl rfl) ?_
   refine d6 rfl ?_
   refine j5 rfl rfl (a8 rfl rfl) ?_
   refine d6 rfl ?_
   refine j5 rfl rfl (a8 rfl rfl) ?_
   refine d6 rfl ?_
   refine j5 rfl rfl (f6 G rfl rfl rfl rfl (by omega) (C4 (by omega))) ?_
   refine d6 rfl ?_
   refine j5 rfl rfl (p9 G rfl rfl rfl rfl rfl) ?_
   refine d6 rfl ?_
   refine j5 rfl rfl (a0X (v':=.bool false) (a8C (G 4 _ rfl).1 rfl rfl rfl) (by first | (simp;done) | (simp [m6,r6];done))) ?_
   refine H1 ?_
   refine hK9 _ ?_
   clear hK9 K9
   refine B1 rfl ?_
   refine e9 ?_
   refine hK8 _ ?_
   clear hK8 K8
   refine a6 ?_
   refine a1 rfl ?_
   refine a3 rfl rfl (a8 rfl rfl) ?_
   refine a1 rfl ?_
   first | refine a3 rfl rfl (i8 rfl rfl rfl rfl (by omega) (by omega)) ?_ | refine a3 rfl rfl (k4 rfl rfl rfl rfl) ?_
   refine a1 rfl ?_
   refine a3 rfl rfl (a7 rfl rfl) ?_
   refine a4 ⟨(i+1),?_,?_,⟨⟨_,rfl,by rfl⟩,rfl,trivial⟩,trivial,rfl,rfl,rfl⟩
   ·omega
   ·omega
  ·try rw [h1]
   try simp only [rfb] at h1
   refine B0 ?_
   refine hK4 _ ?_
   clear hK6 K6 hK4 K4
   refine b4 (fun K10 hK10=>?_)
   refine a6 ?_
   refine a1 rfl ?_
   refine a3 rfl rfl (a7 rfl rfl) ?_
   refine a4 ?_
   refine hK10 _ ?_
   clear hK10 K10
   refine c8 ?_
   refine j4 rfl ?_
   refine g9 ?_
   all_goals (rfl)
theorem a5M (xs ys:List (List Int)) (he:xs=ys) (hn:xs.length≤9223372036854775807) (hz:∀ i,i < xs.length→(xs.getD i default).length≤9223372036854775807):Ctr Tryz.prog 63 [.nst none 1 (xs.map s1),.nst none 1 (ys.map s1)] (.one (.v (.bool true))):=by
 subst he
 refine Ctr.of (n:=27) G Tryz.func63 rfl (by kernel_rfl) rfl rfl rfl (fun w0=>?_)
 refine b4 (fun K1 hK1=>?_)
 refine a6 ?_
 refine a1 rfl ?_
 refine a3 rfl rfl (a7 rfl rfl) ?_
 refine a4 ?_
 refine hK1 _ ?_
 clear hK1 K1
 refine b4 (fun K2 hK2=>?_)
 refine b4 (fun K3 hK3=>?_)
 refine a6 ?_
 refine a1 rfl ?_
 refine a3 rfl rfl (a8 rfl rfl) ?_
 refine a1 rfl ?_
 first | refine a3 rfl rfl (r4 G rfl rfl rfl rfl (List.length_map _)) ?_ | refine a3 rfl rfl (t6 G rfl rfl rfl rfl) ?_
 refine a1 rfl ?_
 refine a3 rfl rfl (a8 rfl rfl) ?_
 refine a1 rfl ?_
 first | refine a3 rfl rfl (r4 G rfl rfl rfl rfl (List.length_map _)) ?_ | refine a3 rfl rfl (t6 G rfl rfl rfl rfl) ?_
 refine a1 rfl ?_
 refine a3 rfl rfl (a0X (v':=.bool false) (f9 rfl rfl rfl rfl) (by first | rfl | (simp;done) | (simp [m6,r6];done))) ?_
 refine a4 ?_
 refine hK3 _ ?_
 clear hK3 K3
 refine B1 rfl ?_
 refine e9 ?_
 refine hK2 _ ?_
 clear hK2 K2
 refine b4 (fun K4 hK4=>?_)
 refine b4 (fun K5 hK5=>?_)
 refine a6 ?_
 refine a1 rfl ?_
 refine a3 rfl rfl (a7 rfl rfl) ?_
 refine a4 ?_
 refine hK5 _ ?_
 clear hK5 K5
 refine l8 ?_
 refine m4 [0,1] [] (fun (i:Nat)=>[(5,.v (.int .i64 (i:Int)))]) (fun (i:Nat)=>[]) (fun (i:Nat)=>i≤xs.length) (fun (i:Nat)=>xs.length - i) 0 rfl rfl ?_ ?_ ?_ ?_
 ·exact Nat.zero_le _
 ·exact ⟨⟨_,rfl,by (first | rfl | (simp;done) | (simp;omega))⟩,rfl,trivial⟩
 ·exact trivial
 ·intro i hinv
  simp only [List.cons_append,List.nil_append]
  refine b4 (fun K6 hK6=>?_)
  refine b4 (fun K7 hK7=>?_)
  refine a6 ?_
  refine a1 rfl ?_
  refine a3 rfl rfl (a8 rfl rfl) ?_
  refine a1 rfl ?_
  refine a3 rfl rfl (a8 rfl rfl) ?_
  refine a1 rfl ?_
  first | refine a3 rfl rfl (r4 G rfl rfl rfl rfl (List.length_map _)) ?_ | refine a3 rfl rfl (t6 G rfl rfl rfl rfl) ?_
  refine a1 rfl ?_
  refine a3 rfl rfl (f9 rfl rfl rfl rfl) ?_
  refine a4 ?_
  refine hK7 _ ?_
  clear hK7 K7
  refine d1 rfl (fun h1=>?_) (fun h1=>?_)
  ·try rw [h1]
   try simp only [rfb] at h1
   refine e9 ?_
   refine hK6 _ ?_
   clear hK6 K6
   refine b4 (fun K8 hK8=>?_)
   refine l8 ?_
   refine b4 (fun K9 hK9=>?_)
   refine L1 m5 (by kernel_rfl) ?_
   refine d6 rfl ?_
   refine j5 rfl rfl (a8 rfl rfl) ?_
   refine d6 rfl ?_
   refine j5 rfl rfl (a8 rfl rfl) ?_
   refine d6 rfl ?_
   refine j5 rfl rfl (w6 G rfl rfl rfl rfl (by omega) (C4 (by omega)) rfl) ?_
   refine d6 rfl ?_
   refine j5 rfl rfl (z6 G rfl rfl rfl rfl) ?_
   refine d6 rfl ?_
   refine j5 rfl rfl (a8 rfl rfl) ?_
   refine d6 rfl ?_
   refine j5 rfl rfl (a8 rfl rfl) ?_
   refine d6 rfl ?_
   refine j5 rfl rfl (w6 G rfl rfl rfl rfl (by omega) (C4 (by omega)) rfl) ?_
   refine d6 rfl ?_
   refine j5 rfl rfl (z6 G rfl rfl rfl rfl) ?_
   refine d6 rfl ?_
   refine j5 rfl rfl (k5 rfl (ArgsOK.of rfl) (T7 _ _ rfl (hz i (by omega))) rfl) ?_
   refine d6 rfl ?_
   refine j5 rfl rfl (a0w rfl rfl) ?_
   refine H1 ?_
   refine hK9 _ ?_
   clear hK9 K9
   refine B1 rfl ?_
   refine e9 ?_
   refine hK8 _ ?_
   clear hK8 K8
   refine a6 ?_
   refine a1 rfl ?_
   refine a3 rfl rfl (a8 rfl rfl) ?_
   refine a1 rfl ?_
   first | refine a3 rfl rfl (i8 rfl rfl rfl rfl (by omega) (by omega)) ?_ | refine a3 rfl rfl (k4 rfl rfl rfl rfl) ?_
   refine a1 rfl ?_
   refine a3 rfl rfl (a7 rfl rfl) ?_
   refine a4 ⟨(i+1),?_,?_,⟨⟨_,rfl,by rfl⟩,rfl,trivial⟩,trivial,rfl,rfl,rfl⟩
   ·omega
   ·omega
  ·try rw [h1]
   try simp only [rfb] at h1
   refine B0 ?_
   refine hK4 _ ?_
   clear hK6 K6 hK4 K4
   refine b4 (fun K10 hK10=>?_)
   refine a6 ?_
   refine a1 rfl ?_
   refine a3 rfl rfl (a7 rfl rfl) ?_
   refine a4 ?_
   refine hK10 _ ?_
   clear hK10 K10
   refine c8 ?_
   refine j4 rfl ?_
   refine g9 ?_
   all_goals (rfl)
theorem Q2 (x y:Abs) (he:x=y) (hb:BigA x):Ctr Tryz.prog 13 [.agg [.lst 1 (x.en.map l0),.lst 1 (x.ra.map l0),.lst 1 (x.po.map l0),.lst 1 (x.ma.map Rf.r5),.nst none 1 (x.st.map s1)],.agg [.lst 1 (y.en.map l0),.lst 1 (y.ra.map l0),.lst 1 (y.po.map l0),.lst 1 (y.ma.map Rf.r5),.nst none 1 (y.st.map s1)]] (.one (.v (.bool true))):=by
 subst he
 refine Ctr.of (n:=38) G Tryz.func13 rfl (by kernel_rfl) rfl rfl rfl (fun w0=>?_)
 refine r8 0 rfl (fun _=>rfl) (fun u0=>?_)
 refine r8 1 rfl (fun _=>rfl) (fun u1=>?_)
 refine b4 (fun K1 hK1=>?_)
 refine a6 ?_
 refine a1 rfl ?_
 refine y4 1 rfl rfl rfl rfl rfl rfl rfl ?_
 refine a1 rfl ?_
 refine y4 2 rfl rfl rfl rfl rfl rfl rfl ?_
 refine a1 rfl ?_
 refine a3 rfl rfl (a7 rfl rfl) ?_
 refine a4 ?_
 refine hK1 _ ?_
 clear hK1 K1
 refine b4 (fun K2 hK2=>?_)
 refine a6 ?_
 refine a1 rfl ?_
 refine a3 rfl rfl (b7 G rfl rfl rfl rfl) ?_
 refine a1 rfl ?_
 refine a3 rfl rfl (E0 (c4 G rfl rfl rfl rfl rfl rfl rfl)) ?_
 refine a1 rfl ?_
 refine a3 rfl rfl (b7 G rfl rfl rfl rfl) ?_
 refine a1 rfl ?_
 refine a3 rfl rfl (E0 (c4 G rfl rfl rfl rfl rfl rfl rfl)) ?_
 refine a1 rfl ?_
 refine a3 rfl rfl (k5 rfl (ArgsOK.of rfl) (Z7 _ _ rfl hb.en) rfl) ?_
 refine a1 rfl ?_
 refine a3 rfl rfl (a8 rfl rfl) ?_
 refine c6 rfl rfl rfl ?_
 refine a3 rfl rfl (b7 G rfl rfl rfl rfl) ?_
 refine c6 rfl rfl rfl ?_
 refine a3 rfl rfl (E0 (c4 G rfl rfl rfl rfl rfl rfl rfl)) ?_
 refine c6 rfl rfl rfl ?_
 refine a3 rfl rfl (b7 G rfl rfl rfl rfl) ?_
 refine c6 rfl rfl rfl ?_
 refine a3 rfl rfl (E0 (c4 G rfl rfl rfl rfl rfl rfl rfl)) ?_
 refine c6 rfl rfl rfl ?_
 refine a3 rfl rfl (k5 rfl (ArgsOK.of rfl) (Z7 _ _ rfl hb.ra) rfl) ?_
 refine a1 rfl ?_
 refine a3 rfl rfl (i5 rfl rfl rfl) ?_
 refine a1 rfl ?_
 refine a3 rfl rfl (a8 rfl rfl) ?_
 refine c6 rfl rfl rfl ?_
 refine a3 rfl rfl (b7 G rfl rfl rfl rfl) ?_
 refine c6 rfl rfl rfl ?_
 refine a3 rfl rfl (E0 (c4 G rfl rfl rfl rfl rfl rfl rfl)) ?_
 refine c6 rfl rfl rfl ?_
 refine a3 rfl rfl (b7 G rfl rfl rfl rfl) ?_
 refine c6 rfl rfl rfl ?_
 refine a3 rfl rfl (E0 (c4 G rfl rfl rfl rfl rfl rfl rfl)) ?_
 refine c6 rfl rfl rfl ?_
 refine a3 rfl rfl (k5 rfl (ArgsOK.of rfl) (Z7 _ _ rfl hb.po) rfl) ?_
 refine a1 rfl ?_
 refine a3 rfl rfl (i5 rfl rfl rfl) ?_
 refine a1 rfl ?_
 refine a3 rfl rfl (a8 rfl rfl) ?_
 refine c6 rfl rfl rfl ?_
 refine a3 rfl rfl (b7 G rfl rfl rfl rfl) ?_
 refine c6 rfl rfl rfl ?_
 refine a3 rfl rfl (E0 (c4 G rfl rfl rfl rfl rfl rfl rfl)) ?_
 refine c6 rfl rfl rfl ?_
 refine a3 rfl rfl (b7 G rfl rfl rfl rfl) ?_
 refine c6 rfl rfl rfl ?_
 refine a3 rfl rfl (E0 (c4 G rfl rfl rfl rfl rfl rfl rfl)) ?_
 refine c6 rfl rfl rfl ?_
 refine a3 rfl rfl (k5 rfl (ArgsOK.of rfl) (T7 _ _ rfl hb.ma) rfl) ?_
 refine a1 rfl ?_
 refine a3 rfl rfl (i5 rfl rfl rfl) ?_
 refine a1 rfl ?_
 refine a3 rfl rfl (a8 rfl rfl) ?_
 refine c6 rfl rfl rfl ?_
 refine a3 rfl rfl (b7 G rfl rfl rfl rfl) ?_
 refine c6 rfl rfl rfl ?_
 refine a3 rfl rfl (a1e (c4 G rfl rfl rfl rfl rfl rfl rfl)) ?_
 refine c6 rfl rfl rfl ?_
 refine a3 rfl rfl (b7 G rfl rfl rfl rfl) ?_
 refine c6 rfl rfl rfl ?_
 refine a3 rfl rfl (a1e (c4 G rfl rfl rfl rfl rfl rfl rfl)) ?_
 refine c6 rfl rfl rfl ?_
 refine a3 rfl rfl (k5 rfl (ArgsOK.of rfl) (a5M _ _ rfl hb.st hb.all) rfl) ?_
 refine a1 rfl ?_
 refine a3 rfl rfl (i5 rfl rfl rfl) ?_
 refine a1 rfl ?_
 refine a3 rfl rfl (a7 rfl rfl) ?_
 refine a4 ?_
 refine hK2 _ ?_
 clear hK2 K2
 refine c8 ?_
 refine j4 rfl ?_
 refine g9 ?_
 all_goals (rfl)
end Go.Proofs.YtcnodpipinlpcaaGreat
set_option maxRecDepth 20000
namespace Go.Proofs.YtcnodpipinlpcaaGreat
open Go Go.Rf
theorem a0V (l:List Int) (h0:l.length≤9223372036854775807) (hb:∀ j,0≤l.getD j default∧l.getD j default≤255):Ctr Tryz.prog 3 [.lst 1 (l.map C5)] (.one (.v (.bool true))):=by
 refine Ctr.of (n:=206) G Tryz.func3 rfl (by kernel_rfl) rfl rfl rfl (fun w0=>?_)
 refine b4 (fun K1 hK1=>?_)
 refine a6 ?_
 refine a1 rfl ?_
 refine a3 rfl rfl (a7 rfl rfl) ?_
 refine a4 ?_
 refine hK1 _ ?_
 clear hK1 K1
 refine b4 (fun K2 hK2=>?_)
 refine b4 (fun K3 hK3=>?_)
 refine a6 ?_
 refine a1 rfl ?_
 refine a3 rfl rfl (a8 rfl rfl) ?_
 refine a1 rfl ?_
 refine a3 rfl rfl (k5 rfl (ArgsOK.of rfl) (a7P _ (by first | assumption | omega)) rfl) ?_
 refine a4 ?_
 refine hK3 _ ?_
 clear hK3 K3
 refine d1 rfl (fun h1=>?_) (fun h1=>?_)
 ·try rw [h1]
  try simp only [rfb] at h1
  refine b4 (fun K4 hK4=>?_)
  refine a6 ?_
  refine a1 rfl ?_
  refine a3 rfl rfl (a7 rfl rfl) ?_
  refine a4 ?_
  refine hK4 _ ?_
  clear hK4 K4
  refine c8 ?_
  refine j4 rfl ?_
  refine g9 ?_
  all_goals clear hK2 K2
  all_goals (first | rfl | (simp_all;done))
 ·try rw [h1]
  try simp only [rfb] at h1
  have hl:L2 l:=⟨by omega,hb⟩
  refine e9 ?_
  refine hK2 _ ?_
  clear hK2 K2
  refine b4 (fun K5 hK5=>?_)
  refine a6 ?_
  refine a1 rfl ?_
  refine a3 rfl rfl (a8 rfl rfl) ?_
  refine a1 rfl ?_
  refine d3 7 [] rfl rfl rfl (a0U l hl) rfl RowsIn.nil rfl (fun _=>rfl) rfl (fun x1 ⟨hv1,hc1⟩=>?_)
  refine a1 rfl ?_
  refine a3 rfl rfl (a8 rfl rfl) ?_
  refine a1 rfl ?_
  refine a3 rfl rfl (c9 rfl rfl rfl) ?_
  refine a1 rfl ?_
  refine a3 rfl rfl (c9 rfl rfl rfl) ?_
  refine a1 rfl ?_
  refine a3 rfl rfl (c9 rfl rfl rfl) ?_
  refine a1 rfl ?_
  refine d7 G 8 rfl rfl rfl rfl rfl ?_
  refine a1 rfl ?_
  refine a3 rfl rfl (a7 rfl rfl) ?_
  refine a1 rfl ?_
  refine c5 G rfl rfl rfl rfl rfl rfl rfl rfl rfl rfl rfl ?_
  refine a1 rfl ?_
  refine a3 rfl rfl (a7 rfl rfl) ?_
  refine a4 ?_
  refine hK5 _ ?_
  clear hK5 K5
  refine b4 (fun K6 hK6=>?_)
  refine a6 ?_
  refine a1 rfl ?_
  refine a3 rfl rfl (a8 rfl rfl) ?_
  refine a1 rfl ?_
  refine a3 rfl rfl (b3 G rfl rfl rfl rfl rfl rfl) ?_
  refine a1 rfl ?_
  refine a3 rfl rfl (a8 rfl rfl) ?_
  refine a1 rfl ?_
  refine g8 14 rfl rfl rfl (ArgsOK.of rfl) (a2v _ _ _ hv1.2.1.small (by have:=hv1.1;omega) (by have:=hv1.2.2;omega)) rfl rfl ?_
  refine a1 rfl ?_
  refine a3 rfl rfl (a8 rfl rfl) ?_
  refine a1 rfl ?_
  refine a3 rfl rfl (c9 rfl rfl rfl) ?_
  refine a1 rfl ?_
  refine a3 rfl rfl (c9 rfl rfl rfl) ?_
  refine a1 rfl ?_
  refine a3 rfl rfl (c9 rfl rfl rfl) ?_
  refine a1 rfl ?_
  refine d7 G 15 rfl rfl rfl rfl rfl ?_
  refine a1 rfl ?_
  refine c5 G rfl rfl rfl rfl rfl rfl rfl rfl rfl rfl rfl ?_
  refine a1 rfl ?_
  refine a3 rfl rfl (a7 rfl rfl) ?_
  refine a1 rfl ?_
  refine a3 rfl rfl (a7 rfl rfl) ?_
  refine a4 ?_
  refine hK6 _ ?_
  clear hK6 K6
  refine b4 (fun K7 hK7=>?_)
  refine b4 (fun K8 hK8=>?_)
  refine a6 ?_
  refine a1 rfl ?_
  refine a3 rfl rfl (a8 rfl rfl) ?_
  refine a1 rfl ?_
  refine a3 rfl rfl (b3 G rfl rfl rfl rfl rfl rfl) ?_
  refine a1 rfl ?_
  refine a3 rfl rfl (a8 rfl rfl) ?_
  refine a1 rfl ?_
  refine g8 21 rfl rfl rfl (ArgsOK.of rfl) (a2u _ _ _ hv1.2.1.small (by have:=hv1.1;omega) (by have:=hv1.2.2;omega)) rfl rfl ?_
  refine a1 rfl ?_
  refine a3 rfl rfl (a8 rfl rfl) ?_
  refine a1 rfl ?_
  refine a3 rfl rfl (c9 rfl rfl rfl) ?_
  refine a1 rfl ?_
  refine a3 rfl rfl (c9 rfl rfl rfl) ?_
  refine a1 rfl ?_
  refine a3 rfl rfl (c9 rfl rfl rfl) ?_
  refine a1 rfl ?_
  refine d7 G 22 rfl rfl rfl rfl rfl ?_
  refine a1 rfl ?_
  refine c5 G rfl rfl rfl rfl rfl rfl rfl rfl rfl rfl rfl ?_
  refine a1 rfl ?_
  refine a3 rfl rfl (a7 rfl rfl) ?_
  refine a1 rfl ?_
  refine a3 rfl rfl (a7 rfl rfl) ?_
  refine a4 ?_
  refine hK8 _ ?_
  clear hK8 K8
  refine b4 (fun K9 hK9=>?_)
  refine a6 ?_
  refine a1 rfl ?_
  refine a3 rfl rfl (a8 rfl rfl) ?_
  refine a1 rfl ?_
  refine a3 rfl rfl (a8 rfl rfl) ?_
  refine a1 rfl ?_
  refine a3 rfl rfl (a0X (v':=.bool false) (a8C (G 4 _ rfl).1 rfl rfl rfl) (by first | rfl | (simp;done) | (simp [m6,r6];done))) ?_
  refine a1 rfl ?_
  refine a3 rfl rfl (a8 rfl rfl) ?_
  refine c6 rfl rfl rfl ?_
  refine a3 rfl rfl (a8 rfl rfl) ?_
  refine c6 rfl rfl rfl ?_
  refine a3 rfl rfl (a8 rfl rfl) ?_
  refine c6 rfl rfl rfl ?_
  refine a3 rfl rfl (k5 rfl (ArgsOK.of rfl) (T7 _ _ rfl (Nat.le_trans a59.2 (by decide))) rfl) ?_
  refine c6 rfl rfl rfl ?_
  refine a3 rfl rfl (a0w rfl rfl) ?_
  refine a1 rfl ?_
  refine a3 rfl rfl (i7 rfl rfl rfl) ?_
  refine a1 rfl ?_
  refine a3 rfl rfl (a8 rfl rfl) ?_
  refine c6 rfl rfl rfl ?_
  refine a3 rfl rfl (b3 G rfl rfl rfl rfl rfl rfl) ?_
  refine c6 rfl rfl rfl ?_
  refine a3 rfl rfl (b3 G rfl rfl rfl rfl rfl rfl) ?_
  refine c6 rfl rfl rfl ?_
  refine a3 rfl rfl (k5 rfl (ArgsOK.of rfl) (Q2 _ _ rfl a59.1.big) rfl) ?_
  refine c6 rfl rfl rfl ?_
  refine a3 rfl rfl (a0w rfl rfl) ?_
  refine a1 rfl ?_
  refine a3 rfl rfl (i7 rfl rfl rfl) ?_
  refine a4 ?_
  refine hK9 _ ?_
  clear hK9 K9
  refine B1 rfl ?_
  refine e9 ?_
  refine hK7 _ ?_
  clear hK7 K7
  refine b0g (nt:=206) (T1:=[(0,.lst 1 (l.map C5))]) (M1:=[]) 60 [0] [] ?_ ?_
  ·skip
   refine b4 (fun K11 hK11=>?_)
   refine a6 ?_
   refine a1 rfl ?_
   refine a3 rfl rfl (a8 rfl rfl) ?_
   refine a4 ?_
   refine hK11 _ ?_
   clear hK11 K11
   refine d1 rfl (fun h2=>?_) (fun h2=>?_)
   ·try rw [h2]
    try simp only [rfb] at h2
    obtain ⟨⟨hA,hV⟩,hE1,hE2⟩:=b3I h2
    refine b4 (fun K12 hK12=>?_)
    refine a6 ?_
    refine a1 rfl ?_
    refine a3 rfl rfl (b3 G rfl rfl rfl rfl rfl rfl) ?_
    refine a1 rfl ?_
    refine k6 G 23 rfl rfl rfl rfl rfl rfl rfl rfl ?_
    refine a1 rfl ?_
    refine d7 G 24 rfl rfl rfl rfl rfl ?_
    refine a1 rfl ?_
    refine c5 G rfl rfl rfl rfl rfl rfl rfl rfl rfl rfl rfl ?_
    refine a1 rfl ?_
    refine a3 rfl rfl (a7 rfl rfl) ?_
    refine a4 ?_
    refine hK12 _ ?_
    clear hK12 K12
    refine b4 (fun K13 hK13=>?_)
    refine b4 (fun K14 hK14=>?_)
    refine a6 ?_
    refine a1 rfl ?_
    refine a3 rfl rfl (a7 rfl rfl) ?_
    refine a4 ?_
    refine hK14 _ ?_
    clear hK14 K14
    refine l8 ?_
    refine m4 [0,3,5,6,7,12] [0,6,8,9,10,11,12,13,14] (fun (i:Nat)=>[(13,.own 22),(14,.v (.int .i64 (i:Int)))]) (fun (i:Nat)=>[(1,some (.row 4 1 ((rnN x1.1.1 x1.1.2 x1.2 i).1.en.map l0))),(2,some (.row 4 1 ((rnN x1.1.1 x1.1.2 x1.2 i).1.ra.map l0))),(3,some (.row 4 1 ((rnN x1.1.1 x1.1.2 x1.2 i).1.po.map l0))),(4,some (.row 3 1 ((rnN x1.1.1 x1.1.2 x1.2 i).1.ma.map Rf.r5))),(5,some (.nest 26 1 ((rnN x1.1.1 x1.1.2 x1.2 i).1.st.map s1) [])),(22,some (.row 3 1 ((rnN x1.1.1 x1.1.2 x1.2 i).2.map Rf.r5))),(23,some (.box [.own 1,.own 2,.own 3,.own 4,.own 5]))]) (fun (i:Nat)=>i≤x1.2.length) (fun (i:Nat)=>x1.2.length - i) 0 rfl rfl ?_ ?_ ?_ ?_
    ·exact Nat.zero_le _
    ·exact ⟨⟨_,rfl,by rfl⟩,rfl,⟨⟨_,rfl,by rfl⟩,rfl,trivial⟩⟩
    ·exact ⟨⟨_,rfl,by rfl⟩,rfl,rfl,⟨⟨_,rfl,by rfl⟩,rfl,rfl,⟨⟨_,rfl,by rfl⟩,rfl,rfl,⟨⟨_,rfl,by rfl⟩,rfl,rfl,⟨⟨_,rfl,by rfl⟩,rfl,rfl,⟨⟨_,rfl,by rfl⟩,rfl,rfl,⟨⟨_,rfl,by rfl⟩,rfl,rfl,trivial⟩⟩⟩⟩⟩⟩⟩
    ·intro i hinv
     have hi:=hinv
     have hli:=@a20 x1.1.1 x1.1.2 x1.2 i
     have hl10:=hv1.2.2
     simp only [List.cons_append,List.nil_append]
     refine b4 (fun K15 hK15=>?_)
     refine b4 (fun K16 hK16=>?_)
     refine a6 ?_
     refine a1 rfl ?_
     refine a3 rfl rfl (a8 rfl rfl) ?_
     refine a1 rfl ?_
     refine a3 rfl rfl (a8 rfl rfl) ?_
     refine a1 rfl ?_
     first | refine a3 rfl rfl (r4 G rfl rfl rfl rfl (List.length_map _)) ?_ | refine a3 rfl rfl (t6 G rfl rfl rfl rfl) ?_
     refine a1 rfl ?_
     refine a3 rfl rfl (f9 rfl rfl rfl rfl) ?_
     refine a4 ?_
     refine hK16 _ ?_
     clear hK16 K16
     refine d1 rfl (fun h3=>?_) (fun h3=>?_)
     ·try rw [h3]
      try simp only [rfb] at h3
      have hS:=b5h hA hV (show i < x1.2.length by omega)
      refine e9 ?_
      refine hK15 _ ?_
      clear hK15 K15
      refine b4 (fun K17 hK17=>?_)
      refine l8 ?_
      refine b4 (fun K18 hK18=>?_)
      refine j9 15 [0,1,2,3,4,5,6,8,9,10,11,12,13,14,22,23] m5 (by kernel_rfl) rfl rfl (fun r0=>?_) (fun _ h=>h)
      refine b9 0 rfl (by kernel_rfl) (by kernel_rfl) rfl rfl rfl rfl (a8 rfl rfl) ?_
      refine b9 1 rfl (by kernel_rfl) (by kernel_rfl) rfl rfl rfl rfl (b3 G rfl rfl rfl rfl rfl rfl) ?_
      refine b9 2 rfl (by kernel_rfl) (by kernel_rfl) rfl rfl rfl rfl (a8 rfl rfl) ?_
      refine b9 3 rfl (by kernel_rfl) (by kernel_rfl) rfl rfl rfl rfl (a8 rfl rfl) ?_
      refine b9 4 rfl (by kernel_rfl) (by kernel_rfl) rfl rfl rfl rfl (k8 G rfl rfl rfl rfl rfl (by omega) (by rw [List.length_map];omega)) ?_
      first | refine b9 5 rfl (by kernel_rfl) (by kernel_rfl) rfl rfl rfl rfl (y7 G rfl rfl rfl rfl (C4 (by omega)) rfl) ?_ | refine b9 5 rfl (by kernel_rfl) (by kernel_rfl) rfl rfl rfl rfl (y7 G rfl rfl rfl rfl (t8 (by omega) (by omega)) rfl) ?_
      refine z8 (N:=25) rfl (s2 (fuel:=8) [⟨11,15,24,true,.box (avR [.slice none 0 0,.slice none 0 0,.slice none 0 0,.slice none 0 0,.slice none 0 0] [])⟩] (AllVOK.cons (VOK.boxS G rfl rfl rfl rfl rfl) (AllVOK.nil)) (fun hok=>?_))
      refine n6 [(6,[])] (by kernel_rfl) (by kernel_rfl) (fun e he=>hok e he) (by kernel_rfl) (AllVS.cons ?_ AllVS.nil)
      refine VStep.mk0 [0,1,2,3,4,5,6,8,9,10,11,12,13,14,22,23] rfl rfl (fun b1 _ hbn=>g8 30 rfl rfl rfl (ArgsOK.of rfl) (I9 _ _ _ (a7G hA hV (by omega)) (by have:=hv1.1;omega)) rfl rfl (a4 rfl)) (by kernel_rfl) (by kernel_rfl) (by kernel_rfl) (by kernel_rfl) ?_
      refine w9 7 rfl (by kernel_rfl) rfl rfl rfl rfl (a8 rfl rfl) (by kernel_rfl) (by kernel_rfl) (by kernel_rfl) ?_
      refine w9 8 rfl (by kernel_rfl) rfl rfl rfl rfl (c9 rfl rfl rfl) (by kernel_rfl) (by kernel_rfl) (by kernel_rfl) ?_
      refine w9 9 rfl (by kernel_rfl) rfl rfl rfl rfl (c9 rfl rfl rfl) (by kernel_rfl) (by kernel_rfl) (by kernel_rfl) ?_
      refine w9 10 rfl (by kernel_rfl) rfl rfl rfl rfl (c9 rfl rfl rfl) (by kernel_rfl) (by kernel_rfl) (by kernel_rfl) ?_
      refine n6 [(12,[11])] (by kernel_rfl) (by kernel_rfl) (fun e he=>hok e he) (by kernel_rfl) (AllVS.cons ?_ AllVS.nil)
      refine VStep.mk1 [0,1,2,3,4,5,6,8,9,10,11,12,13,14,22,23] 15 (.ptr 24 0) 24 (.box (avR [.slice none 0 0,.slice none 0 0,.slice none 0 0,.slice none 0 0,.slice none 0 0] [])) [] rfl rfl rfl rfl rfl (fun b1 _ hbn=>c5 G rfl rfl rfl rfl rfl rfl rfl rfl rfl rfl rfl (a4 rfl)) (by kernel_rfl) (by kernel_rfl) (by kernel_rfl) (by kernel_rfl) ?_
      refine F8 ?_
      clear hok
      refine b9 13 rfl (by kernel_rfl) (by kernel_rfl) rfl rfl rfl rfl (a7 rfl rfl) ?_
      refine b9 14 rfl (by kernel_rfl) (by kernel_rfl) rfl rfl rfl rfl (a7 rfl rfl) ?_
      refine l9 (by kernel_rfl) ?_
      refine hK18 _ ?_
      clear hK18 K18
      refine b4 (fun K19 hK19=>?_)
      refine b4 (fun K20 hK20=>?_)
      refine a6 ?_
      refine a1 rfl ?_
      refine a3 rfl rfl (a8 rfl rfl) ?_
      refine a1 rfl ?_
      refine a3 rfl rfl (C2 rfl rfl) ?_
      refine a4 ?_
      refine hK20 _ ?_
      clear hK20 K20
      refine d1 rfl (fun h4=>?_) (fun h4=>?_)
      ·try rw [h4]
       try simp only [rfb] at h4
       have hQ:=hS.f h4
       refine B0 ?_
       refine hK17 _ ?_
       clear hK19 K19 hK17 K17
       refine a6 ?_
       refine a1 rfl ?_
       refine a3 rfl rfl (a8 rfl rfl) ?_
       refine a1 rfl ?_
       first | refine a3 rfl rfl (i8 rfl rfl rfl rfl (by omega) (by omega)) ?_ | refine a3 rfl rfl (k4 rfl rfl rfl rfl) ?_
       refine a1 rfl ?_
       refine a3 rfl rfl (a7 rfl rfl) ?_
       refine a4 ⟨(i+1),?_,?_,⟨⟨_,rfl,by rfl⟩,rfl,⟨⟨_,rfl,by rfl⟩,rfl,trivial⟩⟩,⟨⟨_,rfl,by (first | rfl | (rw [hQ];done) | (rw [hQ1];done) | (rw [hQ2];done) | (rw [hQ2,List.map_append];rfl))⟩,rfl,rfl,⟨⟨_,rfl,by (first | rfl | (rw [hQ];done) | (rw [hQ1];done) | (rw [hQ2];done) | (rw [hQ2,List.map_append];rfl))⟩,rfl,rfl,⟨⟨_,rfl,by (first | rfl | (rw [hQ];done) | (rw [hQ1];done) | (rw [hQ2];done) | (rw [hQ2,List.map_append];rfl))⟩,rfl,rfl,⟨⟨_,rfl,by (first | rfl | (rw [hQ];done) | (rw [hQ1];done) | (rw [hQ2];done) | (rw [hQ2,List.map_append];rfl))⟩,rfl,rfl,⟨⟨_,rfl,by (first | rfl | (rw [hQ];done) | (rw [hQ1];done) | (rw [hQ2];done) | (rw [hQ2,List.map_append];rfl))⟩,rfl,rfl,⟨⟨_,rfl,by (first | rfl | (rw [hQ];done) | (rw [hQ1];done) | (rw [hQ2];done) | (rw [hQ2,List.map_append];rfl))⟩,rfl,rfl,⟨⟨_,rfl,by (first | rfl | (rw [hQ];done) | (rw [hQ1];done) | (rw [hQ2];done) | (rw [hQ2,List.map_append];rfl))⟩,rfl,rfl,trivial⟩⟩⟩⟩⟩⟩⟩,rfl,rfl,rfl⟩
       ·omega
       ·omega
      ·try rw [h4]
       try simp only [rfb] at h4
       have hQ1:=hS.t1 h4
       refine e9 ?_
       refine hK19 _ ?_
       clear hK19 K19
       refine b4 (fun K21 hK21=>?_)
       refine a6 ?_
       refine a1 rfl ?_
       refine a3 rfl rfl (b3 G rfl rfl rfl rfl rfl rfl) ?_
       refine a1 rfl ?_
       refine c5 G rfl rfl rfl rfl rfl rfl rfl rfl rfl rfl rfl ?_
       refine a4 ?_
       refine hK21 _ ?_
       clear hK21 K21
       refine b4 (fun K22 hK22=>?_)
       refine a6 ?_
       refine a1 rfl ?_
       refine a3 rfl rfl (a8 rfl rfl) ?_
       refine a1 rfl ?_
       refine a3 rfl rfl (a8 rfl rfl) ?_
       refine a1 rfl ?_
       refine a3 rfl rfl (k8 G rfl rfl rfl rfl rfl (by omega) (by rw [List.length_map];omega)) ?_
       refine a1 rfl ?_
       refine a3 rfl rfl (Q7 G rfl rfl rfl rfl) ?_
       refine a1 rfl ?_
       first | refine a3 rfl rfl (u3 G rfl rfl rfl rfl rfl (C4 (by omega)) rfl) ?_ | refine a3 rfl rfl (u3 G rfl rfl rfl rfl rfl (t8 (by omega) (by omega)) rfl) ?_
       refine a1 rfl ?_
       refine a3 rfl rfl (f9 rfl rfl rfl rfl) ?_
       refine a4 ?_
       refine hK22 _ ?_
       clear hK22 K22
       refine d1 rfl (fun h5=>?_) (fun h5=>?_)
       ·try rw [h5]
        try simp only [rfb] at h5
        have hQ2:=hS.t3 h4 h5
        refine a6 ?_
        refine a1 rfl ?_
        refine a3 rfl rfl (a8 rfl rfl) ?_
        refine a1 rfl ?_
        refine a3 rfl rfl (a8 rfl rfl) ?_
        refine a1 rfl ?_
        refine k6 G 31 rfl rfl rfl rfl rfl rfl rfl rfl ?_
        refine a1 rfl ?_
        refine f7 G np rfl rfl rfl rfl rfl rfl rfl rfl rfl (by simp;omega) rfl rfl ?_
        refine a1 rfl ?_
        refine a3 rfl rfl (a7 rfl rfl) ?_
        refine a4 ?_
        refine hK17 _ ?_
        clear hK17 K17
        refine a6 ?_
        refine a1 rfl ?_
        refine a3 rfl rfl (a8 rfl rfl) ?_
        refine a1 rfl ?_
        first | refine a3 rfl rfl (i8 rfl rfl rfl rfl (by omega) (by omega)) ?_ | refine a3 rfl rfl (k4 rfl rfl rfl rfl) ?_
        refine a1 rfl ?_
        refine a3 rfl rfl (a7 rfl rfl) ?_
        refine m7 (Gh.sub 25 1 np rfl rfl rfl) ?_
        refine m7 (Gh.sub 26 2 np rfl rfl rfl) ?_
        refine m7 (Gh.sub 27 3 np rfl rfl rfl) ?_
        refine m7 (Gh.sub 28 4 np rfl rfl rfl) ?_
        refine m7 (Gh.sub 29 5 np rfl rfl rfl) ?_
        refine a4 ⟨(i+1),?_,?_,⟨⟨_,rfl,by rfl⟩,rfl,⟨⟨_,rfl,by rfl⟩,rfl,trivial⟩⟩,⟨⟨_,rfl,by (first | rfl | (rw [hQ];done) | (rw [hQ1];done) | (rw [hQ2];done) | (rw [hQ2,List.map_append];rfl))⟩,rfl,rfl,⟨⟨_,rfl,by (first | rfl | (rw [hQ];done) | (rw [hQ1];done) | (rw [hQ2];done) | (rw [hQ2,List.map_append];rfl))⟩,rfl,rfl,⟨⟨_,rfl,by (first | rfl | (rw [hQ];done) | (rw [hQ1];done) | (rw [hQ2];done) | (rw [hQ2,List.map_append];rfl))⟩,rfl,rfl,⟨⟨_,rfl,by (first | rfl | (rw [hQ];done) | (rw [hQ1];done) | (rw [hQ2];done) | (rw [hQ2,List.map_append];rfl))⟩,rfl,rfl,⟨⟨_,rfl,by (first | rfl | (rw [hQ];done) | (rw [hQ1];done) | (rw [hQ2];done) | (rw [hQ2,List.map_append];rfl))⟩,rfl,rfl,⟨⟨_,rfl,by (first | rfl | (rw [hQ];done) | (rw [hQ1];done) | (rw [hQ2];done) | (rw [hQ2,List.map_append];rfl))⟩,rfl,rfl,⟨⟨_,rfl,by (first | rfl | (rw [hQ];done) | (rw [hQ1];done) | (rw [hQ2];done) | (rw [hQ2,List.map_append];rfl))⟩,rfl,rfl,trivial⟩⟩⟩⟩⟩⟩⟩,rfl,rfl,rfl⟩
        ·omega
        ·omega
       ·try rw [h5]
        try simp only [rfb] at h5
        have hQ2:=hS.tn h4 h5
        refine e9 ?_
        refine hK17 _ ?_
        clear hK17 K17
        refine a6 ?_
        refine a1 rfl ?_
        refine a3 rfl rfl (a8 rfl rfl) ?_
        refine a1 rfl ?_
        first | refine a3 rfl rfl (i8 rfl rfl rfl rfl (by omega) (by omega)) ?_ | refine a3 rfl rfl (k4 rfl rfl rfl rfl) ?_
        refine a1 rfl ?_
        refine a3 rfl rfl (a7 rfl rfl) ?_
        refine m7 (Gh.sub 25 1 np rfl rfl rfl) ?_
        refine m7 (Gh.sub 26 2 np rfl rfl rfl) ?_
        refine m7 (Gh.sub 27 3 np rfl rfl rfl) ?_
        refine m7 (Gh.sub 28 4 np rfl rfl rfl) ?_
        refine m7 (Gh.sub 29 5 np rfl rfl rfl) ?_
        refine a4 ⟨(i+1),?_,?_,⟨⟨_,rfl,by rfl⟩,rfl,⟨⟨_,rfl,by rfl⟩,rfl,trivial⟩⟩,⟨⟨_,rfl,by (first | rfl | (rw [hQ];done) | (rw [hQ1];done) | (rw [hQ2];done) | (rw [hQ2,List.map_append];rfl))⟩,rfl,rfl,⟨⟨_,rfl,by (first | rfl | (rw [hQ];done) | (rw [hQ1];done) | (rw [hQ2];done) | (rw [hQ2,List.map_append];rfl))⟩,rfl,rfl,⟨⟨_,rfl,by (first | rfl | (rw [hQ];done) | (rw [hQ1];done) | (rw [hQ2];done) | (rw [hQ2,List.map_append];rfl))⟩,rfl,rfl,⟨⟨_,rfl,by (first | rfl | (rw [hQ];done) | (rw [hQ1];done) | (rw [hQ2];done) | (rw [hQ2,List.map_append];rfl))⟩,rfl,rfl,⟨⟨_,rfl,by (first | rfl | (rw [hQ];done) | (rw [hQ1];done) | (rw [hQ2];done) | (rw [hQ2,List.map_append];rfl))⟩,rfl,rfl,⟨⟨_,rfl,by (first | rfl | (rw [hQ];done) | (rw [hQ1];done) | (rw [hQ2];done) | (rw [hQ2,List.map_append];rfl))⟩,rfl,rfl,⟨⟨_,rfl,by (first | rfl | (rw [hQ];done) | (rw [hQ1];done) | (rw [hQ2];done) | (rw [hQ2,List.map_append];rfl))⟩,rfl,rfl,trivial⟩⟩⟩⟩⟩⟩⟩,rfl,rfl,rfl⟩
        ·omega
        ·omega
     ·try rw [h3]
      try simp only [rfb] at h3
      obtain rfl:i=x1.2.length:=(by omega)
      refine B0 ?_
      refine hK13 _ ?_
      clear hK15 K15 hK13 K13
      refine b4 (fun K23 hK23=>?_)
      refine a6 ?_
      refine a1 rfl ?_
      refine a3 rfl rfl (b3 G rfl rfl rfl rfl rfl rfl) ?_
      refine a1 rfl ?_
      refine a3 rfl rfl (b3 G rfl rfl rfl rfl rfl rfl) ?_
      refine a1 rfl ?_
      refine a3 rfl rfl (k5 rfl (ArgsOK.of rfl) (Q2 _ _ (by rw [hE1]) (a7G hA hV (Nat.le_refl _)).big) rfl) ?_
      refine a1 rfl ?_
      refine a3 rfl rfl (a0w rfl rfl) ?_
      refine a1 rfl ?_
      refine a3 rfl rfl (a8 rfl rfl) ?_
      refine c6 rfl rfl rfl ?_
      refine a3 rfl rfl (a8 rfl rfl) ?_
      refine c6 rfl rfl rfl ?_
      refine a3 rfl rfl (a8 rfl rfl) ?_
      refine c6 rfl rfl rfl ?_
      refine a3 rfl rfl (k5 rfl (ArgsOK.of rfl) (T7 _ _ (by rw [hE2]) (by omega)) rfl) ?_
      refine c6 rfl rfl rfl ?_
      refine a3 rfl rfl (a0w rfl rfl) ?_
      refine a1 rfl ?_
      refine a3 rfl rfl (i7 rfl rfl rfl) ?_
      refine a4 ?_
      refine hK23 _ ?_
      clear hK23 K23
      refine B1 rfl ?_
      exact e9 ⟨rfl,rfl,rfl,rfl⟩
   ·try rw [h2]
    try simp only [rfb] at h2
    exact e9 ⟨rfl,rfl,rfl,rfl⟩
  ·skip
   refine b4 (fun K24 hK24=>?_)
   refine a6 ?_
   refine a1 rfl ?_
   refine a3 rfl rfl (a8 rfl rfl) ?_
   refine a1 rfl ?_
   refine d3 66 [] rfl rfl rfl (a0s l hl) rfl RowsIn.nil rfl (fun _=>rfl) rfl (fun x2 ⟨hv2,hc2⟩=>?_)
   refine a1 rfl ?_
   refine a3 rfl rfl (a8 rfl rfl) ?_
   refine a1 rfl ?_
   refine a3 rfl rfl (c9 rfl rfl rfl) ?_
   refine a1 rfl ?_
   refine a3 rfl rfl (c9 rfl rfl rfl) ?_
   refine a1 rfl ?_
   refine a3 rfl rfl (c9 rfl rfl rfl) ?_
   refine a1 rfl ?_
   refine d7 G 67 rfl rfl rfl rfl rfl ?_
   refine a1 rfl ?_
   refine d7 G 68 rfl rfl rfl rfl rfl ?_
   refine a1 rfl ?_
   refine a3 rfl rfl (a7 rfl rfl) ?_
   refine a1 rfl ?_
   refine c5 G rfl rfl rfl rfl rfl rfl rfl rfl rfl rfl rfl ?_
   refine a1 rfl ?_
   refine c5 G rfl rfl rfl rfl rfl rfl rfl rfl rfl rfl rfl ?_
   refine a4 ?_
   refine hK24 _ ?_
   clear hK24 K24
   refine b4 (fun K25 hK25=>?_)
   refine a6 ?_
   refine a1 rfl ?_
   refine a3 rfl rfl (a8 rfl rfl) ?_
   refine a1 rfl ?_
   refine a3 rfl rfl (b3 G rfl rfl rfl rfl rfl rfl) ?_
   refine a1 rfl ?_
   refine a3 rfl rfl (b3 G rfl rfl rfl rfl rfl rfl) ?_
   refine a1 rfl ?_
   refine g8 73 rfl rfl rfl (ArgsOK.of rfl) (I9 _ _ _ hv2.2.small (by have:=hv2.1;omega)) rfl rfl ?_
   refine a1 rfl ?_
   refine a3 rfl rfl (a8 rfl rfl) ?_
   refine a1 rfl ?_
   refine a3 rfl rfl (c9 rfl rfl rfl) ?_
   refine a1 rfl ?_
   refine a3 rfl rfl (c9 rfl rfl rfl) ?_
   refine a1 rfl ?_
   refine a3 rfl rfl (c9 rfl rfl rfl) ?_
   refine a1 rfl ?_
   refine d7 G 74 rfl rfl rfl rfl rfl ?_
   refine a1 rfl ?_
   refine c5 G rfl rfl rfl rfl rfl rfl rfl rfl rfl rfl rfl ?_
   refine a1 rfl ?_
   refine a3 rfl rfl (a7 rfl rfl) ?_
   refine a1 rfl ?_
   refine a3 rfl rfl (a7 rfl rfl) ?_
   refine a4 ?_
   refine hK25 _ ?_
   clear hK25 K25
   refine b0g (nt:=206) (T1:=[(0,.lst 1 (l.map C5))]) (M1:=[]) 120 [0] [] ?_ ?_
   ·skip
    refine b4 (fun K27 hK27=>?_)
    refine a6 ?_
    refine a1 rfl ?_
    refine a3 rfl rfl (a8 rfl rfl) ?_
    refine a1 rfl ?_
    refine a3 rfl rfl (b3 G rfl rfl rfl rfl rfl rfl) ?_
    refine a1 rfl ?_
    refine a3 rfl rfl (b3 G rfl rfl rfl rfl rfl rfl) ?_
    refine a1 rfl ?_
    refine g8 79 rfl rfl rfl (ArgsOK.of rfl) (a1V _ _ _ hv2.2.small (by have:=hv2.1;omega)) rfl rfl ?_
    refine a1 rfl ?_
    refine a3 rfl rfl (a8 rfl rfl) ?_
    refine a1 rfl ?_
    refine a3 rfl rfl (c9 rfl rfl rfl) ?_
    refine a1 rfl ?_
    refine a3 rfl rfl (c9 rfl rfl rfl) ?_
    refine a1 rfl ?_
    refine a3 rfl rfl (c9 rfl rfl rfl) ?_
    refine a1 rfl ?_
    refine d7 G 80 rfl rfl rfl rfl rfl ?_
    refine a1 rfl ?_
    refine c5 G rfl rfl rfl rfl rfl rfl rfl rfl rfl rfl rfl ?_
    refine a1 rfl ?_
    refine a3 rfl rfl (a7 rfl rfl) ?_
    refine a1 rfl ?_
    refine a3 rfl rfl (a7 rfl rfl) ?_
    refine a4 ?_
    refine hK27 _ ?_
    clear hK27 K27
    refine b4 (fun K28 hK28=>?_)
    refine a6 ?_
    refine a1 rfl ?_
    refine a3 rfl rfl (a8 rfl rfl) ?_
    refine a1 rfl ?_
    refine a3 rfl rfl (a8 rfl rfl) ?_
    refine a1 rfl ?_
    refine a3 rfl rfl (a0X (v':=.bool false) (a8C (G 4 _ rfl).1 rfl rfl rfl) (by first | rfl | (simp;done) | (simp [m6,r6];done))) ?_
    refine a1 rfl ?_
    refine a3 rfl rfl (a8 rfl rfl) ?_
    refine c6 rfl rfl rfl ?_
    refine a3 rfl rfl (a8 rfl rfl) ?_
    refine c6 rfl rfl rfl ?_
    refine a3 rfl rfl (a8 rfl rfl) ?_
    refine c6 rfl rfl rfl ?_
    refine a3 rfl rfl (a0X (v':=.bool false) (f9 rfl rfl rfl rfl) (by first | rfl | (simp;done) | (simp [m6,r6];done))) ?_
    refine a1 rfl ?_
    refine a3 rfl rfl (i7 rfl rfl rfl) ?_
    refine a1 rfl ?_
    refine a3 rfl rfl (a8 rfl rfl) ?_
    refine c6 rfl rfl rfl ?_
    refine a3 rfl rfl (b3 G rfl rfl rfl rfl rfl rfl) ?_
    refine c6 rfl rfl rfl ?_
    refine a3 rfl rfl (b3 G rfl rfl rfl rfl rfl rfl) ?_
    refine c6 rfl rfl rfl ?_
    refine a3 rfl rfl (k5 rfl (ArgsOK.of rfl) (Q2 _ _ rfl a7o.big) rfl) ?_
    refine c6 rfl rfl rfl ?_
    refine a3 rfl rfl (a0w rfl rfl) ?_
    refine a1 rfl ?_
    refine a3 rfl rfl (i7 rfl rfl rfl) ?_
    refine a4 ?_
    refine hK28 _ ?_
    clear hK28 K28
    refine B1 rfl ?_
    exact e9 ⟨rfl,rfl,rfl,rfl⟩
   ·skip
    refine b4 (fun K29 hK29=>?_)
    refine a6 ?_
    refine a1 rfl ?_
    refine a3 rfl rfl (a8 rfl rfl) ?_
    refine a1 rfl ?_
    refine d3 126 [] rfl rfl rfl (a1C l hl) rfl RowsIn.nil rfl (fun _=>rfl) rfl (fun x3 ⟨hv3,hc3⟩=>?_)
    refine a1 rfl ?_
    refine a3 rfl rfl (a8 rfl rfl) ?_
    refine a1 rfl ?_
    refine a3 rfl rfl (c9 rfl rfl rfl) ?_
    refine a1 rfl ?_
    refine a3 rfl rfl (c9 rfl rfl rfl) ?_
    refine a1 rfl ?_
    refine a3 rfl rfl (c9 rfl rfl rfl) ?_
    refine a1 rfl ?_
    refine d7 G 127 rfl rfl rfl rfl rfl ?_
    refine a1 rfl ?_
    refine a3 rfl rfl (a7 rfl rfl) ?_
    refine a1 rfl ?_
    refine c5 G rfl rfl rfl rfl rfl rfl rfl rfl rfl rfl rfl ?_
    refine a1 rfl ?_
    refine a3 rfl rfl (a7 rfl rfl) ?_
    refine a4 ?_
    refine hK29 _ ?_
    clear hK29 K29
    refine b4 (fun K30 hK30=>?_)
    refine a6 ?_
    refine a1 rfl ?_
    refine a3 rfl rfl (a8 rfl rfl) ?_
    refine a1 rfl ?_
    refine a3 rfl rfl (b3 G rfl rfl rfl rfl rfl rfl) ?_
    refine a1 rfl ?_
    refine a3 rfl rfl (a8 rfl rfl) ?_
    refine a1 rfl ?_
    refine a3 rfl rfl (k5 rfl (ArgsOK.of rfl) (a3R _ _ _ hv3.2.small (by have:=hv3.1;omega)) rfl) ?_
    refine a1 rfl ?_
    refine a3 rfl rfl (a8 rfl rfl) ?_
    refine a1 rfl ?_
    refine a3 rfl rfl (c9 rfl rfl rfl) ?_
    refine a1 rfl ?_
    refine a3 rfl rfl (c9 rfl rfl rfl) ?_
    refine a1 rfl ?_
    refine a3 rfl rfl (a7 rfl rfl) ?_
    refine a1 rfl ?_
    refine a3 rfl rfl (a7 rfl rfl) ?_
    refine a4 ?_
    refine hK30 _ ?_
    clear hK30 K30
    refine b4 (fun K31 hK31=>?_)
    refine b4 (fun K32 hK32=>?_)
    refine a6 ?_
    refine a1 rfl ?_
    refine a3 rfl rfl (a8 rfl rfl) ?_
    refine a1 rfl ?_
    refine a3 rfl rfl (b3 G rfl rfl rfl rfl rfl rfl) ?_
    refine a1 rfl ?_
    refine a3 rfl rfl (a8 rfl rfl) ?_
    refine a1 rfl ?_
    refine a3 rfl rfl (k5 rfl (ArgsOK.of rfl) (a3S _ _ _ hv3.2.small (by have:=hv3.1;omega)) rfl) ?_
    refine a1 rfl ?_
    refine a3 rfl rfl (a8 rfl rfl) ?_
    refine a1 rfl ?_
    refine a3 rfl rfl (c9 rfl rfl rfl) ?_
    refine a1 rfl ?_
    refine a3 rfl rfl (c9 rfl rfl rfl) ?_
    refine a1 rfl ?_
    refine a3 rfl rfl (a7 rfl rfl) ?_
    refine a1 rfl ?_
    refine a3 rfl rfl (a7 rfl rfl) ?_
    refine a4 ?_
    refine hK32 _ ?_
    clear hK32 K32
    refine b4 (fun K33 hK33=>?_)
    refine a6 ?_
    refine a1 rfl ?_
    refine a3 rfl rfl (a8 rfl rfl) ?_
    refine a1 rfl ?_
    refine a3 rfl rfl (a8 rfl rfl) ?_
    refine a1 rfl ?_
    refine a3 rfl rfl (a0X (v':=.bool false) (f9 rfl rfl rfl rfl) (by first | rfl | (simp;done) | (simp [m6,r6];done))) ?_
    refine a1 rfl ?_
    refine a3 rfl rfl (a8 rfl rfl) ?_
    refine c6 rfl rfl rfl ?_
    refine a3 rfl rfl (a8 rfl rfl) ?_
    refine c6 rfl rfl rfl ?_
    refine a3 rfl rfl (a8 rfl rfl) ?_
    refine c6 rfl rfl rfl ?_
    refine a3 rfl rfl (a0X (v':=.bool false) (a8C (G 4 _ rfl).1 rfl rfl rfl) (by first | rfl | (simp;done) | (simp [m6,r6];done))) ?_
    refine a1 rfl ?_
    refine a3 rfl rfl (i7 rfl rfl rfl) ?_
    refine a4 ?_
    refine hK33 _ ?_
    clear hK33 K33
    refine B1 rfl ?_
    refine e9 ?_
    refine hK31 _ ?_
    clear hK31 K31
    refine b4 (fun K34 hK34=>?_)
    refine b4 (fun K35 hK35=>?_)
    refine a6 ?_
    refine a1 rfl ?_
    refine a3 rfl rfl (a8 rfl rfl) ?_
    refine a4 ?_
    refine hK35 _ ?_
    clear hK35 K35
    refine d1 rfl (fun h6=>?_) (fun h6=>?_)
    ·try rw [h6]
     try simp only [rfb] at h6
     have hX1:=b4B h6
     have hX2:=(b1h h6).1
     refine b4 (fun K36 hK36=>?_)
     refine a6 ?_
     refine a1 rfl ?_
     refine a3 rfl rfl (a8 rfl rfl) ?_
     refine a1 rfl ?_
     refine a3 rfl rfl (b3 G rfl rfl rfl rfl rfl rfl) ?_
     refine a1 rfl ?_
     refine a3 rfl rfl (a8 rfl rfl) ?_
     refine a1 rfl ?_
     refine a3 rfl rfl (g0 G rfl rfl rfl rfl) ?_
     refine a1 rfl ?_
     refine g8 132 rfl rfl rfl (ArgsOK.of rfl) (I9 _ _ ⟨3,0,x3.2,0⟩ hv3.2.small (by have:=hv3.1;omega)) rfl rfl ?_
     refine a1 rfl ?_
     refine a3 rfl rfl (a8 rfl rfl) ?_
     refine a1 rfl ?_
     refine a3 rfl rfl (c9 rfl rfl rfl) ?_
     refine a1 rfl ?_
     refine a3 rfl rfl (c9 rfl rfl rfl) ?_
     refine a1 rfl ?_
     refine a3 rfl rfl (c9 rfl rfl rfl) ?_
     refine a1 rfl ?_
     refine d7 G 133 rfl rfl rfl rfl rfl ?_
     refine a1 rfl ?_
     refine c5 G rfl rfl rfl rfl rfl rfl rfl rfl rfl rfl rfl ?_
     refine a1 rfl ?_
     refine a3 rfl rfl (a7 rfl rfl) ?_
     refine a1 rfl ?_
     refine a3 rfl rfl (a7 rfl rfl) ?_
     refine a4 ?_
     refine hK36 _ ?_
     clear hK36 K36
     refine b4 (fun K37 hK37=>?_)
     refine a6 ?_
     refine a1 rfl ?_
     refine a3 rfl rfl (a8 rfl rfl) ?_
     refine a1 rfl ?_
     refine a3 rfl rfl (a8 rfl rfl) ?_
     refine a1 rfl ?_
     refine a3 rfl rfl (f9 rfl rfl rfl rfl) ?_
     refine a1 rfl ?_
     refine a3 rfl rfl (a0X (v':=.bool true) (b32 (G 4 _ rfl).1 rfl rfl rfl) (by first | rfl | (simp [hX1];done) | (simp [(hX2 h7).2];done) | (rw [hX1];simp;done))) ?_
     refine a1 rfl (a3 rfl rfl (a8 rfl rfl) (c6 rfl rfl rfl (a3 rfl rfl (a8 rfl rfl) (c6 rfl rfl rfl (a3 rfl rfl (C2 rfl rfl) (c6 rfl rfl rfl (a3 rfl rfl (a8 rfl rfl) (o8 rfl rfl rfl (fun h7=>?_) (fun h7=>?_)))))))))
     ·try rw [h7]
      try simp only [rfb] at h7
      refine b6 rfl rfl rfl rfl rfl rfl ?_
      refine b6 rfl rfl rfl rfl rfl rfl ?_
      refine b6 rfl rfl rfl rfl rfl rfl ?_
      refine c6 rfl rfl rfl ?_
      refine a3 rfl rfl (i5 rfl rfl rfl) ?_
      refine a1 rfl ?_
      refine a3 rfl rfl (i5 rfl rfl rfl) ?_
      refine a1 rfl ?_
      refine a3 rfl rfl (a7 rfl rfl) ?_
      refine a4 ?_
      refine hK37 _ ?_
      clear hK37 K37
      refine c8 ?_
      refine j4 rfl ?_
      refine g9 ?_
      all_goals clear hK34 K34
      all_goals (first | rfl | (simp_all;done))
     ·try rw [h7]
      try simp only [rfb] at h7
      refine c6 rfl rfl rfl ?_
      refine a3 rfl rfl (a8 rfl rfl) ?_
      refine c6 rfl rfl rfl ?_
      refine a3 rfl rfl (a8 rfl rfl) ?_
      refine c6 rfl rfl rfl ?_
      refine a3 rfl rfl (a0X (v':=.bool true) (f9 rfl rfl rfl rfl) (by first | rfl | (simp [hX1];done) | (simp [(hX2 h7).2];done) | (rw [hX1];simp;done))) ?_
      refine c6 rfl rfl rfl ?_
      refine a3 rfl rfl (i7 rfl rfl rfl) ?_
      refine a1 rfl ?_
      refine a3 rfl rfl (i5 rfl rfl rfl) ?_
      refine a1 rfl ?_
      refine a3 rfl rfl (a7 rfl rfl) ?_
      refine a4 ?_
      refine hK37 _ ?_
      clear hK37 K37
      refine c8 ?_
      refine j4 rfl ?_
      refine g9 ?_
      all_goals clear hK34 K34
      all_goals (first | rfl | (simp_all;done))
    ·try rw [h6]
     try simp only [rfb] at h6
     refine e9 ?_
     refine hK34 _ ?_
     clear hK34 K34
     refine b4 (fun K38 hK38=>?_)
     refine a6 ?_
     refine a1 rfl ?_
     refine a3 rfl rfl (a7 rfl rfl) ?_
     refine a4 ?_
     refine hK38 _ ?_
     clear hK38 K38
     refine c8 ?_
     refine j4 rfl ?_
     refine g9 ?_
     all_goals (first | rfl | (simp_all;done))
end Go.Proofs.YtcnodpipinlpcaaGreat
