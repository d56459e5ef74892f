/- Texts merged into one: W6, W7, M24, M26, D3, D4. -/
import Derived.Test.YtcnodpipinlpcaaGreatPFnRefinementD
set_option maxHeartbeats 4000000
set_option linter.unusedSimpArgs false
set_option linter.unusedVariables false
set_option maxRecDepth 20000
namespace Go.Proofs.YtcnodpipinlpcaaGreat
open Go Go.Rf
theorem a1R:M7 Tryz.prog 40 [.int .i64,.int .i64,.int .i64,.int .i64]=true:=by kernel_rfl
theorem T6 (yss:List (List CI)) (c:Int) (hn:yss.length<=1048576):Ctr Tryz.prog 158 [.agg [.v (.slice none 0 0),.v (.slice none 0 0),.v (.slice none 0 0),.nst none 4 yss],.v (.int .i64 c)] (.one (.v (.bool (s1 c 0 ((yss.length:Int) - 1))))):=by
 exact c0l
theorem a5D (yss:List (List CI)) (s:MStep) (hn:yss.length<=1048576):Ctr Tryz.prog 106 [.agg [.v (.slice none 0 0),.v (.slice none 0 0),.v (.slice none 0 0),.nst none 4 yss],.v (a0R s)] (.one (.v (.bool (s4 yss.length s)))):=by
 refine Ctr.of (n:=75) G Tryz.func106 Z a6 Z Z Z (λw0=>?_)
 refine j8 0 Z (λ_=>Z) (λu0=>?_)
 refine w8 ?_
 refine a3c ?_
 refine zcd (λh1=>?_) (λh1=>?_)
 ·refine zcl (N5 _) ?_
  exact b97
 refine zcd (λh4=>?_) (λh4=>?_)
 ·refine m3 ?_
  refine b7 Z Z (b8b [.int .i64,.int .i64,.int .i64,.int .i64] Z Z Z Z Z Z Z (.inl Z) (.inl Z) a1R ⟨_,_,Z,⟨_,Z⟩,_,_,Z,⟨_,Z⟩,_,_,Z,⟨_,Z⟩,_,_,Z,⟨_,Z⟩,Z⟩ ⟨_,_,Z,⟨_,Z⟩,_,_,Z,⟨_,Z⟩,_,_,Z,⟨_,Z⟩,_,_,Z,⟨_,Z⟩,Z⟩) ?_
  exact ws6
 refine zcd (λh5=>?_) (λh5=>?_)
 ·refine zwt ?_
  exact c0L
 refine zcd (λh8=>?_) (λh8=>?_)
 ·exact c0L
 refine zcd (λh11=>?_) (λh11=>?_)
 ·refine zcd (λh12=>?_) (λh12=>?_)
  ·refine zcl (T6 _ _ b3m) ?_
   exact c0A
  exact ws6
 exact c0m
theorem a79 (yss:List (List CI)) (s:MStep) (hn:yss.length<=1048576):Ctr Tryz.prog 134 [.agg [.v (.slice none 0 0),.v (.slice none 0 0),.v (.slice none 0 0),.nst none 4 yss],.v (a0R s)] (.one (.v (.bool (s4 yss.length s)))):=by
 exact b93
theorem a2C (a:Abs) (s:MStep) (hs:SmallA a):Ctr Tryz.prog 55 [.agg [.lst 1 (a.en.map e7),.lst 1 (a.ra.map e7),.lst 1 (a.po.map e7),.lst 1 (a.ma.map Rf.l8),.nst none 1 (a.st.map p8)],.v (a0R s)] (.one (.v (.bool (s4 a.ma.length s)))):=by
 have hma:=hs.ma
 refine Ctr.of (n:=12) G Tryz.func55 Z a6 Z Z Z (λw0=>?_)
 refine j8 0 Z (λ_=>Z) (λu0=>?_)
 refine w8 ?_
 refine a3c ?_
 refine zgn ?_
 refine p7 (d7 8 [0,1] mixed a6 Z Z (λr0=>?_) (λ_ h=>h))
 refine a32 ?_
 refine zsa 5 ?_
 refine b6 (rs:=[3]) a6 Z (AllB.cons ?_ AllB.nil)
 refine c7 [0,1] Z Z (b2o (n:=a.ma.length) G 3 Z Z Z Z Z Z Z (by first | rfl | simp) (by first | rfl | simp) J J<|m6 (Gh.nest (id:=2) (yss:=List.replicate (a.ma.length) [.v (.int .i64 0),.l 3 1 [],.l 154 3 [],.l 183 2 []]) Z (by simp) (a2r (.v (.s (.s (.s .nil)))))) (a8 ⟨Z,?_⟩))
 refine b6 (rs:=[4]) a6 Z (AllB.cons ?_ AllB.nil)
 refine c8 [0,1] Z Z ?_
 refine F6 ?_
 refine b6 (rs:=[6]) a6 Z (AllB.cons ?_ AllB.nil)
 refine c8 [0,1] Z Z (b7 Z Z (l9 Z (ArgsOK.of Z) (a5D _ _ b3m) Z) (a8 ⟨Z,?_⟩))
 refine zsa 7 ?_
 refine vm6 ?_
 refine zf1 ?_
 all_goals (simp)
theorem a8a (n:Nat) (s:MStep) (hn:n<=1048576):Ctr Tryz.prog 64 [.v (.int .i64 (n:Int)),.v (a0R s)] (.one (.v (.bool (s4 n s)))):=by
 refine Ctr.of (n:=10) G Tryz.func64 Z a6 Z Z Z (λw0=>?_)
 refine w8 ?_
 refine zgn ?_
 refine p7 (d7 6 [0] mixed a6 Z Z (λr0=>?_) (λ_ h=>h))
 refine zsa 0 ?_
 refine zsa 3 ?_
 refine b6 (rs:=[1]) a6 Z (AllB.cons ?_ AllB.nil)
 refine c7 [0] Z Z (b2o (n:=n) G 2 Z Z Z Z Z Z Z (by first | rfl | simp) (by first | rfl | simp) J J<|m6 (Gh.nest (id:=1) (yss:=List.replicate (n) [.v (.int .i64 0),.l 3 1 [],.l 154 3 [],.l 183 2 []]) Z (by simp) (a2r (.v (.s (.s (.s .nil)))))) (a8 ⟨Z,?_⟩))
 refine b6 (rs:=[2]) a6 Z (AllB.cons ?_ AllB.nil)
 refine a6C ?_
 refine b6 (rs:=[4]) a6 Z (AllB.cons ?_ AllB.nil)
 refine c8 [0] Z Z (b7 Z Z (l9 Z (ArgsOK.of Z) (a79 _ _ b3m) Z) (a8 ⟨Z,?_⟩))
 refine zsa 5 ?_
 refine vm6 ?_
 refine zf1 ?_
 all_goals (simp)
theorem a2m (l:List Int) (v:Int) (hn:l.length<=1048576):Ctr Tryz.prog 177 [.lst 1 (l.map Rf.l8),.v (.int .i64 v)] (.one (.v (.int .i64 (I0 (λj=>decide (v=l.getD j default)) l.length)))):=by
 refine Ctr.of (n:=19) G Tryz.func177 Z a6 Z Z Z (λw0=>?_)
 refine zgo ?_
 refine f6 [0,1,7] [] (λ(i:Nat)=>[(8,.v (.int .i64 (i:Int)))]) (λ(i:Nat)=>[]) (λ(i:Nat)=>i<=l.length/\∀j,j < i→decide (v=l.getD j default)=false) (λ(i:Nat)=>l.length - i) 0 Z Z ?_ ?_ ?_ ?_
 ·exact P3
 ·exact u3
 ·exact trivial
 intro i hinv
 refine vm2 ?_
 refine zcd (λh1=>?_) (λh1=>?_)
 ·refine zcd (λh2=>?_) (λh2=>?_)
  ·refine zf1 ?_
   all_goals exact b84
  exact c4e
 refine zf1 ?_
 all_goals exact b84
theorem N7 (l:List Int) (v:Int) (hn:l.length<=1048576):Ctr Tryz.prog 129 [.lst 1 (l.map Rf.l8),.v (.int .i64 v)] (.one (.v (.bool (a48 l v)))):=by
 refine Ctr.of (n:=9) G Tryz.func129 Z a6 Z Z Z (λw0=>?_)
 refine zcl (a2m _ _ a9b) ?_
 refine zf1 ?_
 all_goals (simp only [a48];rw [a69])
theorem Z6 (l:List Int) (v:Int) (hn:l.length<=1048576):Ctr Tryz.prog 180 [.lst 1 (l.map Rf.l8),.v (.int .i64 v)] (.one (.v (.bool (a48 l v)))):=by
 refine Ctr.of (n:=18) G Tryz.func180 Z a6 Z Z Z (λw0=>?_)
 refine zgo ?_
 refine f6 [0,1] [] (λ(i:Nat)=>[(5,.v (.int .i64 (i:Int)))]) (λ(i:Nat)=>[]) (λ(i:Nat)=>i<=l.length/\∀j,j < i→decide (v=l.getD j default)=false) (λ(i:Nat)=>l.length - i) 0 Z Z ?_ ?_ ?_ ?_
 ·exact P3
 ·exact u3
 ·exact trivial
 intro i hinv
 refine vm2 ?_
 refine zcd (λh1=>?_) (λh1=>?_)
 ·refine zcd (λh2=>?_) (λh2=>?_)
  ·refine zf1 ?_
   all_goals exact b85
  exact c4e
 refine zf1 ?_
 all_goals exact b85
theorem a8b (rs:List Route) (a:Abs) (hF:AbsF rs a):Ctr Tryz.prog 133 [.lst 2 (rs.map n6),.agg [.lst 1 (a.en.map e7),.lst 1 (a.ra.map e7),.lst 1 (a.po.map e7),.lst 1 (a.ma.map Rf.l8),.nst none 1 (a.st.map p8)]] (.shp true [some 5] [.fr 4 1 ((a6w rs a).en.map e7),.fr 4 1 ((a6w rs a).ra.map e7),.fr 4 1 ((a6w rs a).po.map e7),.fr 3 1 ((a6w rs a).ma.map Rf.l8),.ne 26 1 ((a6w rs a).st.map p8)]):=by
 have f0:=hF.n
 have f1:=hF.rn
 have f2:=hF.st
 have f3:=hF.en
 have f4:=hF.ra
 have f5:=hF.po
 have fm:=hF.rt
 have fs:=hF.small
 refine Ctr.of (n:=48) G Tryz.func133 Z a6 Z Z Z (λw0=>?_)
 refine j8 1 Z (λ_=>Z) (λu1=>?_)
 refine I2 ?_
 refine vm1 ?_
 refine vm7 ?_
 refine zgn ?_
 refine I2 ?_
 refine zst ?_
 refine vm4 ?_
 refine c4 7 Z Z Z (ArgsOK.of Z) (a34 a fs) Z Z ?_
 refine vm4 ?_
 refine b1g ?_
 refine zgn ?_
 refine zgn ?_
 refine r7 (f6 [0,3,4,5] [0,1,2,5,6,7] (λ(i:Nat)=>[(6,.v (.int .i64 (i:Int)))]) (λ(i:Nat)=>[(3,some (.row 4 1 ((a1A rs a i).map e7))),(4,some (.row 4 1 ((a0S rs a i).map e7)))]) (λ(i:Nat)=>i<=8) (λ(i:Nat)=>8 - i) 0 Z Z ?_ ?_ ?_ ?_)
 ·exact H0
 ·exact u3
 ·exact b0c
 intro i hinv
 have e1:=@Q2 rs a i
 have e2:=@I7 rs a i
 have fq:=λh=>hF.rt i h
 refine vm2 ?_
 refine zgn ?_
 refine o7 Z (λh1=>?_) (λh1=>?_)
 ·try rw [h1]
  try simp only [rfb] at h1
  refine b6q ?_
  refine a57 ?_
  refine Q6 Z Z Z (λh2=>?_) (λh2=>?_)
  ·try rw [h2]
   try simp only [rfb] at h2
   iterate 7 refine zst ?_
   refine Q6 Z Z Z (λh3=>?_) (λh3=>?_)
   ·try rw [h3]
    try simp only [rfb] at h3
    iterate 8 refine zst ?_
    refine a2j ?_
    refine a8n ?_
    refine zst ?_
    refine a2j ?_
    refine r9 Z Z (l9 Z (ArgsOK.of Z) (Z6 _ _ (Nat.le_trans (hF.len _ (by have:=hF.rt i J;omega)) (by decide))) Z) ?_
    refine zgn ?_
    refine o7 Z (λh4=>?_) (λh4=>?_)
    ·try rw [h4]
     try simp only [rfb] at h4
     refine p7 ?_
     refine c3t ?_
     refine zgn ?_
     refine c3t ?_
     exact b3D
    try rw [h4]
    try simp only [rfb] at h4
    exact b3D
   try rw [h3]
   try simp only [rfb] at h3
   refine zgn ?_
   refine C2 Z ?_
   exact b3D
  try rw [h2]
  try simp only [rfb] at h2
  refine zgn ?_
  refine C2 Z ?_
  exact b3D
 try rw [h1]
 try simp only [rfb] at h1
 refine zgn ?_
 refine zgn ?_
 refine g8 (m5 Z Z Z Z (a7 (b8 Z ?_) (a7 (b8 Z ?_) (a7 (b8 Z ?_) (a7 (b8 Z ?_) (a7 (t8 Z ?_) d5))))))
 all_goals (first | rfl | (have e8:i=8:=J;subst e8;rfl))
theorem a8c (m:Mach) (hM:MaG m):Ctr Tryz.prog 155 [.agg [.lst 2 (m.rs.map n6),.lst 1 (m.en.map e7),.lst 1 (m.ra.map e7),.nst none 4 (m.cp.map (r3 154 183))]] (.shp true [some 4] [.fr 118 2 ((a7T m).rs.map n6),.fr 4 1 ((a7T m).en.map e7),.fr 4 1 ((a7T m).ra.map e7),.ne 113 4 ((a7T m).cp.map (r3 154 183))]):=by
 have f1:=hM.n
 have f2:=hM.en
 have f3:=hM.ra
 have f4:=hM.rn
 refine Ctr.of (n:=63) G Tryz.func155 Z a6 Z Z Z (λw0=>?_)
 refine j8 0 Z (λ_=>Z) (λu0=>?_)
 refine L6 ?_
 refine m3 ?_
 refine c4 6 Z Z Z (ArgsOK.of Z) (a1m m hM) Z Z ?_
 refine vm4 ?_
 refine b1h ?_
 refine zgo ?_
 refine f6 [1,2,3] [0,1,2,3,6] (λ(i:Nat)=>[(4,.v (.int .i64 (i:Int)))]) (λ(i:Nat)=>[(4,some (.row 4 1 ((a4q m i).map e7))),(5,some (.nest 113 4 ((L5 m i).map (r3 154 183)) []))]) (λ(i:Nat)=>i<=8) (λ(i:Nat)=>8 - i) 0 Z Z ?_ ?_ ?_ ?_
 ·exact H0
 ·exact R7
 ·exact b0c
 intro i hi
 have hrl:=@a26 m i
 have hcl:=@E8 m i
 have htg:=λh=>hM.tg (i:=i) h
 refine vm2 ?_
 refine zcd (λh1=>?_) (λh1=>?_)
 ·obtain ⟨hta,htb,htc⟩:=htg J
  obtain ⟨hst,hIG⟩:=a5p hM (i:=i) (k:=tgM m i) J htb
  have htd:tgM m i < m.cp.length:=htb
  refine zcd (λh2=>?_) (λh2=>?_)
  ·refine zcd (λh3=>?_) (λh3=>?_)
   ·refine zgo ?_
    refine S9 ?_
    refine b7 Z Z (Q9 G Z Z Z Z) ?_
    refine S9 ?_
    refine a4t ?_
    refine zcl (Z6 (m.cp.getD (tgM m i) default).st _ (by have:=(hM.ok _ htd).f.sn;omega)) ?_
    refine zcd (λh4=>?_) (λh4=>?_)
    ·have hcn:=b5L (m:=m) (i:=i) h2 h3 h4
     refine c3z ?_
     refine A7 (Gh.open (id:=5) (i:=(tgM m i)) (k:=1) 8 Z Z (c1w J) Z Z) (A7 (Gh.open (id:=5) (i:=(tgM m i)) (k:=2) 9 Z Z (C9 I1 Z) Z Z) (A7 (Gh.open (id:=5) (i:=(tgM m i)) (k:=3) 10 Z Z (C9 I1 Z) Z Z) (d7 18 [0,1,2,3,4,6,7,8,9] mixed a6 Z Z (λr0=>?_) (λ_ h=>h))))
     refine C5 ?_
     refine Q4 ?_
     refine zsa 8 ?_
     refine zsa 9 ?_
     refine zsa 10 ?_
     refine zsa 11 ?_
     refine zsa 12 ?_
     refine zsa 13 ?_
     refine zsa 14 ?_
     refine b6 (rs:=[6]) a6 Z (AllB.cons ?_ AllB.nil)
     first | refine c7 [0,1,2,3,4,6,7,8,9] Z Z (b7 Z Z (d8 G Z Z Z Z Z J O4) (a8 ⟨Z,?_⟩)) | refine c7 [0,1,2,3,4,6,7,8,9] Z Z (b7 Z Z (d8 G Z Z Z Z Z J I1) (a8 ⟨Z,?_⟩))
     refine b6 (rs:=[7]) a6 Z (AllB.cons ?_ AllB.nil)
     refine c8 [0,1,2,3,4,6,7,8,9] Z Z (b7 Z Z (H4 G Z Z Z Z (C9 I1 Z) Z (.v (.own a2s (.own a2s (.own a2s .nil))))) (a8 ⟨Z,?_⟩))
     refine b6 (rs:=[15]) a6 Z (AllB.cons ?_ AllB.nil)
     refine c8 [0,1,2,3,4,6,7,8,9] Z Z (c4 13 Z Z Z (ArgsOK.of Z) (E5 ((L5 m i).getD (tgM m i) default) _ _ hIG.f J htc) Z Z (a8 ⟨Z,?_⟩))
     refine a2q (Gh.detach (id:=5) Z) (a2q (Gh.detach (id:=5) Z) (a2q (Gh.detach (id:=5) Z) (b6 (rs:=[16]) a6 Z (AllB.cons ?_ AllB.nil))))
     first | refine c7 [0,1,2,3,4,6,7,8,9] Z Z (b7 Z Z (d8 G Z Z Z Z Z J O4) (a8 ⟨Z,?_⟩)) | refine c7 [0,1,2,3,4,6,7,8,9] Z Z (b7 Z Z (d8 G Z Z Z Z Z J I1) (a8 ⟨Z,?_⟩))
     refine b6 (rs:=[17]) a6 Z (AllB.cons ?_ AllB.nil)
     refine c8 [0,1,2,3,4,6,7,8,9] Z Z (j6 G Z Z Z Z Z (C9 I1 Z) Z Z (.v Z (.own Z (.own Z (.own Z .nil)))) Z Z Z (Nat.le_of_ble_eq_true Z) (λq h=>by cases h) Z (a8 ⟨Z,?_⟩))
     refine vm6 ?_
     exact b7Z
    have hcn:=b5O (m:=m) (i:=i) h4
    exact b7Z
   have hcn:=b5N (m:=m) (i:=i) h3
   refine zwf ?_
   exact b7Z
  have hcn:=b5M (m:=m) (i:=i) h2
  refine zwf ?_
  exact b7Z
 obtain rfl:i=8:=J
 refine zgo ?_
 refine g8 (m5 Z Z Z Z (a7 (b8 Z ?_) (a7 (b8 Z ?_) (a7 (b8 Z ?_) (a7 (t8 Z ?_) d5)))))
 all_goals (rfl)
theorem a6Z (z:Value) (sl:List Slot) (lim:Int) (hF:SlF sl) (hk:U4 sl lim=false):Ctr Tryz.prog 181 [.pin z 3 (sl.map f9),.v (.int .i64 lim)] (.many [.v z,.v (.int .i64 (-1))]):=by
 have hl4:=hF.len
 have hb:=@Z1 sl true
 have hf:=@a0l sl
 have hkk:=a3C.mp hk
 refine Ctr.of (n:=33) G Tryz.func181 Z a6 Z Z Z (λw0=>?_)
 refine zcl (Y0 sl J) ?_
 refine zcd (λh1=>?_) (λh1=>?_)
 ·refine zwt ?_
  exact b9T
 refine zgo ?_
 refine S9 ?_
 first | refine b7 Z Z (a0N G Z Z Z Z J (a2S J)) ?_ | refine b7 Z Z (a0N G Z Z Z Z J (C7 J J)) ?_ | refine b7 Z Z (a0N G Z Z Z Z J (w9 J J)) ?_
 refine zcd (λh2=>?_) (λh2=>?_)
 ·exact b9T
 exfalso;omega
theorem a1S (q:Que) (lim:Int) (hF:QF q) (hk:U4 q.sl lim=false):Ctr Tryz.prog 135 [.agg [.lst 3 (q.sl.map f9),.lst 2 (q.wa.map i5)],.v (.int .i64 lim)] (.shp false [some 2,none] [.fr 154 3 (q.sl.map f9),.fr 183 2 (q.wa.map i5),.v (.int .i64 (-1))]):=by
 have hl4:=hF.sl.len
 have hwn:=hF.wn
 refine Ctr.of (n:=24) G Tryz.func135 Z a6 Z Z Z (λw0=>?_)
 refine j8 0 Z (λ_=>Z) (λu0=>?_)
 refine L6 ?_
 refine zgo ?_
 refine b7D (t:=10) Z (λz10=>?_)
 refine vm4 ?_
 refine b7 Z Z (l9 Z (ArgsOK.pin1 Z (ArgsOK.of Z)) (a6Z _ q.sl lim hF.sl hk) Z) ?_
 refine zgn ?_
 refine p7 (A7 (Gh.asPin (d:=6) (t:=10) Z Z) (d7 11 [0] mixed a6 Z Z (λr0=>?_) (λ_ h=>h)))
 refine zsa 1 ?_
 refine Q4 ?_
 refine zsa 8 ?_
 refine r8 (N:=4) Z (m8 (fuel:=5) [⟨0,15,2,false,.row 154 3 []⟩,⟨3,18,3,false,.row 183 2 []⟩] (AllVOK.cons (VOK.lit G Z Z Z Z Z) (AllVOK.cons (VOK.lit G Z Z Z Z Z) (AllVOK.nil))) (λhok=>?_))
 refine i7 [(2,[0])] a6 a6 (λe he=>hok e he) a6 (AllVS.cons ?_ AllVS.nil)
 refine VStep.mk1 [0] 15 (.own 2) 2 (.row 154 3 []) [⟨3,18,3,false,.row 183 2 []⟩] Z Z Z Z Z (λb1 _ hbn=>i6 G C1 Z Z Z Z Z Z Z Z Z g0 Z Z (a8 Z)) a6 a6 a6 a6 (i7 [(6,[3])] a6 a6 (λe he=>hok e (vin (is:=[0]) Z he)) a6 (AllVS.cons ?_ AllVS.nil))
 refine VStep.mk1 [0] 18 (.own 3) 3 (.row 183 2 []) [] Z Z Z Z Z (λb1 _ hbn=>i6 G C1 Z Z Z Z Z Z Z Z Z g0 Z Z (a8 Z)) a6 a6 a6 a6 (w6 ?_)
 clear hok
 refine b6 (rs:=[7]) a6 Z (AllB.cons ?_ AllB.nil)
 refine a6C ?_
 refine b6 (rs:=[9]) a6 Z (AllB.cons ?_ AllB.nil)
 refine a6C ?_
 refine zsa 10 ?_
 refine vm6 ?_
 refine g8 (m5 Z Z Z Z (a7 (b8 Z ?_) (a7 (b8 Z ?_) (a7 (p5 ?_) d5))))
 all_goals (first | rfl | simp)
theorem a05 (x:Ifc) (hF:IfF x) (hk:okT x=false):Ctr Tryz.prog 73 [.agg [.v (.int .i64 x.ma),.lst 1 (x.st.map Rf.l8),.lst 3 (x.qu.sl.map f9),.lst 2 (x.qu.wa.map i5)]] (.shp false [some 4,none] [.v (.int .i64 x.ma),.fr 3 1 (x.st.map Rf.l8),.fr 154 3 (x.qu.sl.map f9),.fr 183 2 (x.qu.wa.map i5),.v (.int .i64 (-1))]):=by
 have hl4:=hF.qu.sl.len
 have hwn:=hF.qu.wn
 have hsn:=hF.sn
 refine Ctr.of (n:=35) G Tryz.func73 Z a6 Z Z Z (λw0=>?_)
 refine j8 0 Z (λ_=>Z) (λu0=>?_)
 refine L6 ?_
 refine zgn ?_
 refine p7 (d7 14 [0,1] mixed a6 Z Z (λr0=>?_) (λ_ h=>h))
 refine C5 ?_
 refine zsa 4 ?_
 refine r8 (N:=3) Z (m8 (fuel:=8) [⟨11,4,2,true,.box (avR [.slice none 0 0,.slice none 0 0] [])⟩] (AllVOK.cons (VOK.boxS G Z Z Z Z Z) (AllVOK.nil)) (λhok=>?_))
 refine i7 [(5,[])] a6 a6 (λe he=>hok e he) a6 (AllVS.cons ?_ AllVS.nil)
 refine VStep.mk0 [0,1] Z Z (λb1 _ hbn=>b7 Z Z (l9 Z (ArgsOK.of Z) (a03 x hF) Z) (a8 Z)) a6 a6 a6 a6 (i7 [(6,[])] a6 a6 (λe he=>hok e he) a6 (AllVS.cons ?_ AllVS.nil))
 refine VStep.mk0 [0,1] Z Z (λb1 _ hbn=>b7 Z Z (l9 Z (ArgsOK.of Z) (a3f _ _) Z) (a8 Z)) a6 a6 a6 a6 (i7 [(7,[])] a6 a6 (λe he=>hok e he) a6 (AllVS.cons ?_ AllVS.nil))
 refine VStep.mk0 [0,1] Z Z (λb1 _ hbn=>c4 5 Z Z Z (ArgsOK.of Z) (a1S x.qu (b33 x) hF.qu hk) Z Z (a8 Z)) a6 a6 a6 a6 (l6 8 Z a6 Z Z Z Z (d3 Z Z) a6 a6 a6 (l6 9 Z a6 Z Z Z Z (d4 Z Z Z) a6 a6 a6 (l6 10 Z a6 Z Z Z Z (d4 Z Z Z) a6 a6 a6 (i7 [(12,[11])] a6 a6 (λe he=>hok e he) a6 (AllVS.cons ?_ AllVS.nil)))))
 refine c3y ?_
 clear hok
 refine zsa 13 ?_
 refine vm6 ?_
 refine p7 (d7 9 [0,1,2,3,4] mixed a6 Z Z (λr0=>?_) (λ_ h=>h))
 refine C5 ?_
 refine zsa 5 ?_
 refine r8 (N:=6) Z (m8 (fuel:=3) [⟨7,6,5,true,.box (avR [.int .i64 0,.slice none 0 0,.slice none 0 0,.slice none 0 0] [])⟩] (AllVOK.cons (VOK.boxS G Z Z Z Z Z) (AllVOK.nil)) (λhok=>?_))
 refine i7 [(4,[])] a6 a6 (λe he=>hok e he) a6 (AllVS.cons ?_ AllVS.nil)
 refine VStep.mk0 [0,1,2,3,4] Z Z (λb1 _ hbn=>c4 7 Z Z Z (ArgsOK.of Z) (w7 x.st J) Z Z (a8 Z)) a6 a6 a6 a6 (i7 [(6,[])] a6 a6 (λe he=>hok e he) a6 (AllVS.cons ?_ AllVS.nil))
 refine VStep.mk0 [0,1,2,3,4] Z Z (λb1 _ hbn=>b7 Z Z (y9 G Z Z Z Z) (a8 Z)) a6 a6 a6 a6 (i7 [(8,[7])] a6 a6 (λe he=>hok e he) a6 (AllVS.cons ?_ AllVS.nil))
 refine c3s ?_
 clear hok
 refine vm6 ?_
 refine zcd (λh1=>?_) (λh1=>?_)
 ·exfalso;omega
 refine zgo ?_
 refine g8 (m5 Z Z Z Z (a7 (p5 ?_) (a7 (b8 Z ?_) (a7 (b8 Z ?_) (a7 (b8 Z ?_) (a7 (p5 ?_) d5))))))
 all_goals (rfl)
theorem a4A (x:Ifc) (hn:x.st.length=0):CtrE (α:=Nat→Option Addr×Nat×Nat) Tryz.prog 156 [.agg [.v (.int .i64 x.ma),.lst 1 (x.st.map Rf.l8),.lst 3 (x.qu.sl.map f9),.lst 2 (x.qu.wa.map i5)]] (λy=>(.shp false [some 4,none] [.v (.int .i64 x.ma),.v (.slice (y 1).1 (y 1).2.1 (y 1).2.2),.v (.slice (y 2).1 (y 2).2.1 (y 2).2.2),.v (.slice (y 3).1 (y 3).2.1 (y 3).2.2),.v (.int .i64 (-1))])):=by
 refine CtrE.of (n:=41) G Tryz.func156 Z a6 Z Z Z (λw0=>?_)
 refine c1v 0 Z (λ_=>Z) (λu0=>?_)
 refine L6 ?_
 refine zcd (λh1=>?_) (λh1=>?_)
 ·refine zgo ?_
  refine g8 (b65 (u0) (m5 Z Z Z Z (a7 (p5 ?_) (a7 (a2U ?_) (a7 (a2U ?_) (a7 (a2U ?_) (a7 (p5 ?_) d5)))))))
  all_goals (rfl)
 exfalso;omega
theorem a0z (m:Mach) (sk sq sc sv:Int) (hM:MaG m) (hv:s4 m.cp.length ⟨sk,sq,sc,sv⟩=true) (ho:¬ a7U m ⟨sk,sq,sc,sv⟩):Ctr Tryz.prog 102 [.agg [.lst 2 (m.rs.map n6),.lst 1 (m.en.map e7),.lst 1 (m.ra.map e7),.nst none 4 (m.cp.map (r3 154 183))],.v (.agg ⟨[.int .i64 sk,.int .i64 sq,.int .i64 sc,.int .i64 sv]⟩)] (.shp false [some 4,none,none] [.fr 118 2 ((stM m ⟨sk,sq,sc,sv⟩).1.rs.map n6),.fr 4 1 ((stM m ⟨sk,sq,sc,sv⟩).1.en.map e7),.fr 4 1 ((stM m ⟨sk,sq,sc,sv⟩).1.ra.map e7),.ne 113 4 ((stM m ⟨sk,sq,sc,sv⟩).1.cp.map (r3 154 183)),.v (.int .i64 (stM m ⟨sk,sq,sc,sv⟩).2.1),.v (.bool (stM m ⟨sk,sq,sc,sv⟩).2.2)]):=by
 have f1:=hM.n
 have f2:=hM.en
 have f3:=hM.ra
 have f4:=hM.rn
 refine Ctr.of (n:=107) G Tryz.func102 Z a6 Z Z Z (λw0=>?_)
 refine j8 0 Z (λ_=>Z) (λu0=>?_)
 refine b6r ?_
 refine c4 7 Z Z Z (ArgsOK.of Z) (a1m m hM) Z Z ?_
 refine vm4 ?_
 refine b1g ?_
 refine zcd (λh1=>?_) (λh1=>?_)
 ·have hq:=a9E hv J
  obtain ⟨q,rfl⟩:∃q:Nat,sq=q:=⟨sq.toNat,by omega⟩
  have hS:=sm1 (m:=m) (sc:=sc) (sv:=sv) (q:=q) h1
  refine b7N ?_
  refine zgn ?_
  refine p7 (d7 11 [0,1,3,4,5,6,7] mixed a6 Z Z (λr0=>?_) (λ_ h=>h))
  refine C5 ?_
  refine a0v ?_
  refine zsa 7 ?_
  refine b6 (rs:=[8]) a6 Z (AllB.cons ?_ AllB.nil)
  refine c8 [0,1,3,4,5,6,7] Z Z ?_
  refine F6 ?_
  refine zsa 9 ?_
  refine zsa 10 ?_
  refine vm6 ?_
  exact b3v
 refine zcd (λh2=>?_) (λh2=>?_)
 ·have hS:=sm2 (m:=m) (sq:=sq) (sc:=sc) (sv:=sv) h2
  refine m3 ?_
  refine c4 12 Z Z Z (ArgsOK.of Z) (a8c m hM) Z Z ?_
  refine zgo ?_
  exact b3v
 refine zcd (λh3=>?_) (λh3=>?_)
 ·have hc:=a2A hv J
  obtain ⟨c,rfl⟩:∃c:Nat,sc=c:=⟨sc.toNat,by omega⟩
  obtain ⟨g1,g2,g3⟩:=hM.lens (k:=c) J
  have hIG:=hM.ok c J
  have hk:=c4m ho h3
  have hS:=sm3 (m:=m) (sq:=sq) (sv:=sv) (c:=c) h3 hk
  have hbd:=b25 hIG hk
  refine m3 ?_
  refine c4 11 Z Z Z (ArgsOK.of Z) (a0y (m.cp.getD c default) hIG.f hk) Z Z ?_
  exact c0B
 refine zcd (λh4=>?_) (λh4=>?_)
 ·have hc:=a2A hv J
  obtain ⟨c,rfl⟩:∃c:Nat,sc=c:=⟨sc.toNat,by omega⟩
  obtain ⟨g1,g2,g3⟩:=hM.lens (k:=c) J
  have hIG:=hM.ok c J
  have hk:=c4n ho h4
  have hS:=sm4 (m:=m) (sq:=sq) (sv:=sv) (c:=c) h4 hk
  have hbd:=b5S hIG hk
  refine m3 ?_
  refine c4 11 Z Z Z (ArgsOK.of Z) (a6Y (m.cp.getD c default) hIG hk) Z Z ?_
  exact c0B
 refine zcd (λh5=>?_) (λh5=>?_)
 ·have hc:=a2A hv J
  obtain ⟨c,rfl⟩:∃c:Nat,sc=c:=⟨sc.toNat,by omega⟩
  obtain ⟨g1,g2,g3⟩:=hM.lens (k:=c) J
  have hIG:=hM.ok c J
  have hS:=sm5 (m:=m) (sq:=sq) (sv:=sv) (c:=c) h5
  refine p7 (A7 (Gh.open (id:=6) (i:=c) (k:=1) 9 Z Z (c1w J) Z Z) (A7 (Gh.open (id:=6) (i:=c) (k:=2) 10 Z Z (C9 I1 Z) Z Z) (A7 (Gh.open (id:=6) (i:=c) (k:=3) 11 Z Z (C9 I1 Z) Z Z) ?_)))
  refine b7M ?_
  refine b7 Z Z (H4 G Z Z Z Z (C9 I1 Z) Z (.v (.own a2s (.own a2s (.own a2s .nil))))) ?_
  refine vm4 ?_
  refine b1j ?_
  refine zgn ?_
  refine E9 ?_
  refine A7 (Gh.detach (id:=6) Z) (A7 (Gh.detach (id:=6) Z) (A7 (Gh.detach (id:=6) Z) ?_))
  exact c3L
 have hk:=b4O hv
 have hq:=a9E hv J
 obtain ⟨q,rfl⟩:∃q:Nat,sq=q:=⟨sq.toNat,by omega⟩
 have hS:=sm6 (m:=m) (sk:=sk) (sc:=sc) (sv:=sv) (q:=q) J
 refine b7N ?_
 refine zgo ?_
 exact b3v
theorem S5 (m:Mach) (sk sq sc sv:Int) (hM:MaG m) (hv:s4 m.cp.length ⟨sk,sq,sc,sv⟩=true) (ho:a7U m ⟨sk,sq,sc,sv⟩):Ctr Tryz.prog 102 [.agg [.lst 2 (m.rs.map n6),.lst 1 (m.en.map e7),.lst 1 (m.ra.map e7),.nst none 4 (m.cp.map (r3 154 183))],.v (.agg ⟨[.int .i64 sk,.int .i64 sq,.int .i64 sc,.int .i64 sv]⟩)] (.shp false [some 4,none,none] [.fr 118 2 (m.rs.map n6),.fr 4 1 (m.en.map e7),.fr 4 1 (m.ra.map e7),.ne 113 4 (m.cp.map a54),.v (.int .i64 (-1)),.v (.bool false)]):=by
 have f1:=hM.n
 have f2:=hM.en
 have f3:=hM.ra
 have f4:=hM.rn
 refine Ctr.of (n:=107) G Tryz.func102 Z a6 Z Z Z (λw0=>?_)
 refine j8 0 Z (λ_=>Z) (λu0=>?_)
 refine b6r ?_
 refine c4 7 Z Z Z (ArgsOK.of Z) (a1m m hM) Z Z ?_
 refine vm4 ?_
 refine b1g ?_
 refine zcd (λh1=>?_) (λh1=>?_)
 ·exact absurd (b2a ho) J
 refine zcd (λh2=>?_) (λh2=>?_)
 ·exact absurd (b2a ho) J
 refine zcd (λh3=>?_) (λh3=>?_)
 ·have hc:=a2A hv J
  obtain ⟨c,rfl⟩:∃c:Nat,sc=c:=⟨sc.toNat,by omega⟩
  obtain ⟨g1,g2,g3⟩:=hM.lens (k:=c) J
  have hIG:=hM.ok c J
  have hk:=c1s ho h3
  refine m3 ?_
  refine c4 11 Z Z Z (ArgsOK.of Z) (a05 (m.cp.getD c default) hIG.f hk) Z Z ?_
  refine m3 ?_
  refine b1j ?_
  refine c3i ?_
  exact b9x
 refine zcd (λh4=>?_) (λh4=>?_)
 ·have hc:=a2A hv J
  obtain ⟨c,rfl⟩:∃c:Nat,sc=c:=⟨sc.toNat,by omega⟩
  obtain ⟨g1,g2,g3⟩:=hM.lens (k:=c) J
  have hIG:=hM.ok c J
  have hk:=c1t ho h4
  refine zgo ?_
  refine b5 Z (a1y 8 Z Z Z (ArgsOK.of Z) (a4A (m.cp.getD c default) hk) (λ_=>Z) Z (λy1=>?_))
  refine m3 ?_
  refine b0a ?_
  refine b7M ?_
  first | refine j6 G Z Z Z Z Z (w9 J J) Z Z (.v Z (.v Z (.v Z (.v Z .nil)))) Z Z Z (Nat.le_of_ble_eq_true Z) (λq h=>by cases h) Z ?_ | refine j6 G Z Z Z Z Z (C7 J J) Z Z (.v Z (.v Z (.v Z (.v Z .nil)))) Z Z Z (Nat.le_of_ble_eq_true Z) (λq h=>by cases h) Z ?_ | refine j6 G Z Z Z Z Z (C9 I1 Z) Z Z (.v Z (.v Z (.v Z (.v Z .nil)))) Z Z Z (Nat.le_of_ble_eq_true Z) (λq h=>by cases h) Z ?_
  exact b9x
 exact absurd (b2a ho) J
theorem a8r (a b:Int):Ctr Tryz.prog 125 [.v (.int .i64 a),.v (.int .i64 b)] (.one (.v (.int .i64 (max a b)))):=by
 refine Ctr.of (n:=10) G Tryz.func125 Z a6 Z Z Z (λw0=>?_)
 exact b9S
theorem a3h (sl:List Slot) (irq p:Int) (hl:sl.length<=1048576):Ctr Tryz.prog 184 [.lst 3 (sl.map f9),.v (.int .i64 irq),.v (.int .i64 p)] (.many [.fr 154 3 ((ptG sl irq p).1.map f9),.v (.bool (ptG sl irq p).2)]):=by
 have hf:=@a0l sl irq
 have hg:=@b1P sl
 refine Ctr.of (n:=39) G Tryz.func184 Z a6 Z Z Z (λw0=>?_)
 refine zcl (B5 sl irq hl) ?_
 refine zcd (λh1=>?_) (λh1=>?_)
 ·have hG:=c2V (p:=p) h1
  refine a0G ?_
  refine zcd (λh2=>?_) (λh2=>?_)
  ·exact c0s
  exact c0s
 refine zcl (a1l sl hl) ?_
 refine zcd (λh3=>?_) (λh3=>?_)
 ·have hG:=c2X (p:=p) J h3
  refine b4a ?_
  exact c2e
 have hG:=c2W (p:=p) (show n8 sl irq < 0 by omega) (show 0<=freS sl by omega)
 refine c19 ?_
 exact c2e
theorem a3i (sl:List Slot) (irq:Int) (hl:sl.length<=1048576):Ctr Tryz.prog 239 [.lst 3 (sl.map f9),.v (.int .i64 irq)] (.many [.fr 154 3 ((edG sl irq).1.map f9),.v (.bool (edG sl irq).2)]):=by
 have hf:=@a0l sl irq
 refine Ctr.of (n:=41) G Tryz.func239 Z a6 Z Z Z (λw0=>?_)
 refine zcl (B5 sl irq hl) ?_
 refine zcd (λh1=>?_) (λh1=>?_)
 ·have hG:=b5T (sl:=sl) (irq:=irq) (.inl h1)
  refine zwt ?_
  exact c0x
 refine zcd (λh2=>?_) (λh2=>?_)
 ·have hG:=b5T (sl:=sl) (irq:=irq) (.inr h2)
  exact c0x
 refine zcd (λh3=>?_) (λh3=>?_)
 ·have hG:=c2Y (sl:=sl) (irq:=irq) J h3
  refine c19 ?_
  exact c2m
 have hG:=c2Z (sl:=sl) (irq:=irq) J h2 h3
 refine a0G ?_
 refine b7R ?_
 exact c2m
theorem a60 (sl:List Slot) (lim:Int) (hl:sl.length<=1048576):CtrM Tryz.prog 181 [.own 0,.v (.int .i64 lim)] [.row 154 3 (sl.map f9)] (.many [.fr 154 3 ((tkA sl lim).1.map f9),.v (.int .i64 (tkA sl lim).2)]) [none]:=by
 have hb:=@Z1 sl true
 refine CtrM.of (n:=33) (k:=1) G Tryz.func181 Z a6 Z Z Z Z Z Z Z (λw0 _ hpin=>?_)
 refine zcl (Y0 sl hl) ?_
 refine zcd (λh1=>?_) (λh1=>?_)
 ·have hG:=b5U (sl:=sl) (lim:=lim) (a3C.mpr J)
  refine zwt ?_
  refine zgo ?_
  exact b6I
 refine zgo ?_
 refine S9 ?_
 refine b7Q ?_
 refine S9 ?_
 refine b3s ?_
 refine S9 ?_
 refine b7 Z Z (s0 G Z Z Z Z Z (C7 J J) Z) ?_
 refine zcd (λh2=>?_) (λh2=>?_)
 ·have hG:=b5U (sl:=sl) (lim:=lim) (a3C.mpr J)
  refine zgo ?_
  exact b6I
 have hG:=b8o (sl:=sl) (lim:=lim) (G2.mpr J)
 refine m3 ?_
 refine b7Q ?_
 refine vm4 ?_
 refine b7 Z Z (d9 G Z Z Z Z (C7 J J) Z) ?_
 refine vm7 ?_
 refine zgn ?_
 refine zgn ?_
 refine p7 (d7 8 [0,1] mixed a6 Z Z (λr0=>?_) (λ_ h=>h))
 refine a32 ?_
 refine Q4 ?_
 refine b6 (rs:=[3]) a6 Z (AllB.cons ?_ AllB.nil)
 refine c8 [0,1] Z Z (c4 3 Z Z Z (ArgsOK.of Z) (I9 sl _ ⟨_,_,_⟩ hl J) Z Z (a8 ⟨Z,?_⟩))
 refine zsa 6 ?_
 refine zsa 7 ?_
 refine vm6 ?_
 exact b6I
theorem a61 (q:Que) (irq:Int) (hF:QF q) (hn:¬ (0<=n8 q.sl irq/\N2 (q.sl.getD (n8 q.sl irq).toNat default)=true)):Ctr Tryz.prog 203 [.agg [.lst 3 (q.sl.map f9),.lst 2 (q.wa.map i5)],.v (.int .i64 irq)] (.shp false [some 2,none] [.fr 154 3 ((⟨[],[]⟩:Que).sl.map f9),.fr 183 2 ((⟨[],[]⟩:Que).wa.map i5),.v (.bool false)]):=by
 have hl4:=hF.sl.len
 refine Ctr.of (n:=23) G Tryz.func203 Z a6 Z Z Z (λw0=>?_)
 refine j8 0 Z (λ_=>Z) (λu0=>?_)
 refine L6 ?_
 refine m3 ?_
 refine c4 3 Z Z Z (ArgsOK.of Z) (Ctr.eq (a3i q.sl irq J) (b5V hF hn)) Z Z ?_
 refine zwt ?_
 refine zgo ?_
 refine g8 (m5 Z Z Z Z (a7 (t7 ?_) (a7 (t7 ?_) (a7 (p5 ?_) d5))))
 all_goals (rfl)
theorem U7 (q:Que) (irq:Int) (hF:QF q):Ctr Tryz.prog 203 [.agg [.lst 3 (q.sl.map f9),.lst 2 (q.wa.map i5)],.v (.int .i64 irq)] (.shp false [some 2,none] [.fr 154 3 ((enG q irq).1.sl.map f9),.fr 183 2 ((enG q irq).1.wa.map i5),.v (.bool (enG q irq).2)]):=by
 by_cases h:0<=n8 q.sl irq/\N2 (q.sl.getD (n8 q.sl irq).toNat default)=true
 ·rw [b8r h.1 h.2];exact a2l q irq hF h.1 h.2
 rw [b8s h];exact a61 q irq hF h
theorem a5E (q:Que) (lim:Int) (hF:QF q):Ctr Tryz.prog 135 [.agg [.lst 3 (q.sl.map f9),.lst 2 (q.wa.map i5)],.v (.int .i64 lim)] (.shp false [some 2,none] [.fr 154 3 ((tkQ q lim).1.sl.map f9),.fr 183 2 ((tkQ q lim).1.wa.map i5),.v (.int .i64 (tkQ q lim).2)]):=by
 cases h:U4 q.sl lim
 ·rw [b8q h];exact a1S q lim hF h
 rw [b8p h];exact a36 q lim hF h
theorem a4v (x:Ifc) (hF:IfF x):Ctr Tryz.prog 73 [.agg [.v (.int .i64 x.ma),.lst 1 (x.st.map Rf.l8),.lst 3 (x.qu.sl.map f9),.lst 2 (x.qu.wa.map i5)]] (.shp false [some 4,none] [.v (.int .i64 (tkX x).1.ma),.fr 3 1 ((tkX x).1.st.map Rf.l8),.fr 154 3 ((tkX x).1.qu.sl.map f9),.fr 183 2 ((tkX x).1.qu.wa.map i5),.v (.int .i64 (tkX x).2)]):=by
 cases h:okT x
 ·rw [b8u h];exact a05 x hF h
 rw [b8t h];exact a0y x hF h
theorem a5F (x:Ifc) (hG:IfG x):CtrM Tryz.prog 156 [.agg [.v (.int .i64 x.ma),.own 0,.own 1,.own 2]] [.row 3 1 (x.st.map Rf.l8),.row 154 3 (x.qu.sl.map f9),.row 183 2 (x.qu.wa.map i5)] (.shp false [some 4,none] [.v (.int .i64 (lvX x).1.ma),.fr 3 1 ((lvX x).1.st.map Rf.l8),.fr 154 3 ((lvX x).1.qu.sl.map f9),.fr 183 2 ((lvX x).1.qu.wa.map i5),.v (.int .i64 (lvX x).2)]) [none,none,none]:=by
 have hl4:=hG.f.qu.sl.len
 have hwn:=hG.f.qu.wn
 have hsn:=hG.f.sn
 refine CtrM.of (n:=41) (k:=3) G Tryz.func156 Z a6 Z Z Z Z Z Z Z (λw0 _ hpin=>?_)
 refine m3 ?_
 refine a5R 4 Z Z Z Z Z Z Z ?_
 refine vm4 ?_
 refine a9c ?_
 refine zcd (λh1=>?_) (λh1=>?_)
 ·have hG0:=b8w (x:=x) J
  refine zgo ?_
  exact b9A
 have hn0:¬ x.st.length=0:=J
 have hG0:=b8v hn0
 obtain ⟨hla,hlb⟩:=b22 hG hn0
 have hls:=a55 hn0
 refine zgn ?_
 refine p7 (d7 15 [0,1,2,3,4] mixed a6 Z Z (λr0=>?_) (λ_ h=>h))
 refine b7O ?_
 refine i9 6 Z a6 a6 Z Z Z Z (c6 G Z Z Z Z Z J O4) (i9 7 Z a6 a6 Z Z Z Z (s0 G Z Z Z Z Z (C7 J J) Z) (r8 (N:=6) Z (m8 (fuel:=6) [⟨12,5,5,true,.box (avR [.slice none 0 0,.slice none 0 0] [])⟩] (AllVOK.cons (VOK.boxS G Z Z Z Z Z) (AllVOK.nil)) (λhok=>?_))))
 refine i7 [(8,[])] a6 a6 (λe he=>hok e he) a6 (AllVS.cons ?_ AllVS.nil)
 refine VStep.mk0 [0,1,2,3,4] Z Z (λb1 _ hbn=>c4 8 Z Z Z (ArgsOK.of Z) (a2l x.qu _ hG.f.qu (by rw [hls];exact hla) (by rw [hls];exact hlb)) Z Z (a8 Z)) a6 a6 a6 a6 (l6 9 Z a6 Z Z Z Z (d3 Z Z) a6 a6 a6 (l6 10 Z a6 Z Z Z Z (d4 Z Z Z) a6 a6 a6 (l6 11 Z a6 Z Z Z Z (d4 Z Z Z) a6 a6 a6 (i7 [(13,[12])] a6 a6 (λe he=>hok e he) a6 (AllVS.cons ?_ AllVS.nil)))))
 refine VStep.mk1 [0,1,2,3,4] 5 (.ptr 5 0) 5 (.box (avR [.slice none 0 0,.slice none 0 0] [])) [] Z Z Z Z Z (λb1 _ hbn=>l5 G Z Z Z Z Z Z Z Z Z Z Z (a8 Z)) a6 a6 a6 a6 (w6 ?_)
 clear hok
 refine zsa 14 ?_
 refine vm6 ?_
 refine p7 (d7 18 [0,1,2,3,5,6,7] mixed a6 Z Z (λr0=>?_) (λ_ h=>h))
 refine b7O ?_
 refine i9 6 Z a6 a6 Z Z Z Z (a1r G Z Z Z Z Z Z J a3Z a3Z) ?_
 refine c3B ?_
 refine i9 14 Z a6 a6 Z Z Z Z (c6 G Z Z Z Z Z J O4) (i9 15 Z a6 a6 Z Z Z Z (s0 G Z Z Z Z Z (C7 J J) Z) (b6 (rs:=[7]) a6 Z (AllB.cons ?_ AllB.nil)))
 refine c8 [0,1,2,3,5,6,7] Z Z (c4 9 Z Z Z (ArgsOK.sub1 Z Z O4 a7W) (w7 (x.st.take (x.st.length - 1)) b3n) Z Z (a8 ⟨Z,?_⟩))
 refine b6 (rs:=[9]) a6 Z (AllB.cons ?_ AllB.nil)
 refine c8 [0,1,2,3,5,6,7] Z Z ?_
 refine F6 ?_
 refine b6 (rs:=[16]) a6 Z (AllB.cons ?_ AllB.nil)
 refine c8 [0,1,2,3,5,6,7] Z Z ?_
 refine F6 ?_
 refine zsa 17 ?_
 refine vm6 ?_
 exact b9A
theorem a6c {x:Cur} {n:Int} (h:okC n x) (hn:n<=900000000000):CtrX (α:=Int×Cur) Tryz.prog 254 [.ptr 0 0] [.box [.lst 1 (x.c.map B9),.v (.int .i64 x.a),.v (.int .u64 x.s)]] (λy=>(True)/\okC (n+4) y.2) (λy=>.one (.v (.int .i64 y.1))) (λy=>[some (.box [.lst 1 (y.2.c.map B9),.v (.int .i64 y.2.a),.v (.int .u64 y.2.s)])]):=by
 refine CtrX.of (n:=10) (k:=1) G Tryz.func254 Z a6 Z Z Z Z (λ_=>Z) Z Z (λw0 _ hpin=>?_)
 refine zgo ?_
 refine b5 Z (c9 1 [0] Z Z Z (a73 h J (20)) Z (RowsIn.cons Z RowsIn.nil) Z (λ_=>Z) Z (λx1 ⟨hv1,hc1⟩=>?_))
 refine zcd (λh1=>?_) (λh1=>?_)
 ·refine zgo ?_
  refine b5 Z (p4 G 2 Z Z Z Z Z Z Z Z (b5 Z (c9 2 [0,1] Z Z Z (F0 hc1 J [-1,8] (-1) (8) (by decide) (by decide)) Z (RowsIn.cons Z (RowsIn.cons Z RowsIn.nil)) Z (λ_=>Z) Z (λx2 ⟨hv2,hc2⟩=>?_))))
  refine zgo ?_
  refine g8 (B6 ((_,⟨_,_,_⟩)) (u6 Z (p5 Z) Z (AftOK.stays Z Z Z AftOK.nil)) ⟨?_,?_⟩)
  all_goals (try rcases x1 with ⟨_,_⟩)
  all_goals (try rcases x2 with ⟨_,_⟩)
  all_goals (try dsimp only at *)
  all_goals (first | trivial | exact hc2.mono J | omega)
 refine zgo ?_
 refine b5 Z (c9 1 [0] Z Z Z (p6 hc1 J (8)) Z (RowsIn.cons Z RowsIn.nil) Z (λ_=>Z) Z (λx3 ⟨hv3,hc3⟩=>?_))
 refine zgo ?_
 refine g8 (B6 ((_,⟨_,_,_⟩)) (u6 Z (p5 Z) Z (AftOK.stays Z Z Z AftOK.nil)) ⟨?_,?_⟩)
 all_goals (try rcases x1 with ⟨_,_⟩)
 all_goals (try rcases x2 with ⟨_,_⟩)
 all_goals (try rcases x3 with ⟨_,_⟩)
 all_goals (try dsimp only at *)
 all_goals (first | trivial | exact hc3.mono J | omega)
theorem a5G {x:Cur} {n:Int} (h:okC n x) (hn:n<=900000000000):CtrX (α:=Int×Cur) Tryz.prog 255 [.ptr 0 0] [.box [.lst 1 (x.c.map B9),.v (.int .i64 x.a),.v (.int .u64 x.s)]] (λy=>(True)/\okC (n+2) y.2) (λy=>.one (.v (.int .i64 y.1))) (λy=>[some (.box [.lst 1 (y.2.c.map B9),.v (.int .i64 y.2.a),.v (.int .u64 y.2.s)])]):=by
 refine CtrX.of (n:=6) (k:=1) G Tryz.func255 Z a6 Z Z Z Z (λ_=>Z) Z Z (λw0 _ hpin=>?_)
 refine zgo ?_
 refine b5 Z (p4 G 2 Z Z Z Z Z Z Z Z (b5 Z (c9 2 [0,1] Z Z Z (F0 h J [0,1,2,3,5,8,15,4,4,7,12,16,-1,6] (-1) (16) (by decide) (by decide)) Z (RowsIn.cons Z (RowsIn.cons Z RowsIn.nil)) Z (λ_=>Z) Z (λx1 ⟨hv1,hc1⟩=>?_))))
 refine zgo ?_
 refine g8 (B6 ((_,⟨_,_,_⟩)) (u6 Z (p5 Z) Z (AftOK.stays Z Z Z AftOK.nil)) ⟨?_,?_⟩)
 all_goals (try rcases x1 with ⟨_,_⟩)
 all_goals (try dsimp only at *)
 all_goals (first | trivial | exact hc1.mono J | omega)
theorem a4B {x:Cur} {n:Int} (h:okC n x) (hn:n<=900000000000):CtrX (α:=List Slot×Cur) Tryz.prog 253 [.ptr 0 0] [.box [.lst 1 (x.c.map B9),.v (.int .i64 x.a),.v (.int .u64 x.s)]] (λy=>(y.1.length<=5)/\okC (n+100) y.2) (λy=>.one (.fr 154 3 (y.1.map f9))) (λy=>[some (.box [.lst 1 (y.2.c.map B9),.v (.int .i64 y.2.a),.v (.int .u64 y.2.s)])]):=by
 refine CtrX.of (n:=88) (k:=1) G Tryz.func253 Z a6 Z Z Z Z (λ_=>Z) Z Z (λw0 _ hpin=>?_)
 refine b3p ?_
 refine zgo ?_
 refine b5 Z (c9 2 [0] Z Z Z (p6 h J (9)) Z (RowsIn.cons Z RowsIn.nil) Z (λ_=>Z) Z (λx1 ⟨hv1,hc1⟩=>?_))
 refine zgo ?_
 refine f6 [0] [] (λ(z:Nat×Cur×List Slot)=>[(3,.own 1),(4,.v (.int .i64 (x1.1 - z.1)))]) (λ(z:Nat×Cur×List Slot)=>[(0,some (.box [.lst 1 (z.2.1.c.map B9),.v (.int .i64 z.2.1.a),.v (.int .u64 z.2.1.s)])),(1,some (.row 154 3 (z.2.2.map f9)))]) (λ(z:Nat×Cur×List Slot)=>(z.1:Int)<=x1.1/\(z.2.2.length=4)/\okC (n+2+8 * z.1) z.2.1) (λ(z:Nat×Cur×List Slot)=>x1.1.toNat - z.1) (0,x1.2,[zSl,zSl,zSl,zSl]) Z Z ?_ ?_ ?_ ?_
 ·exact ⟨hv1.1,Z,hc1.mono (by simp)⟩
 ·exact b6J
 ·exact b0c
 intro z hinv
 obtain ⟨hz1,hz2,hz⟩:=hinv
 refine vm2 ?_
 refine zcd (λh1=>?_) (λh1=>?_)
 ·refine zgo ?_
  refine b5 Z (c9 2 [0] Z Z Z (p6 hz J (4)) Z (RowsIn.cons Z RowsIn.nil) Z (λ_=>Z) Z (λx2 ⟨hv2,hc2⟩=>?_))
  refine zcd (λh2=>?_) (λh2=>?_)
  ·refine zwt ?_
   refine zgo ?_
   refine b5 Z (c9 2 [0] Z Z Z (p6 hc2 J (8)) Z (RowsIn.cons Z RowsIn.nil) Z (λ_=>Z) Z (λx3 ⟨hv3,hc3⟩=>?_))
   refine zgo ?_
   refine b5 Z (c9 2 [0] Z Z Z (p6 hc3 J (8)) Z (RowsIn.cons Z RowsIn.nil) Z (λ_=>Z) Z (λx4 ⟨hv4,hc4⟩=>?_))
   refine vm4 ?_
   refine c4 3 Z Z Z (ArgsOK.of Z) (a3h z.2.2 _ _ J) Z Z ?_
   refine zcd (λh3=>?_) (λh3=>?_)
   ·refine zgn ?_
    refine X3 ?_
    refine m6 (Gh.sub 2 1 w3 Z Z Z) (a8 ⟨(z.1+1,x4.2,(ptG z.2.2 x3.1 x4.1).1),?_,?_,⟨⟨_,Z,by (first | rfl | exact congrArg (λv=>AV.v (.int .i64 v)) A5)⟩,Z,⟨⟨_,Z,by (first | rfl | exact congrArg (λv=>AV.v (.int .i64 v)) A5)⟩,Z,trivial⟩⟩,⟨⟨_,Z,by rfl⟩,Z,Z,⟨⟨_,Z,by rfl⟩,Z,Z,trivial⟩⟩,Z,Z,Z⟩)
    ·exact c37
    exact Z5
   refine zgo ?_
   refine ⟨(z.1+1,x4.2,z.2.2),?_,?_,⟨⟨_,Z,by (first | rfl | exact congrArg (λv=>AV.v (.int .i64 v)) A5)⟩,Z,⟨⟨_,Z,by (first | rfl | exact congrArg (λv=>AV.v (.int .i64 v)) A5)⟩,Z,trivial⟩⟩,⟨⟨_,Z,by rfl⟩,Z,Z,⟨⟨_,Z,by rfl⟩,Z,Z,trivial⟩⟩,Z,Z,Z⟩
   ·exact c37
   exact Z5
  refine zcd (λh4=>?_) (λh4=>?_)
  ·refine zgo ?_
   refine b5 Z (c9 2 [0] Z Z Z (p6 hc2 J (8)) Z (RowsIn.cons Z RowsIn.nil) Z (λ_=>Z) Z (λx5 ⟨hv5,hc5⟩=>?_))
   refine zgo ?_
   refine b5 Z (c9 2 [0] Z Z Z (p6 hc5 J (8)) Z (RowsIn.cons Z RowsIn.nil) Z (λ_=>Z) Z (λx6 ⟨hv6,hc6⟩=>?_))
   refine vm4 ?_
   refine c4 3 Z Z Z (ArgsOK.of Z) (a3h z.2.2 _ _ J) Z Z ?_
   refine zcd (λh5=>?_) (λh5=>?_)
   ·refine zgn ?_
    refine X3 ?_
    refine m6 (Gh.sub 2 1 w3 Z Z Z) (a8 ⟨(z.1+1,x6.2,(ptG z.2.2 x5.1 x6.1).1),?_,?_,⟨⟨_,Z,by (first | rfl | exact congrArg (λv=>AV.v (.int .i64 v)) A5)⟩,Z,⟨⟨_,Z,by (first | rfl | exact congrArg (λv=>AV.v (.int .i64 v)) A5)⟩,Z,trivial⟩⟩,⟨⟨_,Z,by rfl⟩,Z,Z,⟨⟨_,Z,by rfl⟩,Z,Z,trivial⟩⟩,Z,Z,Z⟩)
    ·exact c38
    exact Z5
   refine zgo ?_
   refine ⟨(z.1+1,x6.2,z.2.2),?_,?_,⟨⟨_,Z,by (first | rfl | exact congrArg (λv=>AV.v (.int .i64 v)) A5)⟩,Z,⟨⟨_,Z,by (first | rfl | exact congrArg (λv=>AV.v (.int .i64 v)) A5)⟩,Z,trivial⟩⟩,⟨⟨_,Z,by rfl⟩,Z,Z,⟨⟨_,Z,by rfl⟩,Z,Z,trivial⟩⟩,Z,Z,Z⟩
   ·exact c38
   exact Z5
  refine zcd (λh6=>?_) (λh6=>?_)
  ·refine m3 ?_
   refine H9 3 [1] Z Z Z (a60 z.2.2 16 J) Z (RowsIn.cons Z RowsIn.nil) Z Z Z ?_
   refine zgn ?_
   refine X3 ?_
   refine m6 (Gh.sub 2 1 w3 Z Z Z) (a8 ⟨(z.1+1,x2.2,(tkA z.2.2 16).1),?_,?_,⟨⟨_,Z,by (first | rfl | exact congrArg (λv=>AV.v (.int .i64 v)) A5)⟩,Z,⟨⟨_,Z,by (first | rfl | exact congrArg (λv=>AV.v (.int .i64 v)) A5)⟩,Z,trivial⟩⟩,⟨⟨_,Z,by rfl⟩,Z,Z,⟨⟨_,Z,by rfl⟩,Z,Z,trivial⟩⟩,Z,Z,Z⟩)
   ·exact c39
   exact Z5
  refine zcd (λh7=>?_) (λh7=>?_)
  ·refine zgo ?_
   refine b5 Z (c9 2 [0] Z Z Z (p6 hc2 J (8)) Z (RowsIn.cons Z RowsIn.nil) Z (λ_=>Z) Z (λx7 ⟨hv7,hc7⟩=>?_))
   refine vm4 ?_
   refine c4 3 Z Z Z (ArgsOK.of Z) (a3i z.2.2 _ J) Z Z ?_
   refine zcd (λh8=>?_) (λh8=>?_)
   ·refine zgo ?_
    refine m7 Z Z Z (c9 3 [0] Z Z Z (a73 hc7 J (2)) Z (RowsIn.cons Z RowsIn.nil) Z (λ_=>Z) Z (λx8 ⟨hv8,hc8⟩=>?_))
    refine zcd (λh9=>?_) (λh9=>?_)
    ·refine zgn ?_
     refine X3 ?_
     refine m6 (Gh.sub 2 1 w3 Z Z Z) (a8 ⟨(z.1+1,x8.2,(edG z.2.2 x7.1).1),?_,?_,⟨⟨_,Z,by (first | rfl | exact congrArg (λv=>AV.v (.int .i64 v)) A5)⟩,Z,⟨⟨_,Z,by (first | rfl | exact congrArg (λv=>AV.v (.int .i64 v)) A5)⟩,Z,trivial⟩⟩,⟨⟨_,Z,by rfl⟩,Z,Z,⟨⟨_,Z,by rfl⟩,Z,Z,trivial⟩⟩,Z,Z,Z⟩)
     ·exact c4a
     exact Z5
    refine zgo ?_
    refine ⟨(z.1+1,x8.2,z.2.2),?_,?_,⟨⟨_,Z,by (first | rfl | exact congrArg (λv=>AV.v (.int .i64 v)) A5)⟩,Z,⟨⟨_,Z,by (first | rfl | exact congrArg (λv=>AV.v (.int .i64 v)) A5)⟩,Z,trivial⟩⟩,⟨⟨_,Z,by rfl⟩,Z,Z,⟨⟨_,Z,by rfl⟩,Z,Z,trivial⟩⟩,Z,Z,Z⟩
    ·exact c4a
    exact Z5
   refine zwf ?_
   refine zgo ?_
   refine ⟨(z.1+1,x7.2,z.2.2),?_,?_,⟨⟨_,Z,by (first | rfl | exact congrArg (λv=>AV.v (.int .i64 v)) A5)⟩,Z,⟨⟨_,Z,by (first | rfl | exact congrArg (λv=>AV.v (.int .i64 v)) A5)⟩,Z,trivial⟩⟩,⟨⟨_,Z,by rfl⟩,Z,Z,⟨⟨_,Z,by rfl⟩,Z,Z,trivial⟩⟩,Z,Z,Z⟩
   ·first | exact ⟨by show ((z.1+1:Nat):Int)<=x1.1;omega,hz2,hc7.mono g0⟩ | exact ⟨by show ((z.1+1:Nat):Int)<=x1.1;omega,(a5r b9).trans hz2,hc7.mono g0⟩ | exact ⟨by show ((z.1+1:Nat):Int)<=x1.1;omega,a5t.trans hz2,hc7.mono g0⟩ | exact ⟨by show ((z.1+1:Nat):Int)<=x1.1;omega,(a5s b9).trans hz2,hc7.mono g0⟩
   exact Z5
  refine zgo ?_
  refine ⟨(z.1+1,x2.2,z.2.2),?_,?_,⟨⟨_,Z,by (first | rfl | exact congrArg (λv=>AV.v (.int .i64 v)) A5)⟩,Z,⟨⟨_,Z,by (first | rfl | exact congrArg (λv=>AV.v (.int .i64 v)) A5)⟩,Z,trivial⟩⟩,⟨⟨_,Z,by rfl⟩,Z,Z,⟨⟨_,Z,by rfl⟩,Z,Z,trivial⟩⟩,Z,Z,Z⟩
  ·exact c39
  exact Z5
 refine zgo ?_
 refine b5 Z (c9 2 [0] Z Z Z (p6 hz J (24)) Z (RowsIn.cons Z RowsIn.nil) Z (λ_=>Z) Z (λx9 ⟨hv9,hc9⟩=>?_))
 refine zcd (λh10=>?_) (λh10=>?_)
 ·refine zgo ?_
  refine b5 Z (c9 2 [0] Z Z Z (p6 hc9 J (4)) Z (RowsIn.cons Z RowsIn.nil) Z (λ_=>Z) Z (λx10 ⟨hv10,hc10⟩=>?_))
  refine zgo ?_
  refine b5 Z (p4 G 3 Z Z Z Z Z Z Z Z (b5 Z (c9 3 [0,2] Z Z Z (F0 hc10 J [-1,4,1] (-1) (4) (by decide) (by decide)) Z (RowsIn.cons Z (RowsIn.cons Z RowsIn.nil)) Z (λ_=>Z) Z (λx11 ⟨hv11,hc11⟩=>?_))))
  refine zgo ?_
  refine b5 Z (p4 G 4 Z Z Z Z Z Z Z Z (b5 Z (c9 4 [0,3] Z Z Z (F0 hc11 J [-1,7,8] (-1) (8) (by decide) (by decide)) Z (RowsIn.cons Z (RowsIn.cons Z RowsIn.nil)) Z (λ_=>Z) Z (λx12 ⟨hv12,hc12⟩=>?_))))
  refine zgo ?_
  refine b5 Z (p4 G 5 Z Z Z Z Z Z Z Z (b5 Z (c9 5 [0,4] Z Z Z (F0 hc12 J [-1,15,16] (-1) (16) (by decide) (by decide)) Z (RowsIn.cons Z (RowsIn.cons Z RowsIn.nil)) Z (λ_=>Z) Z (λx13 ⟨hv13,hc13⟩=>?_))))
  refine b9h ?_
  refine g8 (B6 ((z.2.2.set x10.1.toNat ⟨x11.1,x12.1,x13.1⟩,x13.2)) (u6 Z (b8 Z ?_) Z (AftOK.stays Z ?_ Z AftOK.nil)) (⟨?_,?_⟩))
  all_goals (first | rfl | exact hc13.mono J | (dsimp only;rw [List.map_set];rfl) | (rw [List.map_append];rfl) | (show List.length _<=5;(try simp only [List.length_set,List.length_append,List.length_cons,List.length_nil]);omega))
 refine zcd (λh11=>?_) (λh11=>?_)
 ·refine m3 ?_
  refine b2k ?_
  refine b7P ?_
  refine g8 (B6 ((z.2.2++[zSl],x9.2)) (u6 Z (b8 Z ?_) Z (AftOK.stays Z ?_ Z AftOK.nil)) (⟨?_,?_⟩))
  all_goals exact b6h
 refine zcd (λh12=>?_) (λh12=>?_)
 ·refine b9h ?_
  refine g8 (B6 ((z.2.2.set 3 ⟨0,1,0⟩,x9.2)) (u6 Z (b8 Z ?_) Z (AftOK.stays Z ?_ Z AftOK.nil)) (⟨?_,?_⟩))
  all_goals exact b6h
 refine zgo ?_
 refine g8 (B6 ((z.2.2,x9.2)) (u6 Z (b8 Z ?_) Z (AftOK.stays Z ?_ Z AftOK.nil)) (⟨?_,?_⟩))
 all_goals exact b6h
end Go.Proofs.YtcnodpipinlpcaaGreat
