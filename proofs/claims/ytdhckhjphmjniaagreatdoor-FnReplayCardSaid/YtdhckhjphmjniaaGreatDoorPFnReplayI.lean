/- Texts merged into one: M25, Q3. -/
import Derived.Test.YtdhckhjphmjniaaGreatDoorPFnReplayH
set_option maxHeartbeats 4000000
set_option linter.unusedSimpArgs false
set_option linter.unusedVariables false
set_option maxRecDepth 20000
namespace Go.Proofs.YtdhckhjphmjniaaGreatDoor
open Go Go.Rf
theorem a6P (x:Ifc) (hn:x.st.length=0):Ctr Tryz.prog 180 [.agg [.v (.int .i64 x.ma),.lst 1 (x.st.map Rf.s3),.lst 3 (x.qu.sl.map j4),.lst 2 (x.qu.wa.map j8)]] (.shp false [some 4,none,none] [.v (.int .i64 0),.fr 3 1 (([]:List Int).map Rf.s3),.fr 104 3 ((⟨[],[]⟩:Que).sl.map j4),.fr 76 2 ((⟨[],[]⟩:Que).wa.map j8) true,.v (.int .i64 0),.v (.bool false)]):=by
 refine Ctr.of (n:=40) G Tryz.func180 Z a8 Z Z Z (λw0=>?_)
 refine n9 0 Z (λ_=>Z) (λu0=>?_)
 refine vm1 ?_
 refine vm9 ?_
 refine zcd (λh1=>?_) (λh1=>?_)
 ·refine zgo ?_
  refine d7 (p7 Z Z Z Z (b3 (i8 ?_) (b3 (C6 ?_) (b3 (C6 ?_) (b3 (C6 ?_) (b3 (i8 ?_) (b3 (i8 ?_) d9)))))))
  all_goals (rfl)
 exfalso;omega
theorem a5X (x:Ifc) (hG:IfG x):Ctr Tryz.prog 180 [.agg [.v (.int .i64 x.ma),.lst 1 (x.st.map Rf.s3),.lst 3 (x.qu.sl.map j4),.lst 2 (x.qu.wa.map j8)]] (.shp false [some 4,none,none] [.v (.int .i64 (a0Y x).1.ma),.fr 3 1 ((a0Y x).1.st.map Rf.s3),.fr 104 3 ((a0Y x).1.qu.sl.map j4),.fr 76 2 ((a0Y x).1.qu.wa.map j8) true,.v (.int .i64 (a0Y x).2.1),.v (.bool (a0Y x).2.2)]):=by
 by_cases h:x.st.length=0
 ·rw [b7z h];exact a6P x h
 rw [b7A h];exact a9M x hG h
theorem a6Q (m:Mach) (sk sq sc sv:Int) (hM:MaG m) (hv:T6 m.cp.length ⟨sk,sq,sc,sv⟩=true):Ctr Tryz.prog 121 [.agg [.lst 2 (m.rs.map p5),.lst 1 (m.en.map m9),.lst 1 (m.ra.map m9),.nst none 4 (m.cp.map (s2 104 76))],.v (.agg ⟨[.int .i64 sk,.int .i64 sq,.int .i64 sc,.int .i64 sv]⟩)] (.shp false [some 4,none,none] [.fr 132 2 ((stM m ⟨sk,sq,sc,sv⟩).1.rs.map p5),.fr 4 1 ((stM m ⟨sk,sq,sc,sv⟩).1.en.map m9),.fr 4 1 ((stM m ⟨sk,sq,sc,sv⟩).1.ra.map m9),.ne 74 4 ((stM m ⟨sk,sq,sc,sv⟩).1.cp.map (a1T 104 76)),.v (.int .i64 (stM m ⟨sk,sq,sc,sv⟩).2.1),.v (.bool (stM m ⟨sk,sq,sc,sv⟩).2.2)]):=by
 have f1:=hM.n
 have f2:=hM.en
 have f3:=hM.ra
 have f4:=hM.rn
 refine Ctr.of (n:=90) G Tryz.func121 Z a8 Z Z Z (λw0=>?_)
 refine n9 0 Z (λ_=>Z) (λu0=>?_)
 refine b6E ?_
 refine vm3 ?_
 refine d3 7 Z Z Z (ArgsOK.of Z) (a8e m hM) Z Z ?_
 refine r6 ?_
 refine b36 ?_
 refine zgn ?_
 refine t8 (t8 (O6 (Gh.nestF (id:=6) _ Z flM) ?_))
 refine zcd (λh1=>?_) (λh1=>?_)
 ·have hq:=b9B hv J
  obtain ⟨q,rfl⟩:∃q:Nat,sq=q:=⟨sq.toNat,by omega⟩
  have hS:=sm1 (m:=m) (sc:=sc) (sv:=sv) (q:=q) h1
  refine c3j ?_
  refine zgn ?_
  refine t8 ?_
  first | refine O6 (Gh.nestF (id:=6) _ Z (a0i (x:=(Z4 (m.cp.getD c default)).1) (.cons .s (.cons .s (.cons .s (.cons .t .nil)))))) ?_ | refine O6 (Gh.nestF (id:=6) _ Z (a0i (x:=(a0Y (m.cp.getD c default)).1) (.cons .s (.cons .s (.cons .s (.cons .t .nil)))))) ?_ | refine O6 (Gh.nestF (id:=6) _ Z (a0i (x:=⟨sv,(m.cp.getD c default).st,(m.cp.getD c default).qu⟩) (.cons .s (.cons .s (.cons .s (.cons .s .nil)))))) ?_ | skip
  refine zgo ?_
  refine d7 (p7 Z Z Z Z (b3 (c7 Z ?_) (b3 (c7 Z ?_) (b3 (c7 Z ?_) (b3 (B2 Z ?_) (b3 (i8 ?_) (b3 (i8 ?_) d9)))))))
  all_goals exact b8M
 refine zcd (λh2=>?_) (λh2=>?_)
 ·have hS:=sm2 (m:=m) (sq:=sq) (sc:=sc) (sv:=sv) h2
  refine vm3 ?_
  refine c2W (n:=63) Z Z Z Tryz.func178 Z a8 Z Z Z Z ?_
  apply Exists.intro
  apply Exists.intro
  apply And.intro
  ·intro b hen hpin
   refine vm3 ?_
   refine b5 Z Z (u6 Z Z) ?_
   refine zgo ?_
   refine i6 [0,8,9] [0,1,2,3,4,7] (λ(i:Nat)=>[(10,.v (.int .i64 (i:Int)))]) (λ(i:Nat)=>[(5,some (.row 4 1 ((a6z m i).map m9))),(6,some (.nest 74 4 ((R6 m i).map (a1T 104 76)) []))]) (λ(i:Nat)=>i<=8) (λ(i:Nat)=>8 - i) 0 Z Z ?_ ?_ ?_ ?_
   ·exact Nat.zero_le _
   ·exact ⟨⟨_,Z,by rfl⟩,Z,trivial⟩
   ·exact ⟨⟨_,Z,by rfl⟩,Z,Z,⟨⟨_,Z,by rfl⟩,Z,Z,trivial⟩⟩
   intro i hi
   have hrl:=@a4W m i
   have hcl:=@I8 m i
   have htg:=λh=>hM.tg (i:=i) h
   refine vm2 ?_
   refine zcd (λh101=>?_) (λh101=>?_)
   ·obtain ⟨hta,htb,htc⟩:=htg J
    obtain ⟨hst,hIG⟩:=a7Q hM (i:=i) (k:=tgM m i) J htb
    have htd:tgM m i < m.cp.length:=htb
    refine vm4 ?_
    refine d0f ?_
    refine d6 G 9 Z Z Z Z Z ?_
    refine zgd ?_
    refine zgo ?_
    refine d8 Z (l8 Z Z (u6 Z Z) ?_)
    refine zgo ?_
    refine d8 Z ?_
    first | refine l8 Z Z (v7 G Z Z Z Z Z J Y4) ?_ | refine l8 Z Z (v7 G Z Z Z Z Z J N7) ?_
    refine zgn ?_
    refine t8 (O6 (Gh.open (id:=6) (i:=(tgM m i)) (k:=1) 10 Z Z (c7m J) Z Z) ?_)
    refine vm3 ?_
    refine b5 Z Z (u6 Z Z) ?_
    refine vm4 ?_
    refine c8g ?_
    refine zcd (λh102=>?_) (λh102=>?_)
    ·refine zgo ?_
     refine Y5 ?_
     refine b5 Z Z (u6 Z Z) ?_
     refine zgo ?_
     refine Y5 ?_
     first | refine b5 Z Z (d1 G Z Z Z Z Z J n8) ?_ | refine b5 Z Z (d1 G Z Z Z Z Z J J) ?_
     refine Y5 ?_
     refine c8g ?_
     refine zcd (λh103=>?_) (λh103=>?_)
     ·rw [b0d (Nat.le_refl _)] at h103
      refine zgo ?_
      refine Y5 ?_
      refine b5 Z Z (a8s Z Z) ?_
      refine Y5 ?_
      refine c1t ?_
      refine Y5 ?_
      refine b5 Z Z (b4n G Z Z Z Z Z (F0.2 ⟨_,(a3T N7 Z),Z⟩) (.own (by first | exact List.Mem.head _ | simp) .nil)) ?_
      refine zcl (a15 ((R6 m i).getD (tgM m i) default).st _ (by have:=hIG.f.sn;omega)) ?_
      refine zcd (λh104=>?_) (λh104=>?_)
      ·rw [hst] at h104
       have hcn:=c0u (m:=m) (i:=i) h102 h103 h104
       refine vm3 ?_
       refine b5 Z Z (u6 Z Z) ?_
       refine d0b ?_
       refine O6 (Gh.open (id:=6) (i:=(tgM m i)) (k:=2) 11 Z Z (a3T N7 Z) Z Z) (O6 (Gh.open (id:=6) (i:=(tgM m i)) (k:=3) 12 Z Z (a3T N7 Z) Z Z) (j7 10 [0,1,2,3,4,5,7,8,9,10,11] mixed a8 Z Z (λr0=>?_) (λ_ h=>h)))
       refine zsa 0 ?_
       refine zsa 1 ?_
       refine a8V ?_
       refine b7 (rs:=[2]) a8 Z (AllB.cons ?_ AllB.nil)
       refine g9 [0,1,2,3,4,5,7,8,9,10,11] Z Z (b5 Z Z (a8s Z Z) (b4 ⟨Z,?_⟩))
       refine b7 (rs:=[3]) a8 Z (AllB.cons ?_ AllB.nil)
       refine g9 [0,1,2,3,4,5,7,8,9,10,11] Z Z (b5 Z Z (V3 G Z Z Z Z (a3T N7 Z) Z (.v (.own a77 (.own a77 (.own a77 .nil))))) (b4 ⟨Z,?_⟩))
       refine b7 (rs:=[7]) a8 Z (AllB.cons ?_ AllB.nil)
       refine g9 [0,1,2,3,4,5,7,8,9,10,11] Z Z (d3 15 Z Z Z (ArgsOK.of Z) (a9J ((R6 m i).getD (tgM m i) default) _ _ hIG.f J htc) Z Z (b4 ⟨Z,?_⟩))
       refine a3a (Gh.detach (id:=6) Z) (a3a (Gh.detach (id:=6) Z) (a3a (Gh.detach (id:=6) Z) (b7 (rs:=[8]) a8 Z (AllB.cons ?_ AllB.nil))))
       refine g9 [0,1,2,3,4,5,7,8,9,10,11] Z Z (b5 Z Z (a8s Z Z) (b4 ⟨Z,?_⟩))
       refine b7 (rs:=[9]) a8 Z (AllB.cons ?_ AllB.nil)
       refine g9 [0,1,2,3,4,5,7,8,9,10,11] Z Z (s5 G Z Z Z Z Z (a3T N7 Z) Z Z (.v Z (.own Z (.own Z (.own Z .nil)))) Z Z Z (Nat.le_of_ble_eq_true Z) (λq h=>by cases h) Z (b4 ⟨Z,?_⟩))
       refine H8 ?_
       refine zgo ?_
       refine ⟨(i+1),?_,?_,⟨⟨_,Z,by rfl⟩,Z,trivial⟩,⟨⟨_,Z,by (first | (rw [a1Q hcn];done) | (rw [a1S hcn];exact congrArg (λz=>Row.nest _ _ z []) (a0X J Z)) | (rw [a1P hcn,List.map_set];rfl) | (rw [a1R hcn];exact congrArg (λz=>Row.nest _ _ z []) a58))⟩,Z,Z,⟨⟨_,Z,by (first | (rw [a1Q hcn];done) | (rw [a1S hcn];exact congrArg (λz=>Row.nest _ _ z []) (a0X J Z)) | (rw [a1P hcn,List.map_set];rfl) | (rw [a1R hcn];exact congrArg (λz=>Row.nest _ _ z []) a58))⟩,Z,Z,trivial⟩⟩,Z,Z,Z⟩
       ·omega
       omega
      rw [hst] at h104
      have hcn:=c0x (m:=m) (i:=i) h104
      refine c8h ?_
      refine ⟨(i+1),?_,?_,⟨⟨_,Z,by rfl⟩,Z,trivial⟩,⟨⟨_,Z,by (first | (rw [a1Q hcn];done) | (rw [a1S hcn];exact congrArg (λz=>Row.nest _ _ z []) (a0X J Z)) | (rw [a1P hcn,List.map_set];rfl) | (rw [a1R hcn];exact congrArg (λz=>Row.nest _ _ z []) a58))⟩,Z,Z,⟨⟨_,Z,by (first | (rw [a1Q hcn];done) | (rw [a1S hcn];exact congrArg (λz=>Row.nest _ _ z []) (a0X J Z)) | (rw [a1P hcn,List.map_set];rfl) | (rw [a1R hcn];exact congrArg (λz=>Row.nest _ _ z []) a58))⟩,Z,Z,trivial⟩⟩,Z,Z,Z⟩
      ·omega
      omega
     rw [b0d (Nat.le_refl _)] at h103
     have hcn:=c0w (m:=m) (i:=i) h103
     refine zwf ?_
     refine c8h ?_
     refine ⟨(i+1),?_,?_,⟨⟨_,Z,by rfl⟩,Z,trivial⟩,⟨⟨_,Z,by (first | (rw [a1Q hcn];done) | (rw [a1S hcn];exact congrArg (λz=>Row.nest _ _ z []) (a0X J Z)) | (rw [a1P hcn,List.map_set];rfl) | (rw [a1R hcn];exact congrArg (λz=>Row.nest _ _ z []) a58))⟩,Z,Z,⟨⟨_,Z,by (first | (rw [a1Q hcn];done) | (rw [a1S hcn];exact congrArg (λz=>Row.nest _ _ z []) (a0X J Z)) | (rw [a1P hcn,List.map_set];rfl) | (rw [a1R hcn];exact congrArg (λz=>Row.nest _ _ z []) a58))⟩,Z,Z,trivial⟩⟩,Z,Z,Z⟩
     ·omega
     omega
    have hcn:=c0v (m:=m) (i:=i) h102
    refine zwf ?_
    refine c8h ?_
    refine ⟨(i+1),?_,?_,⟨⟨_,Z,by rfl⟩,Z,trivial⟩,⟨⟨_,Z,by (first | (rw [a1Q hcn];done) | (rw [a1S hcn];exact congrArg (λz=>Row.nest _ _ z []) (a0X J Z)) | (rw [a1P hcn,List.map_set];rfl) | (rw [a1R hcn];exact congrArg (λz=>Row.nest _ _ z []) a58))⟩,Z,Z,⟨⟨_,Z,by (first | (rw [a1Q hcn];done) | (rw [a1S hcn];exact congrArg (λz=>Row.nest _ _ z []) (a0X J Z)) | (rw [a1P hcn,List.map_set];rfl) | (rw [a1R hcn];exact congrArg (λz=>Row.nest _ _ z []) a58))⟩,Z,Z,trivial⟩⟩,Z,Z,Z⟩
    ·omega
    omega
   obtain rfl:i=8:=J
   exact J0 ⟨.inl Z,Z,Z⟩
  refine ⟨Z,?_⟩
  refine zgn ?_
  refine t8 ?_
  first | refine O6 (Gh.nestF (id:=6) _ Z (a0i (x:=(Z4 (m.cp.getD c default)).1) (.cons .s (.cons .s (.cons .s (.cons .t .nil)))))) ?_ | refine O6 (Gh.nestF (id:=6) _ Z (a0i (x:=(a0Y (m.cp.getD c default)).1) (.cons .s (.cons .s (.cons .s (.cons .t .nil)))))) ?_ | refine O6 (Gh.nestF (id:=6) _ Z (a0i (x:=⟨sv,(m.cp.getD c default).st,(m.cp.getD c default).qu⟩) (.cons .s (.cons .s (.cons .s (.cons .s .nil)))))) ?_ | skip
  refine zgo ?_
  refine d7 (p7 Z Z Z Z (b3 (c7 Z ?_) (b3 (c7 Z ?_) (b3 (c7 Z ?_) (b3 (B2 Z ?_) (b3 (i8 ?_) (b3 (i8 ?_) d9)))))))
  all_goals exact b8M
 refine zcd (λh3=>?_) (λh3=>?_)
 ·have hc:=b1H hv J
  obtain ⟨c,rfl⟩:∃c:Nat,sc=c:=⟨sc.toNat,by omega⟩
  obtain ⟨g1,g2,g3⟩:=hM.lens (k:=c) J
  have hIG:=hM.ok c J
  have hS:=d1d (m:=m) (sq:=sq) (sv:=sv) (c:=c) h3
  refine j7 19 [0,1,2,3,4,5,7] mixed a8 Z Z (λr0=>?_) (λ_ h=>h)
  refine a1q ?_
  refine a8V ?_
  refine zsa 7 ?_
  refine zsa 8 ?_
  refine zsa 9 ?_
  refine b7 (rs:=[10]) a8 Z (AllB.cons ?_ AllB.nil)
  refine g9 [0,1,2,3,4,5,7] Z Z (d3 11 Z Z Z (ArgsOK.of Z) (b1n (m.cp.getD c default) hIG.f) Z Z (b4 ⟨Z,?_⟩))
  refine zsa 11 ?_
  refine zsa 12 ?_
  refine zsa 13 ?_
  refine zsa 14 ?_
  refine b7 (rs:=[15]) a8 Z (AllB.cons ?_ AllB.nil)
  first | refine e9 [0,1,2,3,4,5,7] Z Z (b5 Z Z (v7 G Z Z Z Z Z J Y4) (b4 ⟨Z,?_⟩)) | refine e9 [0,1,2,3,4,5,7] Z Z (b5 Z Z (v7 G Z Z Z Z Z J N7) (b4 ⟨Z,?_⟩)) | refine e9 [0,1,2,3,4,5,7] Z Z (b5 Z Z (v7 G Z Z Z Z Z J J) (b4 ⟨Z,?_⟩))
  refine b7 (rs:=[16]) a8 Z (AllB.cons ?_ AllB.nil)
  first | refine e9 [0,1,2,3,4,5,7] Z Z (s5 G Z Z Z Z Z (C3 J J) Z Z (.v Z (.own Z (.own Z (.own Z .nil)))) Z Z Z (Nat.le_of_ble_eq_true Z) (λq h=>by cases h) Z (b4 ⟨Z,?_⟩)) | refine e9 [0,1,2,3,4,5,7] Z Z (s5 G Z Z Z Z Z (H1 J J) Z Z (.v Z (.own Z (.own Z (.own Z .nil)))) Z Z Z (Nat.le_of_ble_eq_true Z) (λq h=>by cases h) Z (b4 ⟨Z,?_⟩)) | refine e9 [0,1,2,3,4,5,7] Z Z (s5 G Z Z Z Z Z (a3T N7 Z) Z Z (.v Z (.own Z (.own Z (.own Z .nil)))) Z Z Z (Nat.le_of_ble_eq_true Z) (λq h=>by cases h) Z (b4 ⟨Z,?_⟩))
  refine zsa 17 ?_
  refine zsa 18 ?_
  refine H8 ?_
  refine t8 ?_
  first | refine O6 (Gh.nestF (id:=6) _ Z (a0i (x:=(Z4 (m.cp.getD c default)).1) (.cons .s (.cons .s (.cons .s (.cons .t .nil)))))) ?_ | refine O6 (Gh.nestF (id:=6) _ Z (a0i (x:=(a0Y (m.cp.getD c default)).1) (.cons .s (.cons .s (.cons .s (.cons .t .nil)))))) ?_ | refine O6 (Gh.nestF (id:=6) _ Z (a0i (x:=⟨sv,(m.cp.getD c default).st,(m.cp.getD c default).qu⟩) (.cons .s (.cons .s (.cons .s (.cons .s .nil)))))) ?_ | skip
  refine zgo ?_
  refine d7 (p7 Z Z Z Z (b3 (c7 Z ?_) (b3 (c7 Z ?_) (b3 (c7 Z ?_) (b3 (B2 Z ?_) (b3 (i8 ?_) (b3 (i8 ?_) d9)))))))
  all_goals exact b8M
 refine zcd (λh4=>?_) (λh4=>?_)
 ·have hc:=b1H hv J
  obtain ⟨c,rfl⟩:∃c:Nat,sc=c:=⟨sc.toNat,by omega⟩
  obtain ⟨g1,g2,g3⟩:=hM.lens (k:=c) J
  have hIG:=hM.ok c J
  have hS:=d1e (m:=m) (sq:=sq) (sv:=sv) (c:=c) h4
  refine j7 19 [0,1,2,3,4,5,7] mixed a8 Z Z (λr0=>?_) (λ_ h=>h)
  refine a1q ?_
  refine a8V ?_
  refine zsa 7 ?_
  refine zsa 8 ?_
  refine zsa 9 ?_
  refine b7 (rs:=[10]) a8 Z (AllB.cons ?_ AllB.nil)
  refine g9 [0,1,2,3,4,5,7] Z Z (d3 11 Z Z Z (ArgsOK.of Z) (a5X (m.cp.getD c default) hIG) Z Z (b4 ⟨Z,?_⟩))
  refine zsa 11 ?_
  refine zsa 12 ?_
  refine zsa 13 ?_
  refine zsa 14 ?_
  refine b7 (rs:=[15]) a8 Z (AllB.cons ?_ AllB.nil)
  first | refine e9 [0,1,2,3,4,5,7] Z Z (b5 Z Z (v7 G Z Z Z Z Z J Y4) (b4 ⟨Z,?_⟩)) | refine e9 [0,1,2,3,4,5,7] Z Z (b5 Z Z (v7 G Z Z Z Z Z J N7) (b4 ⟨Z,?_⟩)) | refine e9 [0,1,2,3,4,5,7] Z Z (b5 Z Z (v7 G Z Z Z Z Z J J) (b4 ⟨Z,?_⟩))
  refine b7 (rs:=[16]) a8 Z (AllB.cons ?_ AllB.nil)
  first | refine e9 [0,1,2,3,4,5,7] Z Z (s5 G Z Z Z Z Z (C3 J J) Z Z (.v Z (.own Z (.own Z (.own Z .nil)))) Z Z Z (Nat.le_of_ble_eq_true Z) (λq h=>by cases h) Z (b4 ⟨Z,?_⟩)) | refine e9 [0,1,2,3,4,5,7] Z Z (s5 G Z Z Z Z Z (H1 J J) Z Z (.v Z (.own Z (.own Z (.own Z .nil)))) Z Z Z (Nat.le_of_ble_eq_true Z) (λq h=>by cases h) Z (b4 ⟨Z,?_⟩)) | refine e9 [0,1,2,3,4,5,7] Z Z (s5 G Z Z Z Z Z (a3T N7 Z) Z Z (.v Z (.own Z (.own Z (.own Z .nil)))) Z Z Z (Nat.le_of_ble_eq_true Z) (λq h=>by cases h) Z (b4 ⟨Z,?_⟩))
  refine zsa 17 ?_
  refine zsa 18 ?_
  refine H8 ?_
  refine t8 ?_
  first | refine O6 (Gh.nestF (id:=6) _ Z (a0i (x:=(Z4 (m.cp.getD c default)).1) (.cons .s (.cons .s (.cons .s (.cons .t .nil)))))) ?_ | refine O6 (Gh.nestF (id:=6) _ Z (a0i (x:=(a0Y (m.cp.getD c default)).1) (.cons .s (.cons .s (.cons .s (.cons .t .nil)))))) ?_ | refine O6 (Gh.nestF (id:=6) _ Z (a0i (x:=⟨sv,(m.cp.getD c default).st,(m.cp.getD c default).qu⟩) (.cons .s (.cons .s (.cons .s (.cons .s .nil)))))) ?_ | skip
  refine zgo ?_
  refine d7 (p7 Z Z Z Z (b3 (c7 Z ?_) (b3 (c7 Z ?_) (b3 (c7 Z ?_) (b3 (B2 Z ?_) (b3 (i8 ?_) (b3 (i8 ?_) d9)))))))
  all_goals exact b8M
 refine zcd (λh5=>?_) (λh5=>?_)
 ·have hc:=b1H hv J
  obtain ⟨c,rfl⟩:∃c:Nat,sc=c:=⟨sc.toNat,by omega⟩
  obtain ⟨g1,g2,g3⟩:=hM.lens (k:=c) J
  have hIG:=hM.ok c J
  have hS:=sm5 (m:=m) (sq:=sq) (sv:=sv) (c:=c) h5
  refine vm8 ?_
  refine c1t ?_
  refine r6 ?_
  first | refine s5 G Z Z Z Z Z (C3 J J) Z Z (.v Z .nil) Z Z Z (Nat.le_of_ble_eq_true Z) (λq h=>by cases h) Z ?_ | refine s5 G Z Z Z Z Z (H1 J J) Z Z (.v Z .nil) Z Z Z (Nat.le_of_ble_eq_true Z) (λq h=>by cases h) Z ?_ | refine s5 G Z Z Z Z Z (a3T N7 Z) Z Z (.v Z .nil) Z Z Z (Nat.le_of_ble_eq_true Z) (λq h=>by cases h) Z ?_
  refine zgn ?_
  refine t8 ?_
  first | refine O6 (Gh.nestF (id:=6) _ Z (a0i (x:=(Z4 (m.cp.getD c default)).1) (.cons .s (.cons .s (.cons .s (.cons .t .nil)))))) ?_ | refine O6 (Gh.nestF (id:=6) _ Z (a0i (x:=(a0Y (m.cp.getD c default)).1) (.cons .s (.cons .s (.cons .s (.cons .t .nil)))))) ?_ | refine O6 (Gh.nestF (id:=6) _ Z (a0i (x:=⟨sv,(m.cp.getD c default).st,(m.cp.getD c default).qu⟩) (.cons .s (.cons .s (.cons .s (.cons .s .nil)))))) ?_ | skip
  refine zgo ?_
  refine d7 (p7 Z Z Z Z (b3 (c7 Z ?_) (b3 (c7 Z ?_) (b3 (c7 Z ?_) (b3 (B2 Z ?_) (b3 (i8 ?_) (b3 (i8 ?_) d9)))))))
  all_goals exact b8M
 refine zcd (λh6=>?_) (λh6=>?_)
 ·have hq:=b9B hv J
  obtain ⟨q,rfl⟩:∃q:Nat,sq=q:=⟨sq.toNat,by omega⟩
  have hS:=sm6 (m:=m) (sk:=sk) (sc:=sc) (sv:=sv) (q:=q) h6
  refine c3j ?_
  refine zgn ?_
  refine t8 ?_
  first | refine O6 (Gh.nestF (id:=6) _ Z (a0i (x:=(Z4 (m.cp.getD c default)).1) (.cons .s (.cons .s (.cons .s (.cons .t .nil)))))) ?_ | refine O6 (Gh.nestF (id:=6) _ Z (a0i (x:=(a0Y (m.cp.getD c default)).1) (.cons .s (.cons .s (.cons .s (.cons .t .nil)))))) ?_ | refine O6 (Gh.nestF (id:=6) _ Z (a0i (x:=⟨sv,(m.cp.getD c default).st,(m.cp.getD c default).qu⟩) (.cons .s (.cons .s (.cons .s (.cons .s .nil)))))) ?_ | skip
  refine zgo ?_
  refine d7 (p7 Z Z Z Z (b3 (c7 Z ?_) (b3 (c7 Z ?_) (b3 (c7 Z ?_) (b3 (B2 Z ?_) (b3 (i8 ?_) (b3 (i8 ?_) d9)))))))
  all_goals exact b8M
 exact absurd (c6C hv) J
theorem a6R (m:Mach) (sk sq sc sv:Int) (hs:SmallM m):Ctr Tryz.prog 77 [.agg [.lst 2 (m.rs.map p5),.lst 1 (m.en.map m9),.lst 1 (m.ra.map m9),.nst none 4 (m.cp.map (s2 104 76))],.v (.agg ⟨[.int .i64 sk,.int .i64 sq,.int .i64 sc,.int .i64 sv]⟩)] (.shp false [some 4,none,none] [.fr 132 2 ((smT m ⟨sk,sq,sc,sv⟩).1.rs.map p5),.fr 4 1 ((smT m ⟨sk,sq,sc,sv⟩).1.en.map m9),.fr 4 1 ((smT m ⟨sk,sq,sc,sv⟩).1.ra.map m9),.ne 74 4 ((smT m ⟨sk,sq,sc,sv⟩).1.cp.map (a1T 104 76)),.v (.int .i64 (smT m ⟨sk,sq,sc,sv⟩).2.1),.v (.bool (smT m ⟨sk,sq,sc,sv⟩).2.2)]):=by
 have hcp:=hs.cp
 refine Ctr.of (n:=32) G Tryz.func77 Z a8 Z Z Z (λw0=>?_)
 refine n9 0 Z (λ_=>Z) (λu0=>?_)
 refine b6E ?_
 refine zcl (a0D m hs) ?_
 refine zcd (λh1=>?_) (λh1=>?_)
 ·exact c58
 have hM:=(maF h1).g
 refine zcl (a5S m ⟨sk,sq,sc,sv⟩ J) ?_
 refine zcd (λh2=>?_) (λh2=>?_)
 ·have hO:=b2J (m:=m) (.inr (.inl h2))
  exact b8Z
 refine vm3 ?_
 refine d3 7 Z Z Z (ArgsOK.of Z) (a6Q m sk sq sc sv hM h2) Z Z ?_
 refine vm3 ?_
 refine b36 ?_
 refine zcd (λh3=>?_) (λh3=>?_)
 ·have hO:=b2J (.inr (.inr h3))
  exact b8Z
 have hO:=c34 h1 h2 h3
 refine zgo ?_
 refine d7 (p7 Z Z Z Z (b3 (c7 Z ?_) (b3 (c7 Z ?_) (b3 (c7 Z ?_) (b3 (B2 Z ?_) (b3 (i8 ?_) (b3 (i8 ?_) d9)))))))
 all_goals (first | rfl | (rw [hO];done) | (rw [hO];rfl))
theorem A9 (m:Mach) (sk sq sc sv:Int) (hs:SmallM m):Ctr Tryz.prog 128 [.agg [.lst 2 (m.rs.map p5),.lst 1 (m.en.map m9),.lst 1 (m.ra.map m9),.nst none 4 (m.cp.map (s2 104 76))],.v (.agg ⟨[.int .i64 sk,.int .i64 sq,.int .i64 sc,.int .i64 sv]⟩)] (.shp false [some 4,none,none] [.fr 132 2 ((smT m ⟨sk,sq,sc,sv⟩).1.rs.map p5),.fr 4 1 ((smT m ⟨sk,sq,sc,sv⟩).1.en.map m9),.fr 4 1 ((smT m ⟨sk,sq,sc,sv⟩).1.ra.map m9),.ne 74 4 ((smT m ⟨sk,sq,sc,sv⟩).1.cp.map (s2 104 76)),.v (.int .i64 (smT m ⟨sk,sq,sc,sv⟩).2.1),.v (.bool (smT m ⟨sk,sq,sc,sv⟩).2.2)]):=by
 have hcp:=hs.cp
 refine Ctr.of (n:=32) G Tryz.func128 Z a8 Z Z Z (λw0=>?_)
 refine n9 0 Z (λ_=>Z) (λu0=>?_)
 refine b6E ?_
 refine zcl (a5h m hs) ?_
 refine zcd (λh1=>?_) (λh1=>?_)
 ·exact c58
 have hM:=(maF h1).g
 refine zcl (a3w m ⟨sk,sq,sc,sv⟩ J) ?_
 refine zcd (λh2=>?_) (λh2=>?_)
 ·have hO:=b2J (m:=m) (.inr (.inl h2))
  exact b8Z
 refine zgn ?_
 refine t8 ?_
 by_cases hno:b1J m ⟨sk,sq,sc,sv⟩
 ·have hO:=b2J (.inr (.inr (c7b hno)))
  refine vm3 ?_
  refine d3 7 Z Z Z (ArgsOK.of Z) (a2v m sk sq sc sv hM h2 hno) Z Z ?_
  refine vm3 ?_
  refine b36 ?_
  refine zwt ?_
  exact b8Z
 refine vm3 ?_
 refine d3 7 Z Z Z (ArgsOK.of Z) (a5c m sk sq sc sv hM h2 hno) Z Z ?_
 refine vm3 ?_
 refine b36 ?_
 refine zcd (λh3=>?_) (λh3=>?_)
 ·have hO:=b2J (.inr (.inr h3))
  exact b8Z
 have hO:=c34 h1 h2 h3
 refine zgo ?_
 refine d7 (p7 Z Z Z Z (b3 (c7 Z ?_) (b3 (c7 Z ?_) (b3 (c7 Z ?_) (b3 (B2 Z ?_) (b3 (i8 ?_) (b3 (i8 ?_) d9)))))))
 all_goals (first | rfl | (rw [hO];done) | (rw [hO];rfl))
end Go.Proofs.YtdhckhjphmjniaaGreatDoor
