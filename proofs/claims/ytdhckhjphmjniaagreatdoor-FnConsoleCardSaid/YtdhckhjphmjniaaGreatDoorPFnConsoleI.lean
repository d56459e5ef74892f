/- Texts merged into one: M25, Q3. -/
import Derived.Test.YtdhckhjphmjniaaGreatDoorPFnConsoleH
set_option maxHeartbeats 4000000
set_option linter.unusedSimpArgs false
set_option linter.unusedVariables false
set_option maxRecDepth 20000
namespace Go.Proofs.YtdhckhjphmjniaaGreatDoor
open Go Go.Rf
theorem a6y (x:Ifc) (hn:x.st.length=0):Ctr Tryz.prog 180 [.agg [.v (.int .i64 x.ma),.lst 1 (x.st.map Rf.r5),.lst 3 (x.qu.sl.map g8),.lst 2 (x.qu.wa.map j6)]] (.shp false [some 4,none,none] [.v (.int .i64 0),.fr 3 1 (([]:List Int).map Rf.r5),.fr 104 3 ((⟨[],[]⟩:Que).sl.map g8),.fr 76 2 ((⟨[],[]⟩:Que).wa.map j6) true,.v (.int .i64 0),.v (.bool false)]):=by
 refine Ctr.of (n:=40) G Tryz.func180 Z a8 Z Z Z (λw0=>?_)
 refine m7 0 Z (λ_=>Z) (λu0=>?_)
 refine vm1 ?_
 refine vm9 ?_
 refine zcd (λh1=>?_) (λh1=>?_)
 ·refine zgo ?_
  refine d8 (p4 Z Z Z Z (b3 (j4 ?_) (b3 (I0 ?_) (b3 (I0 ?_) (b3 (I0 ?_) (b3 (j4 ?_) (b3 (j4 ?_) d9)))))))
  all_goals (rfl)
 exfalso;omega
theorem a5G (x:Ifc) (hG:IfG x):Ctr Tryz.prog 180 [.agg [.v (.int .i64 x.ma),.lst 1 (x.st.map Rf.r5),.lst 3 (x.qu.sl.map g8),.lst 2 (x.qu.wa.map j6)]] (.shp false [some 4,none,none] [.v (.int .i64 (a0G x).1.ma),.fr 3 1 ((a0G x).1.st.map Rf.r5),.fr 104 3 ((a0G x).1.qu.sl.map g8),.fr 76 2 ((a0G x).1.qu.wa.map j6) true,.v (.int .i64 (a0G x).2.1),.v (.bool (a0G x).2.2)]):=by
 by_cases h:x.st.length=0
 ·rw [b6T h];exact a6y x h
 rw [b6U h];exact a9l x hG h
theorem a6z (m:Mach) (sk sq sc sv:Int) (hM:MaG m) (hv:R4 m.cp.length ⟨sk,sq,sc,sv⟩=true):Ctr Tryz.prog 121 [.agg [.lst 2 (m.rs.map p8),.lst 1 (m.en.map n7),.lst 1 (m.ra.map n7),.nst none 4 (m.cp.map (r4 104 76))],.v (.agg ⟨[.int .i64 sk,.int .i64 sq,.int .i64 sc,.int .i64 sv]⟩)] (.shp false [some 4,none,none] [.fr 132 2 ((stM m ⟨sk,sq,sc,sv⟩).1.rs.map p8),.fr 4 1 ((stM m ⟨sk,sq,sc,sv⟩).1.en.map n7),.fr 4 1 ((stM m ⟨sk,sq,sc,sv⟩).1.ra.map n7),.ne 74 4 ((stM m ⟨sk,sq,sc,sv⟩).1.cp.map (a3I 104 76)),.v (.int .i64 (stM m ⟨sk,sq,sc,sv⟩).2.1),.v (.bool (stM m ⟨sk,sq,sc,sv⟩).2.2)]):=by
 have f1:=hM.n
 have f2:=hM.en
 have f3:=hM.ra
 have f4:=hM.rn
 refine Ctr.of (n:=90) G Tryz.func121 Z a8 Z Z Z (λw0=>?_)
 refine m7 0 Z (λ_=>Z) (λu0=>?_)
 refine b5V ?_
 refine vm3 ?_
 refine d3 7 Z Z Z (ArgsOK.of Z) (a7N m hM) Z Z ?_
 refine p6 ?_
 refine b4M ?_
 refine zgn ?_
 refine s5 (s5 (N4 (Gh.nestF (id:=6) _ Z flM) ?_))
 refine zcd (λh1=>?_) (λh1=>?_)
 ·have hq:=b8N hv J
  obtain ⟨q,rfl⟩:∃q:Nat,sq=q:=⟨sq.toNat,by omega⟩
  have hS:=sm1 (m:=m) (sc:=sc) (sv:=sv) (q:=q) h1
  refine c2n ?_
  refine zgn ?_
  refine s5 ?_
  first | refine N4 (Gh.nestF (id:=6) _ Z (Z4 (x:=(X7 (m.cp.getD c default)).1) (.cons .s (.cons .s (.cons .s (.cons .t .nil)))))) ?_ | refine N4 (Gh.nestF (id:=6) _ Z (Z4 (x:=(a0G (m.cp.getD c default)).1) (.cons .s (.cons .s (.cons .s (.cons .t .nil)))))) ?_ | refine N4 (Gh.nestF (id:=6) _ Z (Z4 (x:=⟨sv,(m.cp.getD c default).st,(m.cp.getD c default).qu⟩) (.cons .s (.cons .s (.cons .s (.cons .s .nil)))))) ?_ | skip
  refine zgo ?_
  refine d8 (p4 Z Z Z Z (b3 (c7 Z ?_) (b3 (c7 Z ?_) (b3 (c7 Z ?_) (b3 (A1 Z ?_) (b3 (j4 ?_) (b3 (j4 ?_) d9)))))))
  all_goals exact b70
 refine zcd (λh2=>?_) (λh2=>?_)
 ·have hS:=sm2 (m:=m) (sq:=sq) (sc:=sc) (sv:=sv) h2
  refine vm3 ?_
  refine c12 (n:=63) Z Z Z Tryz.func178 Z a8 Z Z Z Z ?_
  apply Exists.intro
  apply Exists.intro
  apply And.intro
  ·intro b hen hpin
   refine vm3 ?_
   refine b5 Z Z (s9 Z Z) ?_
   refine zgo ?_
   refine g9 [0,8,9] [0,1,2,3,4,7] (λ(i:Nat)=>[(10,.v (.int .i64 (i:Int)))]) (λ(i:Nat)=>[(5,some (.row 4 1 ((a6j m i).map n7))),(6,some (.nest 74 4 ((P6 m i).map (a3I 104 76)) []))]) (λ(i:Nat)=>i<=8) (λ(i:Nat)=>8 - i) 0 Z Z ?_ ?_ ?_ ?_
   ·exact Nat.zero_le _
   ·exact ⟨⟨_,Z,by rfl⟩,Z,trivial⟩
   ·exact ⟨⟨_,Z,by rfl⟩,Z,Z,⟨⟨_,Z,by rfl⟩,Z,Z,trivial⟩⟩
   intro i hi
   have hrl:=@a4I m i
   have hcl:=@H7 m i
   have htg:=λh=>hM.tg (i:=i) h
   refine vm2 ?_
   refine zcd (λh101=>?_) (λh101=>?_)
   ·obtain ⟨hta,htb,htc⟩:=htg J
    obtain ⟨hst,hIG⟩:=a7v hM (i:=i) (k:=tgM m i) J htb
    have htd:tgM m i < m.cp.length:=htb
    refine vm4 ?_
    first | refine b5 Z Z (f6 G Z Z Z Z (a2D J) Z) ?_ | refine b5 Z Z (f6 G Z Z Z Z (B6 J J) Z) ?_
    refine p6 ?_
    refine d6 G 9 Z Z Z Z Z ?_
    refine zgd ?_
    refine zgo ?_
    refine d4 Z (l2 Z Z (s9 Z Z) ?_)
    refine zgo ?_
    refine d4 Z ?_
    first | refine l2 Z Z (u7 G Z Z Z Z Z J Y0) ?_ | refine l2 Z Z (u7 G Z Z Z Z Z J K0) ?_
    refine zgn ?_
    refine s5 (N4 (Gh.open (id:=6) (i:=(tgM m i)) (k:=1) 10 Z Z (c6l J) Z Z) ?_)
    refine vm3 ?_
    refine b5 Z Z (s9 Z Z) ?_
    refine vm4 ?_
    refine c87 ?_
    refine zcd (λh102=>?_) (λh102=>?_)
    ·refine zgo ?_
     refine W8 ?_
     refine b5 Z Z (s9 Z Z) ?_
     refine zgo ?_
     refine W8 ?_
     first | refine b5 Z Z (c8 G Z Z Z Z Z J m8) ?_ | refine b5 Z Z (c8 G Z Z Z Z Z J J) ?_
     refine W8 ?_
     refine c87 ?_
     refine zcd (λh103=>?_) (λh103=>?_)
     ·rw [a9J (Nat.le_refl _)] at h103
      refine zgo ?_
      refine W8 ?_
      refine b5 Z Z (a7Z Z Z) ?_
      refine W8 ?_
      refine c2w ?_
      refine W8 ?_
      refine b5 Z Z (b3H G Z Z Z Z Z (E1.2 ⟨_,(a3B K0 Z),Z⟩) (.own (by first | exact List.Mem.head _ | simp) .nil)) ?_
      refine zcl (a1N ((P6 m i).getD (tgM m i) default).st _ (by have:=hIG.f.sn;omega)) ?_
      refine zcd (λh104=>?_) (λh104=>?_)
      ·rw [hst] at h104
       have hcn:=b9J (m:=m) (i:=i) h102 h103 h104
       refine vm3 ?_
       refine b5 Z Z (s9 Z Z) ?_
       refine c81 ?_
       refine N4 (Gh.open (id:=6) (i:=(tgM m i)) (k:=2) 11 Z Z (a3B K0 Z) Z Z) (N4 (Gh.open (id:=6) (i:=(tgM m i)) (k:=3) 12 Z Z (a3B K0 Z) Z Z) (l1 10 [0,1,2,3,4,5,7,8,9,10,11] mixed a8 Z Z (λr0=>?_) (λ_ h=>h)))
       refine zsa 0 ?_
       refine zsa 1 ?_
       refine a8t ?_
       refine b6 (rs:=[2]) a8 Z (AllB.cons ?_ AllB.nil)
       refine f8 [0,1,2,3,4,5,7,8,9,10,11] Z Z (b5 Z Z (a7Z Z Z) (b4 ⟨Z,?_⟩))
       refine b6 (rs:=[3]) a8 Z (AllB.cons ?_ AllB.nil)
       refine f8 [0,1,2,3,4,5,7,8,9,10,11] Z Z (b5 Z Z (T8 G Z Z Z Z (a3B K0 Z) Z (.v (.own a7I (.own a7I (.own a7I .nil))))) (b4 ⟨Z,?_⟩))
       refine b6 (rs:=[7]) a8 Z (AllB.cons ?_ AllB.nil)
       refine f8 [0,1,2,3,4,5,7,8,9,10,11] Z Z (d3 15 Z Z Z (ArgsOK.of Z) (a9i ((P6 m i).getD (tgM m i) default) _ _ hIG.f J htc) Z Z (b4 ⟨Z,?_⟩))
       refine a3T (Gh.detach (id:=6) Z) (a3T (Gh.detach (id:=6) Z) (a3T (Gh.detach (id:=6) Z) (b6 (rs:=[8]) a8 Z (AllB.cons ?_ AllB.nil))))
       refine f8 [0,1,2,3,4,5,7,8,9,10,11] Z Z (b5 Z Z (a7Z Z Z) (b4 ⟨Z,?_⟩))
       refine b6 (rs:=[9]) a8 Z (AllB.cons ?_ AllB.nil)
       refine f8 [0,1,2,3,4,5,7,8,9,10,11] Z Z (r7 G Z Z Z Z Z (a3B K0 Z) Z Z (.v Z (.own Z (.own Z (.own Z .nil)))) Z Z Z (Nat.le_of_ble_eq_true Z) (λq h=>by cases h) Z (b4 ⟨Z,?_⟩))
       refine G9 ?_
       refine zgo ?_
       refine ⟨(i+1),?_,?_,⟨⟨_,Z,by rfl⟩,Z,trivial⟩,⟨⟨_,Z,by (first | (rw [a1x hcn];done) | (rw [a1z hcn];exact congrArg (λz=>Row.nest _ _ z []) (a0F J Z)) | (rw [a1w hcn,List.map_set];rfl) | (rw [a1y hcn];exact congrArg (λz=>Row.nest _ _ z []) a5O))⟩,Z,Z,⟨⟨_,Z,by (first | (rw [a1x hcn];done) | (rw [a1z hcn];exact congrArg (λz=>Row.nest _ _ z []) (a0F J Z)) | (rw [a1w hcn,List.map_set];rfl) | (rw [a1y hcn];exact congrArg (λz=>Row.nest _ _ z []) a5O))⟩,Z,Z,trivial⟩⟩,Z,Z,Z⟩
       ·omega
       omega
      rw [hst] at h104
      have hcn:=b9M (m:=m) (i:=i) h104
      refine c66 ?_
      refine ⟨(i+1),?_,?_,⟨⟨_,Z,by rfl⟩,Z,trivial⟩,⟨⟨_,Z,by (first | (rw [a1x hcn];done) | (rw [a1z hcn];exact congrArg (λz=>Row.nest _ _ z []) (a0F J Z)) | (rw [a1w hcn,List.map_set];rfl) | (rw [a1y hcn];exact congrArg (λz=>Row.nest _ _ z []) a5O))⟩,Z,Z,⟨⟨_,Z,by (first | (rw [a1x hcn];done) | (rw [a1z hcn];exact congrArg (λz=>Row.nest _ _ z []) (a0F J Z)) | (rw [a1w hcn,List.map_set];rfl) | (rw [a1y hcn];exact congrArg (λz=>Row.nest _ _ z []) a5O))⟩,Z,Z,trivial⟩⟩,Z,Z,Z⟩
      ·omega
      omega
     rw [a9J (Nat.le_refl _)] at h103
     have hcn:=b9L (m:=m) (i:=i) h103
     refine zwf ?_
     refine c66 ?_
     refine ⟨(i+1),?_,?_,⟨⟨_,Z,by rfl⟩,Z,trivial⟩,⟨⟨_,Z,by (first | (rw [a1x hcn];done) | (rw [a1z hcn];exact congrArg (λz=>Row.nest _ _ z []) (a0F J Z)) | (rw [a1w hcn,List.map_set];rfl) | (rw [a1y hcn];exact congrArg (λz=>Row.nest _ _ z []) a5O))⟩,Z,Z,⟨⟨_,Z,by (first | (rw [a1x hcn];done) | (rw [a1z hcn];exact congrArg (λz=>Row.nest _ _ z []) (a0F J Z)) | (rw [a1w hcn,List.map_set];rfl) | (rw [a1y hcn];exact congrArg (λz=>Row.nest _ _ z []) a5O))⟩,Z,Z,trivial⟩⟩,Z,Z,Z⟩
     ·omega
     omega
    have hcn:=b9K (m:=m) (i:=i) h102
    refine zwf ?_
    refine c66 ?_
    refine ⟨(i+1),?_,?_,⟨⟨_,Z,by rfl⟩,Z,trivial⟩,⟨⟨_,Z,by (first | (rw [a1x hcn];done) | (rw [a1z hcn];exact congrArg (λz=>Row.nest _ _ z []) (a0F J Z)) | (rw [a1w hcn,List.map_set];rfl) | (rw [a1y hcn];exact congrArg (λz=>Row.nest _ _ z []) a5O))⟩,Z,Z,⟨⟨_,Z,by (first | (rw [a1x hcn];done) | (rw [a1z hcn];exact congrArg (λz=>Row.nest _ _ z []) (a0F J Z)) | (rw [a1w hcn,List.map_set];rfl) | (rw [a1y hcn];exact congrArg (λz=>Row.nest _ _ z []) a5O))⟩,Z,Z,trivial⟩⟩,Z,Z,Z⟩
    ·omega
    omega
   obtain rfl:i=8:=J
   exact R5 ⟨.inl Z,Z,Z⟩
  refine ⟨Z,?_⟩
  refine zgn ?_
  refine s5 ?_
  first | refine N4 (Gh.nestF (id:=6) _ Z (Z4 (x:=(X7 (m.cp.getD c default)).1) (.cons .s (.cons .s (.cons .s (.cons .t .nil)))))) ?_ | refine N4 (Gh.nestF (id:=6) _ Z (Z4 (x:=(a0G (m.cp.getD c default)).1) (.cons .s (.cons .s (.cons .s (.cons .t .nil)))))) ?_ | refine N4 (Gh.nestF (id:=6) _ Z (Z4 (x:=⟨sv,(m.cp.getD c default).st,(m.cp.getD c default).qu⟩) (.cons .s (.cons .s (.cons .s (.cons .s .nil)))))) ?_ | skip
  refine zgo ?_
  refine d8 (p4 Z Z Z Z (b3 (c7 Z ?_) (b3 (c7 Z ?_) (b3 (c7 Z ?_) (b3 (A1 Z ?_) (b3 (j4 ?_) (b3 (j4 ?_) d9)))))))
  all_goals exact b70
 refine zcd (λh3=>?_) (λh3=>?_)
 ·have hc:=b08 hv J
  obtain ⟨c,rfl⟩:∃c:Nat,sc=c:=⟨sc.toNat,by omega⟩
  obtain ⟨g1,g2,g3⟩:=hM.lens (k:=c) J
  have hIG:=hM.ok c J
  have hS:=c93 (m:=m) (sq:=sq) (sv:=sv) (c:=c) h3
  refine l1 19 [0,1,2,3,4,5,7] mixed a8 Z Z (λr0=>?_) (λ_ h=>h)
  refine a06 ?_
  refine a8t ?_
  refine zsa 7 ?_
  refine zsa 8 ?_
  refine zsa 9 ?_
  refine b6 (rs:=[10]) a8 Z (AllB.cons ?_ AllB.nil)
  refine f8 [0,1,2,3,4,5,7] Z Z (d3 11 Z Z Z (ArgsOK.of Z) (b0P (m.cp.getD c default) hIG.f) Z Z (b4 ⟨Z,?_⟩))
  refine zsa 11 ?_
  refine zsa 12 ?_
  refine zsa 13 ?_
  refine zsa 14 ?_
  refine b6 (rs:=[15]) a8 Z (AllB.cons ?_ AllB.nil)
  first | refine f7 [0,1,2,3,4,5,7] Z Z (b5 Z Z (u7 G Z Z Z Z Z J Y0) (b4 ⟨Z,?_⟩)) | refine f7 [0,1,2,3,4,5,7] Z Z (b5 Z Z (u7 G Z Z Z Z Z J K0) (b4 ⟨Z,?_⟩)) | refine f7 [0,1,2,3,4,5,7] Z Z (b5 Z Z (u7 G Z Z Z Z Z J J) (b4 ⟨Z,?_⟩))
  refine b6 (rs:=[16]) a8 Z (AllB.cons ?_ AllB.nil)
  first | refine f7 [0,1,2,3,4,5,7] Z Z (r7 G Z Z Z Z Z (B6 J J) Z Z (.v Z (.own Z (.own Z (.own Z .nil)))) Z Z Z (Nat.le_of_ble_eq_true Z) (λq h=>by cases h) Z (b4 ⟨Z,?_⟩)) | refine f7 [0,1,2,3,4,5,7] Z Z (r7 G Z Z Z Z Z (F9 J J) Z Z (.v Z (.own Z (.own Z (.own Z .nil)))) Z Z Z (Nat.le_of_ble_eq_true Z) (λq h=>by cases h) Z (b4 ⟨Z,?_⟩)) | refine f7 [0,1,2,3,4,5,7] Z Z (r7 G Z Z Z Z Z (a3B K0 Z) Z Z (.v Z (.own Z (.own Z (.own Z .nil)))) Z Z Z (Nat.le_of_ble_eq_true Z) (λq h=>by cases h) Z (b4 ⟨Z,?_⟩))
  refine zsa 17 ?_
  refine zsa 18 ?_
  refine G9 ?_
  refine s5 ?_
  first | refine N4 (Gh.nestF (id:=6) _ Z (Z4 (x:=(X7 (m.cp.getD c default)).1) (.cons .s (.cons .s (.cons .s (.cons .t .nil)))))) ?_ | refine N4 (Gh.nestF (id:=6) _ Z (Z4 (x:=(a0G (m.cp.getD c default)).1) (.cons .s (.cons .s (.cons .s (.cons .t .nil)))))) ?_ | refine N4 (Gh.nestF (id:=6) _ Z (Z4 (x:=⟨sv,(m.cp.getD c default).st,(m.cp.getD c default).qu⟩) (.cons .s (.cons .s (.cons .s (.cons .s .nil)))))) ?_ | skip
  refine zgo ?_
  refine d8 (p4 Z Z Z Z (b3 (c7 Z ?_) (b3 (c7 Z ?_) (b3 (c7 Z ?_) (b3 (A1 Z ?_) (b3 (j4 ?_) (b3 (j4 ?_) d9)))))))
  all_goals exact b70
 refine zcd (λh4=>?_) (λh4=>?_)
 ·have hc:=b08 hv J
  obtain ⟨c,rfl⟩:∃c:Nat,sc=c:=⟨sc.toNat,by omega⟩
  obtain ⟨g1,g2,g3⟩:=hM.lens (k:=c) J
  have hIG:=hM.ok c J
  have hS:=c94 (m:=m) (sq:=sq) (sv:=sv) (c:=c) h4
  refine l1 19 [0,1,2,3,4,5,7] mixed a8 Z Z (λr0=>?_) (λ_ h=>h)
  refine a06 ?_
  refine a8t ?_
  refine zsa 7 ?_
  refine zsa 8 ?_
  refine zsa 9 ?_
  refine b6 (rs:=[10]) a8 Z (AllB.cons ?_ AllB.nil)
  refine f8 [0,1,2,3,4,5,7] Z Z (d3 11 Z Z Z (ArgsOK.of Z) (a5G (m.cp.getD c default) hIG) Z Z (b4 ⟨Z,?_⟩))
  refine zsa 11 ?_
  refine zsa 12 ?_
  refine zsa 13 ?_
  refine zsa 14 ?_
  refine b6 (rs:=[15]) a8 Z (AllB.cons ?_ AllB.nil)
  first | refine f7 [0,1,2,3,4,5,7] Z Z (b5 Z Z (u7 G Z Z Z Z Z J Y0) (b4 ⟨Z,?_⟩)) | refine f7 [0,1,2,3,4,5,7] Z Z (b5 Z Z (u7 G Z Z Z Z Z J K0) (b4 ⟨Z,?_⟩)) | refine f7 [0,1,2,3,4,5,7] Z Z (b5 Z Z (u7 G Z Z Z Z Z J J) (b4 ⟨Z,?_⟩))
  refine b6 (rs:=[16]) a8 Z (AllB.cons ?_ AllB.nil)
  first | refine f7 [0,1,2,3,4,5,7] Z Z (r7 G Z Z Z Z Z (B6 J J) Z Z (.v Z (.own Z (.own Z (.own Z .nil)))) Z Z Z (Nat.le_of_ble_eq_true Z) (λq h=>by cases h) Z (b4 ⟨Z,?_⟩)) | refine f7 [0,1,2,3,4,5,7] Z Z (r7 G Z Z Z Z Z (F9 J J) Z Z (.v Z (.own Z (.own Z (.own Z .nil)))) Z Z Z (Nat.le_of_ble_eq_true Z) (λq h=>by cases h) Z (b4 ⟨Z,?_⟩)) | refine f7 [0,1,2,3,4,5,7] Z Z (r7 G Z Z Z Z Z (a3B K0 Z) Z Z (.v Z (.own Z (.own Z (.own Z .nil)))) Z Z Z (Nat.le_of_ble_eq_true Z) (λq h=>by cases h) Z (b4 ⟨Z,?_⟩))
  refine zsa 17 ?_
  refine zsa 18 ?_
  refine G9 ?_
  refine s5 ?_
  first | refine N4 (Gh.nestF (id:=6) _ Z (Z4 (x:=(X7 (m.cp.getD c default)).1) (.cons .s (.cons .s (.cons .s (.cons .t .nil)))))) ?_ | refine N4 (Gh.nestF (id:=6) _ Z (Z4 (x:=(a0G (m.cp.getD c default)).1) (.cons .s (.cons .s (.cons .s (.cons .t .nil)))))) ?_ | refine N4 (Gh.nestF (id:=6) _ Z (Z4 (x:=⟨sv,(m.cp.getD c default).st,(m.cp.getD c default).qu⟩) (.cons .s (.cons .s (.cons .s (.cons .s .nil)))))) ?_ | skip
  refine zgo ?_
  refine d8 (p4 Z Z Z Z (b3 (c7 Z ?_) (b3 (c7 Z ?_) (b3 (c7 Z ?_) (b3 (A1 Z ?_) (b3 (j4 ?_) (b3 (j4 ?_) d9)))))))
  all_goals exact b70
 refine zcd (λh5=>?_) (λh5=>?_)
 ·have hc:=b08 hv J
  obtain ⟨c,rfl⟩:∃c:Nat,sc=c:=⟨sc.toNat,by omega⟩
  obtain ⟨g1,g2,g3⟩:=hM.lens (k:=c) J
  have hIG:=hM.ok c J
  have hS:=sm5 (m:=m) (sq:=sq) (sv:=sv) (c:=c) h5
  refine vm8 ?_
  refine c2w ?_
  refine p6 ?_
  first | refine r7 G Z Z Z Z Z (B6 J J) Z Z (.v Z .nil) Z Z Z (Nat.le_of_ble_eq_true Z) (λq h=>by cases h) Z ?_ | refine r7 G Z Z Z Z Z (F9 J J) Z Z (.v Z .nil) Z Z Z (Nat.le_of_ble_eq_true Z) (λq h=>by cases h) Z ?_ | refine r7 G Z Z Z Z Z (a3B K0 Z) Z Z (.v Z .nil) Z Z Z (Nat.le_of_ble_eq_true Z) (λq h=>by cases h) Z ?_
  refine zgn ?_
  refine s5 ?_
  first | refine N4 (Gh.nestF (id:=6) _ Z (Z4 (x:=(X7 (m.cp.getD c default)).1) (.cons .s (.cons .s (.cons .s (.cons .t .nil)))))) ?_ | refine N4 (Gh.nestF (id:=6) _ Z (Z4 (x:=(a0G (m.cp.getD c default)).1) (.cons .s (.cons .s (.cons .s (.cons .t .nil)))))) ?_ | refine N4 (Gh.nestF (id:=6) _ Z (Z4 (x:=⟨sv,(m.cp.getD c default).st,(m.cp.getD c default).qu⟩) (.cons .s (.cons .s (.cons .s (.cons .s .nil)))))) ?_ | skip
  refine zgo ?_
  refine d8 (p4 Z Z Z Z (b3 (c7 Z ?_) (b3 (c7 Z ?_) (b3 (c7 Z ?_) (b3 (A1 Z ?_) (b3 (j4 ?_) (b3 (j4 ?_) d9)))))))
  all_goals exact b70
 refine zcd (λh6=>?_) (λh6=>?_)
 ·have hq:=b8N hv J
  obtain ⟨q,rfl⟩:∃q:Nat,sq=q:=⟨sq.toNat,by omega⟩
  have hS:=sm6 (m:=m) (sk:=sk) (sc:=sc) (sv:=sv) (q:=q) h6
  refine c2n ?_
  refine zgn ?_
  refine s5 ?_
  first | refine N4 (Gh.nestF (id:=6) _ Z (Z4 (x:=(X7 (m.cp.getD c default)).1) (.cons .s (.cons .s (.cons .s (.cons .t .nil)))))) ?_ | refine N4 (Gh.nestF (id:=6) _ Z (Z4 (x:=(a0G (m.cp.getD c default)).1) (.cons .s (.cons .s (.cons .s (.cons .t .nil)))))) ?_ | refine N4 (Gh.nestF (id:=6) _ Z (Z4 (x:=⟨sv,(m.cp.getD c default).st,(m.cp.getD c default).qu⟩) (.cons .s (.cons .s (.cons .s (.cons .s .nil)))))) ?_ | skip
  refine zgo ?_
  refine d8 (p4 Z Z Z Z (b3 (c7 Z ?_) (b3 (c7 Z ?_) (b3 (c7 Z ?_) (b3 (A1 Z ?_) (b3 (j4 ?_) (b3 (j4 ?_) d9)))))))
  all_goals exact b70
 exact absurd (c5A hv) J
theorem a6A (m:Mach) (sk sq sc sv:Int) (hs:SmallM m):Ctr Tryz.prog 77 [.agg [.lst 2 (m.rs.map p8),.lst 1 (m.en.map n7),.lst 1 (m.ra.map n7),.nst none 4 (m.cp.map (r4 104 76))],.v (.agg ⟨[.int .i64 sk,.int .i64 sq,.int .i64 sc,.int .i64 sv]⟩)] (.shp false [some 4,none,none] [.fr 132 2 ((smT m ⟨sk,sq,sc,sv⟩).1.rs.map p8),.fr 4 1 ((smT m ⟨sk,sq,sc,sv⟩).1.en.map n7),.fr 4 1 ((smT m ⟨sk,sq,sc,sv⟩).1.ra.map n7),.ne 74 4 ((smT m ⟨sk,sq,sc,sv⟩).1.cp.map (a3I 104 76)),.v (.int .i64 (smT m ⟨sk,sq,sc,sv⟩).2.1),.v (.bool (smT m ⟨sk,sq,sc,sv⟩).2.2)]):=by
 have hcp:=hs.cp
 refine Ctr.of (n:=32) G Tryz.func77 Z a8 Z Z Z (λw0=>?_)
 refine m7 0 Z (λ_=>Z) (λu0=>?_)
 refine b5V ?_
 refine zcl (a0q m hs) ?_
 refine zcd (λh1=>?_) (λh1=>?_)
 ·exact c44
 have hM:=(maF h1).g
 refine zcl (a5B m ⟨sk,sq,sc,sv⟩ J) ?_
 refine zcd (λh2=>?_) (λh2=>?_)
 ·have hO:=b2b (m:=m) (.inr (.inl h2))
  exact b8c
 refine vm3 ?_
 refine d3 7 Z Z Z (ArgsOK.of Z) (a6z m sk sq sc sv hM h2) Z Z ?_
 refine vm3 ?_
 refine b4M ?_
 refine zcd (λh3=>?_) (λh3=>?_)
 ·have hO:=b2b (.inr (.inr h3))
  exact b8c
 have hO:=c3b h1 h2 h3
 refine zgo ?_
 refine d8 (p4 Z Z Z Z (b3 (c7 Z ?_) (b3 (c7 Z ?_) (b3 (c7 Z ?_) (b3 (A1 Z ?_) (b3 (j4 ?_) (b3 (j4 ?_) d9)))))))
 all_goals (first | rfl | (rw [hO];done) | (rw [hO];rfl))
theorem A0 (m:Mach) (sk sq sc sv:Int) (hs:SmallM m):Ctr Tryz.prog 128 [.agg [.lst 2 (m.rs.map p8),.lst 1 (m.en.map n7),.lst 1 (m.ra.map n7),.nst none 4 (m.cp.map (r4 104 76))],.v (.agg ⟨[.int .i64 sk,.int .i64 sq,.int .i64 sc,.int .i64 sv]⟩)] (.shp false [some 4,none,none] [.fr 132 2 ((smT m ⟨sk,sq,sc,sv⟩).1.rs.map p8),.fr 4 1 ((smT m ⟨sk,sq,sc,sv⟩).1.en.map n7),.fr 4 1 ((smT m ⟨sk,sq,sc,sv⟩).1.ra.map n7),.ne 74 4 ((smT m ⟨sk,sq,sc,sv⟩).1.cp.map (r4 104 76)),.v (.int .i64 (smT m ⟨sk,sq,sc,sv⟩).2.1),.v (.bool (smT m ⟨sk,sq,sc,sv⟩).2.2)]):=by
 have hcp:=hs.cp
 refine Ctr.of (n:=32) G Tryz.func128 Z a8 Z Z Z (λw0=>?_)
 refine m7 0 Z (λ_=>Z) (λu0=>?_)
 refine b5V ?_
 refine zcl (a43 m hs) ?_
 refine zcd (λh1=>?_) (λh1=>?_)
 ·exact c44
 have hM:=(maF h1).g
 refine zcl (a3c m ⟨sk,sq,sc,sv⟩ J) ?_
 refine zcd (λh2=>?_) (λh2=>?_)
 ·have hO:=b2b (m:=m) (.inr (.inl h2))
  exact b8c
 refine zgn ?_
 refine s5 ?_
 by_cases hno:b1a m ⟨sk,sq,sc,sv⟩
 ·have hO:=b2b (.inr (.inr (c6a hno)))
  refine vm3 ?_
  refine d3 7 Z Z Z (ArgsOK.of Z) (a2f m sk sq sc sv hM h2 hno) Z Z ?_
  refine vm3 ?_
  refine b4M ?_
  refine zwt ?_
  exact b8c
 refine vm3 ?_
 refine d3 7 Z Z Z (ArgsOK.of Z) (a4Y m sk sq sc sv hM h2 hno) Z Z ?_
 refine vm3 ?_
 refine b4M ?_
 refine zcd (λh3=>?_) (λh3=>?_)
 ·have hO:=b2b (.inr (.inr h3))
  exact b8c
 have hO:=c3b h1 h2 h3
 refine zgo ?_
 refine d8 (p4 Z Z Z Z (b3 (c7 Z ?_) (b3 (c7 Z ?_) (b3 (c7 Z ?_) (b3 (A1 Z ?_) (b3 (j4 ?_) (b3 (j4 ?_) d9)))))))
 all_goals (first | rfl | (rw [hO];done) | (rw [hO];rfl))
end Go.Proofs.YtdhckhjphmjniaaGreatDoor
