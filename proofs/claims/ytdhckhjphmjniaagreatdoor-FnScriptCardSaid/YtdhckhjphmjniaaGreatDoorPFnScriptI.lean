/- Texts merged into one: M25, Q3. -/
import Derived.Test.YtdhckhjphmjniaaGreatDoorPFnScriptH
set_option maxHeartbeats 4000000
set_option linter.unusedSimpArgs false
set_option linter.unusedVariables false
set_option maxRecDepth 20000
namespace Go.Proofs.YtdhckhjphmjniaaGreatDoor
open Go Go.Rf
theorem a6t (x:Ifc) (hn:x.st.length=0):Ctr Tryz.prog 180 [.agg [.v (.int .i64 x.ma),.lst 1 (x.st.map Rf.r7),.lst 3 (x.qu.sl.map j5),.lst 2 (x.qu.wa.map j9)]] (.shp false [some 4,none,none] [.v (.int .i64 0),.fr 3 1 (([]:List Int).map Rf.r7),.fr 104 3 ((⟨[],[]⟩:Que).sl.map j5),.fr 76 2 ((⟨[],[]⟩:Que).wa.map j9) true,.v (.int .i64 0),.v (.bool false)]):=by
 refine Ctr.of (n:=40) G Tryz.func180 Z a8 Z Z Z (λw0=>?_)
 refine n8 0 Z (λ_=>Z) (λu0=>?_)
 refine vm1 ?_
 refine vm9 ?_
 refine zcd (λh1=>?_) (λh1=>?_)
 ·refine zgo ?_
  refine d8 (o8 Z Z Z Z (b3 (j8 ?_) (b3 (H8 ?_) (b3 (H8 ?_) (b3 (H8 ?_) (b3 (j8 ?_) (b3 (j8 ?_) d9)))))))
  all_goals (rfl)
 exfalso;omega
theorem a5w (x:Ifc) (hG:IfG x):Ctr Tryz.prog 180 [.agg [.v (.int .i64 x.ma),.lst 1 (x.st.map Rf.r7),.lst 3 (x.qu.sl.map j5),.lst 2 (x.qu.wa.map j9)]] (.shp false [some 4,none,none] [.v (.int .i64 (a0F x).1.ma),.fr 3 1 ((a0F x).1.st.map Rf.r7),.fr 104 3 ((a0F x).1.qu.sl.map j5),.fr 76 2 ((a0F x).1.qu.wa.map j9) true,.v (.int .i64 (a0F x).2.1),.v (.bool (a0F x).2.2)]):=by
 by_cases h:x.st.length=0
 ·rw [b6r h];exact a6t x h
 rw [b6s h];exact a9h x hG h
theorem a6u (m:Mach) (sk sq sc sv:Int) (hM:MaG m) (hv:V9 m.cp.length ⟨sk,sq,sc,sv⟩=true):Ctr Tryz.prog 121 [.agg [.lst 2 (m.rs.map q9),.lst 1 (m.en.map m8),.lst 1 (m.ra.map m8),.nst none 4 (m.cp.map (r6 104 76))],.v (.agg ⟨[.int .i64 sk,.int .i64 sq,.int .i64 sc,.int .i64 sv]⟩)] (.shp false [some 4,none,none] [.fr 132 2 ((stM m ⟨sk,sq,sc,sv⟩).1.rs.map q9),.fr 4 1 ((stM m ⟨sk,sq,sc,sv⟩).1.en.map m8),.fr 4 1 ((stM m ⟨sk,sq,sc,sv⟩).1.ra.map m8),.ne 74 4 ((stM m ⟨sk,sq,sc,sv⟩).1.cp.map (a2k 104 76)),.v (.int .i64 (stM m ⟨sk,sq,sc,sv⟩).2.1),.v (.bool (stM m ⟨sk,sq,sc,sv⟩).2.2)]):=by
 have f1:=hM.n
 have f2:=hM.en
 have f3:=hM.ra
 have f4:=hM.rn
 refine Ctr.of (n:=90) G Tryz.func121 Z a8 Z Z Z (λw0=>?_)
 refine n8 0 Z (λ_=>Z) (λu0=>?_)
 refine b5w ?_
 refine vm3 ?_
 refine d4 7 Z Z Z (ArgsOK.of Z) (a7E m hM) Z Z ?_
 refine p6 ?_
 refine b4q ?_
 refine zgn ?_
 refine s9 (s9 (J6 (Gh.nestF (id:=6) _ Z flM) ?_))
 refine zcd (λh1=>?_) (λh1=>?_)
 ·have hq:=c02 hv J
  obtain ⟨q,rfl⟩:∃q:Nat,sq=q:=⟨sq.toNat,by omega⟩
  have hS:=sm1 (m:=m) (sc:=sc) (sv:=sv) (q:=q) h1
  refine c1Q ?_
  refine zgn ?_
  refine s9 ?_
  first | refine J6 (Gh.nestF (id:=6) _ Z (Z1 (x:=(X7 (m.cp.getD c default)).1) (.cons .s (.cons .s (.cons .s (.cons .t .nil)))))) ?_ | refine J6 (Gh.nestF (id:=6) _ Z (Z1 (x:=(a0F (m.cp.getD c default)).1) (.cons .s (.cons .s (.cons .s (.cons .t .nil)))))) ?_ | refine J6 (Gh.nestF (id:=6) _ Z (Z1 (x:=⟨sv,(m.cp.getD c default).st,(m.cp.getD c default).qu⟩) (.cons .s (.cons .s (.cons .s (.cons .s .nil)))))) ?_ | skip
  refine zgo ?_
  refine d8 (o8 Z Z Z Z (b3 (c8 Z ?_) (b3 (c8 Z ?_) (b3 (c8 Z ?_) (b3 (A8 Z ?_) (b3 (j8 ?_) (b3 (j8 ?_) d9)))))))
  all_goals exact b7z
 refine zcd (λh2=>?_) (λh2=>?_)
 ·have hS:=sm2 (m:=m) (sq:=sq) (sc:=sc) (sv:=sv) h2
  refine vm3 ?_
  refine c1D (n:=63) Z Z Z Tryz.func178 Z a8 Z Z Z Z ?_
  apply Exists.intro
  apply Exists.intro
  apply And.intro
  ·intro b hen hpin
   refine vm3 ?_
   refine b5 Z Z (s8 Z Z) ?_
   refine zgo ?_
   refine i7 [0,8,9] [0,1,2,3,4,7] (λ(i:Nat)=>[(10,.v (.int .i64 (i:Int)))]) (λ(i:Nat)=>[(5,some (.row 4 1 ((a82 m i).map m8))),(6,some (.nest 74 4 ((a2e m i).map (a2k 104 76)) []))]) (λ(i:Nat)=>i<=8) (λ(i:Nat)=>8 - i) 0 Z Z ?_ ?_ ?_ ?_
   ·exact Nat.zero_le _
   ·exact ⟨⟨_,Z,by rfl⟩,Z,trivial⟩
   ·exact ⟨⟨_,Z,by rfl⟩,Z,Z,⟨⟨_,Z,by rfl⟩,Z,Z,trivial⟩⟩
   intro i hi
   have hrl:=@a7o m i
   have hcl:=@T3 m i
   have htg:=λh=>hM.tg (i:=i) h
   refine vm2 ?_
   refine zcd (λh101=>?_) (λh101=>?_)
   ·obtain ⟨hta,htb,htc⟩:=htg J
    obtain ⟨hst,hIG⟩:=a7p hM (i:=i) (k:=tgM m i) J htb
    have htd:tgM m i < m.cp.length:=htb
    refine vm5 ?_
    first | refine b5 Z Z (f6 G Z Z Z Z (R1 J) Z) ?_ | refine b5 Z Z (f6 G Z Z Z Z (A1 J J) Z) ?_
    refine p6 ?_
    refine d7 G 9 Z Z Z Z Z ?_
    refine zgd ?_
    refine zgo ?_
    refine c6 Z (g8 Z Z (s8 Z Z) ?_)
    refine zgo ?_
    refine c6 Z ?_
    first | refine g8 Z Z (u5 G Z Z Z Z Z J T6) ?_ | refine g8 Z Z (u5 G Z Z Z Z Z J N0) ?_
    refine zgn ?_
    refine s9 (J6 (Gh.open (id:=6) (i:=(tgM m i)) (k:=1) 10 Z Z (c5V J) Z Z) ?_)
    refine vm3 ?_
    refine b5 Z Z (s8 Z Z) ?_
    refine vm5 ?_
    refine c6B ?_
    refine zcd (λh102=>?_) (λh102=>?_)
    ·refine zgo ?_
     refine a0k ?_
     refine b5 Z Z (s8 Z Z) ?_
     refine zgo ?_
     refine a0k ?_
     first | refine b5 Z Z (c7 G Z Z Z Z Z J m7) ?_ | refine b5 Z Z (c7 G Z Z Z Z Z J J) ?_
     refine a0k ?_
     refine c6B ?_
     refine zcd (λh103=>?_) (λh103=>?_)
     ·rw [a9G (Nat.le_refl _)] at h103
      refine zgo ?_
      refine a0k ?_
      refine b5 Z Z (a7P Z Z) ?_
      refine a0k ?_
      refine c10 ?_
      refine a0k ?_
      refine b5 Z Z (b3o G Z Z Z Z Z (D8.2 ⟨_,(a3x N0 Z),Z⟩) (.own (by first | exact List.Mem.head _ | simp) .nil)) ?_
      refine zcl (a1y ((a2e m i).getD (tgM m i) default).st _ (by have:=hIG.f.sn;omega)) ?_
      refine zcd (λh104=>?_) (λh104=>?_)
      ·rw [hst] at h104
       have hcn:=b9l (m:=m) (i:=i) h102 h103 h104
       refine vm3 ?_
       refine b5 Z Z (s8 Z Z) ?_
       refine c8E ?_
       refine J6 (Gh.open (id:=6) (i:=(tgM m i)) (k:=2) 11 Z Z (a3x N0 Z) Z Z) (J6 (Gh.open (id:=6) (i:=(tgM m i)) (k:=3) 12 Z Z (a3x N0 Z) Z Z) (l2 10 [0,1,2,3,4,5,7,8,9,10,11] mixed a8 Z Z (λr0=>?_) (λ_ h=>h)))
       refine zsa 0 ?_
       refine zsa 1 ?_
       refine a8r ?_
       refine b7 (rs:=[2]) a8 Z (AllB.cons ?_ AllB.nil)
       refine g9 [0,1,2,3,4,5,7,8,9,10,11] Z Z (b5 Z Z (a7P Z Z) (b4 ⟨Z,?_⟩))
       refine b7 (rs:=[3]) a8 Z (AllB.cons ?_ AllB.nil)
       refine g9 [0,1,2,3,4,5,7,8,9,10,11] Z Z (b5 Z Z (U4 G Z Z Z Z (a3x N0 Z) Z (.v (.own a7y (.own a7y (.own a7y .nil))))) (b4 ⟨Z,?_⟩))
       refine b7 (rs:=[7]) a8 Z (AllB.cons ?_ AllB.nil)
       refine g9 [0,1,2,3,4,5,7,8,9,10,11] Z Z (d4 15 Z Z Z (ArgsOK.of Z) (a9e ((a2e m i).getD (tgM m i) default) _ _ hIG.f J htc) Z Z (b4 ⟨Z,?_⟩))
       refine a3P (Gh.detach (id:=6) Z) (a3P (Gh.detach (id:=6) Z) (a3P (Gh.detach (id:=6) Z) (b7 (rs:=[8]) a8 Z (AllB.cons ?_ AllB.nil))))
       refine g9 [0,1,2,3,4,5,7,8,9,10,11] Z Z (b5 Z Z (a7P Z Z) (b4 ⟨Z,?_⟩))
       refine b7 (rs:=[9]) a8 Z (AllB.cons ?_ AllB.nil)
       refine g9 [0,1,2,3,4,5,7,8,9,10,11] Z Z (r8 G Z Z Z Z Z (a3x N0 Z) Z Z (.v Z (.own Z (.own Z (.own Z .nil)))) Z Z Z (Nat.le_of_ble_eq_true Z) (λq h=>by cases h) Z (b4 ⟨Z,?_⟩))
       refine F3 ?_
       refine zgo ?_
       refine ⟨(i+1),?_,?_,⟨⟨_,Z,by rfl⟩,Z,trivial⟩,⟨⟨_,Z,by (first | (rw [a2g hcn];done) | (rw [a2i hcn];exact congrArg (λz=>Row.nest _ _ z []) (a0E J Z)) | (rw [a2f hcn,List.map_set];rfl) | (rw [a2h hcn];exact congrArg (λz=>Row.nest _ _ z []) a5E))⟩,Z,Z,⟨⟨_,Z,by (first | (rw [a2g hcn];done) | (rw [a2i hcn];exact congrArg (λz=>Row.nest _ _ z []) (a0E J Z)) | (rw [a2f hcn,List.map_set];rfl) | (rw [a2h hcn];exact congrArg (λz=>Row.nest _ _ z []) a5E))⟩,Z,Z,trivial⟩⟩,Z,Z,Z⟩
       ·omega
       omega
      rw [hst] at h104
      have hcn:=b9o (m:=m) (i:=i) h104
      refine c6F ?_
      refine ⟨(i+1),?_,?_,⟨⟨_,Z,by rfl⟩,Z,trivial⟩,⟨⟨_,Z,by (first | (rw [a2g hcn];done) | (rw [a2i hcn];exact congrArg (λz=>Row.nest _ _ z []) (a0E J Z)) | (rw [a2f hcn,List.map_set];rfl) | (rw [a2h hcn];exact congrArg (λz=>Row.nest _ _ z []) a5E))⟩,Z,Z,⟨⟨_,Z,by (first | (rw [a2g hcn];done) | (rw [a2i hcn];exact congrArg (λz=>Row.nest _ _ z []) (a0E J Z)) | (rw [a2f hcn,List.map_set];rfl) | (rw [a2h hcn];exact congrArg (λz=>Row.nest _ _ z []) a5E))⟩,Z,Z,trivial⟩⟩,Z,Z,Z⟩
      ·omega
      omega
     rw [a9G (Nat.le_refl _)] at h103
     have hcn:=b9n (m:=m) (i:=i) h103
     refine zwf ?_
     refine c6F ?_
     refine ⟨(i+1),?_,?_,⟨⟨_,Z,by rfl⟩,Z,trivial⟩,⟨⟨_,Z,by (first | (rw [a2g hcn];done) | (rw [a2i hcn];exact congrArg (λz=>Row.nest _ _ z []) (a0E J Z)) | (rw [a2f hcn,List.map_set];rfl) | (rw [a2h hcn];exact congrArg (λz=>Row.nest _ _ z []) a5E))⟩,Z,Z,⟨⟨_,Z,by (first | (rw [a2g hcn];done) | (rw [a2i hcn];exact congrArg (λz=>Row.nest _ _ z []) (a0E J Z)) | (rw [a2f hcn,List.map_set];rfl) | (rw [a2h hcn];exact congrArg (λz=>Row.nest _ _ z []) a5E))⟩,Z,Z,trivial⟩⟩,Z,Z,Z⟩
     ·omega
     omega
    have hcn:=b9m (m:=m) (i:=i) h102
    refine zwf ?_
    refine c6F ?_
    refine ⟨(i+1),?_,?_,⟨⟨_,Z,by rfl⟩,Z,trivial⟩,⟨⟨_,Z,by (first | (rw [a2g hcn];done) | (rw [a2i hcn];exact congrArg (λz=>Row.nest _ _ z []) (a0E J Z)) | (rw [a2f hcn,List.map_set];rfl) | (rw [a2h hcn];exact congrArg (λz=>Row.nest _ _ z []) a5E))⟩,Z,Z,⟨⟨_,Z,by (first | (rw [a2g hcn];done) | (rw [a2i hcn];exact congrArg (λz=>Row.nest _ _ z []) (a0E J Z)) | (rw [a2f hcn,List.map_set];rfl) | (rw [a2h hcn];exact congrArg (λz=>Row.nest _ _ z []) a5E))⟩,Z,Z,trivial⟩⟩,Z,Z,Z⟩
    ·omega
    omega
   obtain rfl:i=8:=J
   exact G2 ⟨.inl Z,Z,Z⟩
  refine ⟨Z,?_⟩
  refine zgn ?_
  refine s9 ?_
  first | refine J6 (Gh.nestF (id:=6) _ Z (Z1 (x:=(X7 (m.cp.getD c default)).1) (.cons .s (.cons .s (.cons .s (.cons .t .nil)))))) ?_ | refine J6 (Gh.nestF (id:=6) _ Z (Z1 (x:=(a0F (m.cp.getD c default)).1) (.cons .s (.cons .s (.cons .s (.cons .t .nil)))))) ?_ | refine J6 (Gh.nestF (id:=6) _ Z (Z1 (x:=⟨sv,(m.cp.getD c default).st,(m.cp.getD c default).qu⟩) (.cons .s (.cons .s (.cons .s (.cons .s .nil)))))) ?_ | skip
  refine zgo ?_
  refine d8 (o8 Z Z Z Z (b3 (c8 Z ?_) (b3 (c8 Z ?_) (b3 (c8 Z ?_) (b3 (A8 Z ?_) (b3 (j8 ?_) (b3 (j8 ?_) d9)))))))
  all_goals exact b7z
 refine zcd (λh3=>?_) (λh3=>?_)
 ·have hc:=b2C hv J
  obtain ⟨c,rfl⟩:∃c:Nat,sc=c:=⟨sc.toNat,by omega⟩
  obtain ⟨g1,g2,g3⟩:=hM.lens (k:=c) J
  have hIG:=hM.ok c J
  have hS:=c9I (m:=m) (sq:=sq) (sv:=sv) (c:=c) h3
  refine l2 19 [0,1,2,3,4,5,7] mixed a8 Z Z (λr0=>?_) (λ_ h=>h)
  refine a06 ?_
  refine a8r ?_
  refine zsa 7 ?_
  refine zsa 8 ?_
  refine zsa 9 ?_
  refine b7 (rs:=[10]) a8 Z (AllB.cons ?_ AllB.nil)
  refine g9 [0,1,2,3,4,5,7] Z Z (d4 11 Z Z Z (ArgsOK.of Z) (b0H (m.cp.getD c default) hIG.f) Z Z (b4 ⟨Z,?_⟩))
  refine zsa 11 ?_
  refine zsa 12 ?_
  refine zsa 13 ?_
  refine zsa 14 ?_
  refine b7 (rs:=[15]) a8 Z (AllB.cons ?_ AllB.nil)
  first | refine f9 [0,1,2,3,4,5,7] Z Z (b5 Z Z (u5 G Z Z Z Z Z J T6) (b4 ⟨Z,?_⟩)) | refine f9 [0,1,2,3,4,5,7] Z Z (b5 Z Z (u5 G Z Z Z Z Z J N0) (b4 ⟨Z,?_⟩)) | refine f9 [0,1,2,3,4,5,7] Z Z (b5 Z Z (u5 G Z Z Z Z Z J J) (b4 ⟨Z,?_⟩))
  refine b7 (rs:=[16]) a8 Z (AllB.cons ?_ AllB.nil)
  first | refine f9 [0,1,2,3,4,5,7] Z Z (r8 G Z Z Z Z Z (A1 J J) Z Z (.v Z (.own Z (.own Z (.own Z .nil)))) Z Z Z (Nat.le_of_ble_eq_true Z) (λq h=>by cases h) Z (b4 ⟨Z,?_⟩)) | refine f9 [0,1,2,3,4,5,7] Z Z (r8 G Z Z Z Z Z (A7 J J) Z Z (.v Z (.own Z (.own Z (.own Z .nil)))) Z Z Z (Nat.le_of_ble_eq_true Z) (λq h=>by cases h) Z (b4 ⟨Z,?_⟩)) | refine f9 [0,1,2,3,4,5,7] Z Z (r8 G Z Z Z Z Z (a3x N0 Z) Z Z (.v Z (.own Z (.own Z (.own Z .nil)))) Z Z Z (Nat.le_of_ble_eq_true Z) (λq h=>by cases h) Z (b4 ⟨Z,?_⟩))
  refine zsa 17 ?_
  refine zsa 18 ?_
  refine F3 ?_
  refine s9 ?_
  first | refine J6 (Gh.nestF (id:=6) _ Z (Z1 (x:=(X7 (m.cp.getD c default)).1) (.cons .s (.cons .s (.cons .s (.cons .t .nil)))))) ?_ | refine J6 (Gh.nestF (id:=6) _ Z (Z1 (x:=(a0F (m.cp.getD c default)).1) (.cons .s (.cons .s (.cons .s (.cons .t .nil)))))) ?_ | refine J6 (Gh.nestF (id:=6) _ Z (Z1 (x:=⟨sv,(m.cp.getD c default).st,(m.cp.getD c default).qu⟩) (.cons .s (.cons .s (.cons .s (.cons .s .nil)))))) ?_ | skip
  refine zgo ?_
  refine d8 (o8 Z Z Z Z (b3 (c8 Z ?_) (b3 (c8 Z ?_) (b3 (c8 Z ?_) (b3 (A8 Z ?_) (b3 (j8 ?_) (b3 (j8 ?_) d9)))))))
  all_goals exact b7z
 refine zcd (λh4=>?_) (λh4=>?_)
 ·have hc:=b2C hv J
  obtain ⟨c,rfl⟩:∃c:Nat,sc=c:=⟨sc.toNat,by omega⟩
  obtain ⟨g1,g2,g3⟩:=hM.lens (k:=c) J
  have hIG:=hM.ok c J
  have hS:=c9J (m:=m) (sq:=sq) (sv:=sv) (c:=c) h4
  refine l2 19 [0,1,2,3,4,5,7] mixed a8 Z Z (λr0=>?_) (λ_ h=>h)
  refine a06 ?_
  refine a8r ?_
  refine zsa 7 ?_
  refine zsa 8 ?_
  refine zsa 9 ?_
  refine b7 (rs:=[10]) a8 Z (AllB.cons ?_ AllB.nil)
  refine g9 [0,1,2,3,4,5,7] Z Z (d4 11 Z Z Z (ArgsOK.of Z) (a5w (m.cp.getD c default) hIG) Z Z (b4 ⟨Z,?_⟩))
  refine zsa 11 ?_
  refine zsa 12 ?_
  refine zsa 13 ?_
  refine zsa 14 ?_
  refine b7 (rs:=[15]) a8 Z (AllB.cons ?_ AllB.nil)
  first | refine f9 [0,1,2,3,4,5,7] Z Z (b5 Z Z (u5 G Z Z Z Z Z J T6) (b4 ⟨Z,?_⟩)) | refine f9 [0,1,2,3,4,5,7] Z Z (b5 Z Z (u5 G Z Z Z Z Z J N0) (b4 ⟨Z,?_⟩)) | refine f9 [0,1,2,3,4,5,7] Z Z (b5 Z Z (u5 G Z Z Z Z Z J J) (b4 ⟨Z,?_⟩))
  refine b7 (rs:=[16]) a8 Z (AllB.cons ?_ AllB.nil)
  first | refine f9 [0,1,2,3,4,5,7] Z Z (r8 G Z Z Z Z Z (A1 J J) Z Z (.v Z (.own Z (.own Z (.own Z .nil)))) Z Z Z (Nat.le_of_ble_eq_true Z) (λq h=>by cases h) Z (b4 ⟨Z,?_⟩)) | refine f9 [0,1,2,3,4,5,7] Z Z (r8 G Z Z Z Z Z (A7 J J) Z Z (.v Z (.own Z (.own Z (.own Z .nil)))) Z Z Z (Nat.le_of_ble_eq_true Z) (λq h=>by cases h) Z (b4 ⟨Z,?_⟩)) | refine f9 [0,1,2,3,4,5,7] Z Z (r8 G Z Z Z Z Z (a3x N0 Z) Z Z (.v Z (.own Z (.own Z (.own Z .nil)))) Z Z Z (Nat.le_of_ble_eq_true Z) (λq h=>by cases h) Z (b4 ⟨Z,?_⟩))
  refine zsa 17 ?_
  refine zsa 18 ?_
  refine F3 ?_
  refine s9 ?_
  first | refine J6 (Gh.nestF (id:=6) _ Z (Z1 (x:=(X7 (m.cp.getD c default)).1) (.cons .s (.cons .s (.cons .s (.cons .t .nil)))))) ?_ | refine J6 (Gh.nestF (id:=6) _ Z (Z1 (x:=(a0F (m.cp.getD c default)).1) (.cons .s (.cons .s (.cons .s (.cons .t .nil)))))) ?_ | refine J6 (Gh.nestF (id:=6) _ Z (Z1 (x:=⟨sv,(m.cp.getD c default).st,(m.cp.getD c default).qu⟩) (.cons .s (.cons .s (.cons .s (.cons .s .nil)))))) ?_ | skip
  refine zgo ?_
  refine d8 (o8 Z Z Z Z (b3 (c8 Z ?_) (b3 (c8 Z ?_) (b3 (c8 Z ?_) (b3 (A8 Z ?_) (b3 (j8 ?_) (b3 (j8 ?_) d9)))))))
  all_goals exact b7z
 refine zcd (λh5=>?_) (λh5=>?_)
 ·have hc:=b2C hv J
  obtain ⟨c,rfl⟩:∃c:Nat,sc=c:=⟨sc.toNat,by omega⟩
  obtain ⟨g1,g2,g3⟩:=hM.lens (k:=c) J
  have hIG:=hM.ok c J
  have hS:=sm5 (m:=m) (sq:=sq) (sv:=sv) (c:=c) h5
  refine vm8 ?_
  refine c10 ?_
  refine p6 ?_
  first | refine r8 G Z Z Z Z Z (A1 J J) Z Z (.v Z .nil) Z Z Z (Nat.le_of_ble_eq_true Z) (λq h=>by cases h) Z ?_ | refine r8 G Z Z Z Z Z (A7 J J) Z Z (.v Z .nil) Z Z Z (Nat.le_of_ble_eq_true Z) (λq h=>by cases h) Z ?_ | refine r8 G Z Z Z Z Z (a3x N0 Z) Z Z (.v Z .nil) Z Z Z (Nat.le_of_ble_eq_true Z) (λq h=>by cases h) Z ?_
  refine zgn ?_
  refine s9 ?_
  first | refine J6 (Gh.nestF (id:=6) _ Z (Z1 (x:=(X7 (m.cp.getD c default)).1) (.cons .s (.cons .s (.cons .s (.cons .t .nil)))))) ?_ | refine J6 (Gh.nestF (id:=6) _ Z (Z1 (x:=(a0F (m.cp.getD c default)).1) (.cons .s (.cons .s (.cons .s (.cons .t .nil)))))) ?_ | refine J6 (Gh.nestF (id:=6) _ Z (Z1 (x:=⟨sv,(m.cp.getD c default).st,(m.cp.getD c default).qu⟩) (.cons .s (.cons .s (.cons .s (.cons .s .nil)))))) ?_ | skip
  refine zgo ?_
  refine d8 (o8 Z Z Z Z (b3 (c8 Z ?_) (b3 (c8 Z ?_) (b3 (c8 Z ?_) (b3 (A8 Z ?_) (b3 (j8 ?_) (b3 (j8 ?_) d9)))))))
  all_goals exact b7z
 refine zcd (λh6=>?_) (λh6=>?_)
 ·have hq:=c02 hv J
  obtain ⟨q,rfl⟩:∃q:Nat,sq=q:=⟨sq.toNat,by omega⟩
  have hS:=sm6 (m:=m) (sk:=sk) (sc:=sc) (sv:=sv) (q:=q) h6
  refine c1Q ?_
  refine zgn ?_
  refine s9 ?_
  first | refine J6 (Gh.nestF (id:=6) _ Z (Z1 (x:=(X7 (m.cp.getD c default)).1) (.cons .s (.cons .s (.cons .s (.cons .t .nil)))))) ?_ | refine J6 (Gh.nestF (id:=6) _ Z (Z1 (x:=(a0F (m.cp.getD c default)).1) (.cons .s (.cons .s (.cons .s (.cons .t .nil)))))) ?_ | refine J6 (Gh.nestF (id:=6) _ Z (Z1 (x:=⟨sv,(m.cp.getD c default).st,(m.cp.getD c default).qu⟩) (.cons .s (.cons .s (.cons .s (.cons .s .nil)))))) ?_ | skip
  refine zgo ?_
  refine d8 (o8 Z Z Z Z (b3 (c8 Z ?_) (b3 (c8 Z ?_) (b3 (c8 Z ?_) (b3 (A8 Z ?_) (b3 (j8 ?_) (b3 (j8 ?_) d9)))))))
  all_goals exact b7z
 exact absurd (c7z hv) J
theorem a6v (m:Mach) (sk sq sc sv:Int) (hs:SmallM m):Ctr Tryz.prog 77 [.agg [.lst 2 (m.rs.map q9),.lst 1 (m.en.map m8),.lst 1 (m.ra.map m8),.nst none 4 (m.cp.map (r6 104 76))],.v (.agg ⟨[.int .i64 sk,.int .i64 sq,.int .i64 sc,.int .i64 sv]⟩)] (.shp false [some 4,none,none] [.fr 132 2 ((smT m ⟨sk,sq,sc,sv⟩).1.rs.map q9),.fr 4 1 ((smT m ⟨sk,sq,sc,sv⟩).1.en.map m8),.fr 4 1 ((smT m ⟨sk,sq,sc,sv⟩).1.ra.map m8),.ne 74 4 ((smT m ⟨sk,sq,sc,sv⟩).1.cp.map (a2k 104 76)),.v (.int .i64 (smT m ⟨sk,sq,sc,sv⟩).2.1),.v (.bool (smT m ⟨sk,sq,sc,sv⟩).2.2)]):=by
 have hcp:=hs.cp
 refine Ctr.of (n:=32) G Tryz.func77 Z a8 Z Z Z (λw0=>?_)
 refine n8 0 Z (λ_=>Z) (λu0=>?_)
 refine b5w ?_
 refine zcl (a0n m hs) ?_
 refine zcd (λh1=>?_) (λh1=>?_)
 ·exact c4F
 have hM:=(maF h1).g
 refine zcl (a5r m ⟨sk,sq,sc,sv⟩ J) ?_
 refine zcd (λh2=>?_) (λh2=>?_)
 ·have hO:=b1Z (m:=m) (.inr (.inl h2))
  exact b7K
 refine vm3 ?_
 refine d4 7 Z Z Z (ArgsOK.of Z) (a6u m sk sq sc sv hM h2) Z Z ?_
 refine vm3 ?_
 refine b4q ?_
 refine zcd (λh3=>?_) (λh3=>?_)
 ·have hO:=b1Z (.inr (.inr h3))
  exact b7K
 have hO:=c2F h1 h2 h3
 refine zgo ?_
 refine d8 (o8 Z Z Z Z (b3 (c8 Z ?_) (b3 (c8 Z ?_) (b3 (c8 Z ?_) (b3 (A8 Z ?_) (b3 (j8 ?_) (b3 (j8 ?_) d9)))))))
 all_goals (first | rfl | (rw [hO];done) | (rw [hO];rfl))
theorem A0 (m:Mach) (sk sq sc sv:Int) (hs:SmallM m):Ctr Tryz.prog 128 [.agg [.lst 2 (m.rs.map q9),.lst 1 (m.en.map m8),.lst 1 (m.ra.map m8),.nst none 4 (m.cp.map (r6 104 76))],.v (.agg ⟨[.int .i64 sk,.int .i64 sq,.int .i64 sc,.int .i64 sv]⟩)] (.shp false [some 4,none,none] [.fr 132 2 ((smT m ⟨sk,sq,sc,sv⟩).1.rs.map q9),.fr 4 1 ((smT m ⟨sk,sq,sc,sv⟩).1.en.map m8),.fr 4 1 ((smT m ⟨sk,sq,sc,sv⟩).1.ra.map m8),.ne 74 4 ((smT m ⟨sk,sq,sc,sv⟩).1.cp.map (r6 104 76)),.v (.int .i64 (smT m ⟨sk,sq,sc,sv⟩).2.1),.v (.bool (smT m ⟨sk,sq,sc,sv⟩).2.2)]):=by
 have hcp:=hs.cp
 refine Ctr.of (n:=32) G Tryz.func128 Z a8 Z Z Z (λw0=>?_)
 refine n8 0 Z (λ_=>Z) (λu0=>?_)
 refine b5w ?_
 refine zcl (a4N m hs) ?_
 refine zcd (λh1=>?_) (λh1=>?_)
 ·exact c4F
 have hM:=(maF h1).g
 refine zcl (a22 m ⟨sk,sq,sc,sv⟩ J) ?_
 refine zcd (λh2=>?_) (λh2=>?_)
 ·have hO:=b1Z (m:=m) (.inr (.inl h2))
  exact b7K
 refine zgn ?_
 refine s9 ?_
 by_cases hno:b00 m ⟨sk,sq,sc,sv⟩
 ·have hO:=b1Z (.inr (.inr (c5L hno)))
  refine vm3 ?_
  refine d4 7 Z Z Z (ArgsOK.of Z) (a16 m sk sq sc sv hM h2 hno) Z Z ?_
  refine vm3 ?_
  refine b4q ?_
  refine zwt ?_
  exact b7K
 refine vm3 ?_
 refine d4 7 Z Z Z (ArgsOK.of Z) (a4I m sk sq sc sv hM h2 hno) Z Z ?_
 refine vm3 ?_
 refine b4q ?_
 refine zcd (λh3=>?_) (λh3=>?_)
 ·have hO:=b1Z (.inr (.inr h3))
  exact b7K
 have hO:=c2F h1 h2 h3
 refine zgo ?_
 refine d8 (o8 Z Z Z Z (b3 (c8 Z ?_) (b3 (c8 Z ?_) (b3 (c8 Z ?_) (b3 (A8 Z ?_) (b3 (j8 ?_) (b3 (j8 ?_) d9)))))))
 all_goals (first | rfl | (rw [hO];done) | (rw [hO];rfl))
end Go.Proofs.YtdhckhjphmjniaaGreatDoor
