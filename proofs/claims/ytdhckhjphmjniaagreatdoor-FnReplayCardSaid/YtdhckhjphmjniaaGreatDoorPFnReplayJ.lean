/- Texts merged into one: Q8. -/
import Derived.Test.YtdhckhjphmjniaaGreatDoorPFnReplayI
set_option maxHeartbeats 4000000
set_option linter.unusedSimpArgs false
set_option linter.unusedVariables false
set_option maxRecDepth 20000
namespace Go.Proofs.YtdhckhjphmjniaaGreatDoor
open Go Go.Rf
theorem y7 (m:Mach) (x:Lg) (s:ByteArray) (hs:SmallM m) (hx:x.d.size+x.p.size<=1048576) (hz:s.size<=1048576):Ctr Tryz.prog 15 [.agg [.lst 2 (m.rs.map p5),.lst 1 (m.en.map m9),.lst 1 (m.ra.map m9),.nst none 4 (m.cp.map (s2 104 76)),.v (.string x.d),.v (.string x.p),.v (.int .i64 x.n)],.v (.string s)] (.shp false [some 7,none] [.fr 132 2 ((exC m x s).1.rs.map p5),.fr 4 1 ((exC m x s).1.en.map m9),.fr 4 1 ((exC m x s).1.ra.map m9),.ne 74 4 ((exC m x s).1.cp.map (s2 104 76)),.v (.string (exC m x s).2.1.d),.v (.string (exC m x s).2.1.p),.v (.int .i64 (exC m x s).2.1.n),.v (.string (exC m x s).2.2)]):=by
 refine Ctr.of (n:=51) G Tryz.func15 Z Y Z Z Z (λw0=>?_)
 refine n9 0 Z (λ_=>Z) (λu0=>?_)
 refine zgo ?_
 refine a7 Z (B4 1 Z Z Z Z Z Z Z (a7 Z (d6 G 2 Z Z Z Z Z ?_)))
 refine zgo ?_
 refine a7 Z (d3 6 Z Z Z (ArgsOK.of Z) (w8 _ x (by first | assumption | exact hsm (by assumption)) hx) Z Z (a7 Z (d6 G 7 Z Z Z Z Z ?_)))
 refine zcl (a5i m x hs hx) ?_
 refine zcd (λh1=>?_) (λh1=>?_)
 ·have hO:=c0O (s:=s) h1
  exact b2T
 obtain ⟨hM,hLg⟩:=b07 h1
 have hG:=(maF hM).g
 have hra:=hG.ra
 refine zgo ?_
 refine a7 Z (b5 Z Z (i7 Z (ArgsOK.of Z) (a1Y ⟨s,⟨#[]⟩⟩ ⟨by show s.size<=_;omega,R7 (by decide)⟩) Z) ?_)
 refine zcd (λh2=>?_) (λh2=>?_)
 ·have hO:=c0P h1 h2
  exact b2T
 refine zcd (λh3=>?_) (λh3=>?_)
 ·have hO:=c0Q h1 h2 h3
  exact b2T
 refine zgo ?_
 refine a7 Z (a2n (n:=74) G Z Z Z Tryz.func48 Z Y Z Z Z Z ?_)
 intro b hen hpin
 have hwn:1<=(g8 s 32).length/\(g8 s 32).length<=s.size+1:=V9
 have hml:((g8 s 32).map a4g).length=(g8 s 32).length:=List.length_map _
 refine zgo ?_
 refine a7 Z (B4 8 Z Z Z Z Z Z Z (a7 Z (d6 G 9 Z Z Z Z Z ?_)))
 refine zgo ?_
 refine a7 Z (d3 10 Z Z Z (ArgsOK.of Z) (S2 s 32 hz) Z Z ?_)
 refine zgo ?_
 refine a7 Z (p6 G 11 Z Z Z Z Z Z Z Z ?_)
 refine zgo ?_
 refine i6 [1,2,4,6] [0,1,2,3,4,5,6,7,8,9] (λ(i:Nat)=>[(7,.own 10),(8,.v (.int .i64 ((i:Int)+1)))]) (λ(i:Nat)=>[(10,some (.row 3 1 ((F5 s i).map Rf.s3)))]) (λ(i:Nat)=>i<=(g8 s 32).length - 1/\∀j,j < i→nmK (wrd s (j+1))=true) (λ(i:Nat)=>(g8 s 32).length - 1 - i) 0 Z Z ?_ ?_ ?_ ?_
 ·exact T5
 ·exact Z8
 ·exact a1U
 intro i hinv
 have hnl:=@a4Z s i
 simp only [List.cons_append,List.nil_append]
 refine zcd (λh101=>?_) (λh101=>?_)
 ·refine zgo ?_
  refine a7 Z ?_
  first | refine b5 Z Z (d1 G Z Z Z Z Z J (by rw [List.length_map];omega)) ?_ | refine b5 Z Z (d1 G Z Z Z Z Z J J) ?_
  refine a7 Z ?_
  first | refine b5 Z Z (j9 G Z Z Z Z Z (b8I J) Z) ?_ | refine b5 Z Z (j9 G Z Z Z Z Z (C3 J J) Z) ?_
  refine zcl (a9U (wrd s (i+1)) (by have:=@c0G s (i+1);omega)) ?_
  refine zcd (λh102=>?_) (λh102=>?_)
  ·refine zgo ?_
   refine d7 ⟨.inr Z,_,Z,Z,?_⟩
   have hO:=P5 h1 h2 h3 (c7t (c0H h102 (by show i < (g8 s 32).length - 1;omega)))
   exact c6d
  refine zgo ?_
  refine a7 Z (p6 G 12 Z Z Z Z Z Z Z Z (a7 Z (l2 G (by rw [hpin];decide) Z Z Z Z Z Z Z Z Z (by first | (simp only [List.length_map,List.length_cons,List.length_nil];omega) | (simp;omega)) Z Z ?_)))
  exact c49
 obtain rfl:i=(g8 s 32).length - 1:=J
 have hNK:I2 s=true:=c0I hinv.2 (Nat.le_refl _)
 have hnl:=@a4Z s ((g8 s 32).length - 1)
 refine zcd (λh103=>?_) (λh103=>?_)
 ·have hw:wn s=1:=(by show (g8 s 32).length=1;omega)
  have hs0:=c7o hw
  refine zgo ?_
  refine a7 Z (a2n (n:=48) G Z Z Z Tryz.func83 Z Y Z Z Z Z ?_)
  intro b hen hpin
  refine zgo ?_
  refine a7 Z (B4 12 Z Z Z Z Z Z Z (a7 Z (d6 G 13 Z Z Z Z Z ?_)))
  refine zgo ?_
  refine a7 Z (b5 Z Z (A5 Z Z Z Z) ?_)
  refine zcd (λh201=>?_) (λh201=>?_)
  ·have k201:o7 (wrd s 0)=0:=(by rw [← hs0];exact b2z.mp h201)
   have hE:F6 m s=R8 m ⟨2,0,0,0⟩:=c9r hw hNK k201
   have hir:=@a40 m ⟨2,0,0,0⟩
   have hsm:=@Y3 m ⟨2,0,0,0⟩
   have hiq:=@a6B m ⟨2,0,0,0⟩
   have cS:=A9 m 2 0 0 0 hs
   unfold R8 at hE
   generalize smT m ⟨2,0,0,0⟩=sr at cS hE hir hsm hiq
   obtain ⟨m1,ir,ok⟩:=sr
   dsimp only at cS hE hir hsm hiq
   refine zgo ?_
   refine a7 Z (a2n (n:=31) G Z Z Z Tryz.func85 Z Y Z Z Z Z ?_)
   intro b hen hpin
   refine zgo ?_
   refine a7 Z (B4 14 Z Z Z Z Z Z Z (a7 Z (B4 15 Z Z Z Z Z Z Z (a7 Z (d6 G 16 Z Z Z Z Z ?_)))))
   refine zgo ?_
   refine a7 Z (d3 20 Z Z Z (ArgsOK.of Z) cS Z Z ?_)
   refine zgo ?_
   refine a7 Z (d6 G 21 Z Z Z Z Z ?_)
   refine zcd (λh301=>?_) (λh301=>?_)
   ·refine zgo ?_
    refine d7 ⟨.inr Z,_,Z,Z,?_⟩
    have hE2:F6 m s=(m,qmB):=hE.trans (if_neg (by simp [h301]))
    have hO:=P5 h1 h2 h3 hE2
    refine zgo ?_
    refine d7 ⟨.inr Z,_,Z,Z,?_⟩
    refine zgo ?_
    refine d7 ⟨.inr Z,_,Z,Z,?_⟩
    refine zgo ?_
    refine a7 Z (d6 G 22 Z Z Z Z Z ?_)
    refine zgo ?_
    refine a7 Z (d3 26 Z Z Z (ArgsOK.of Z) (w8 _ x (by first | assumption | exact hsm (by assumption)) hx) Z Z ?_)
    exact b5z
   refine zgo ?_
   refine a7 Z (d6 G 22 Z Z Z Z Z ?_)
   refine zwf ?_
   refine zgo ?_
   refine d7 ⟨.inr Z,_,Z,Z,?_⟩
   have hE2:F6 m s=(m1,if ir=-1 then okB else u7 ir):=hE.trans (if_pos h301)
   first | rw [if_neg ((hiq h301).mpr J)] at hE2 | rw [if_pos (Decidable.byContradiction λg=>absurd ((hiq h301).mp g) J)] at hE2
   have hO:=P5 h1 h2 h3 hE2
   refine zgo ?_
   refine d7 ⟨.inr Z,_,Z,Z,?_⟩
   refine zgo ?_
   refine d7 ⟨.inr Z,_,Z,Z,?_⟩
   refine zgo ?_
   refine a7 Z (d6 G 23 Z Z Z Z Z ?_)
   refine zgo ?_
   refine a7 Z (d3 27 Z Z Z (ArgsOK.of Z) (w8 _ x (by first | assumption | exact hsm (by assumption)) hx) Z Z ?_)
   refine zgo ?_
   refine a7 Z (b5 Z Z (p9 G Z Z Z) ?_)
   refine zcd (λh303=>?_) (λh303=>?_)
   ·exact b1j
   try rw [a2K J] at hO
   have hrs:=h303
   refine zgo ?_
   refine a7 Z (b5 Z Z (i7 Z (ArgsOK.of Z) (t7 x ⟨s,_⟩ hx ⟨by show s.size<=_;omega,by first | exact R7 (by decide) | exact O7 J | exact O7 (Int.ofNat_le.1 hrs)⟩) Z) ?_)
   refine zgo ?_
   refine d7 (p7 Z Z Z Z (b3 (c7 Z ?_) (b3 (c7 Z ?_) (b3 (c7 Z ?_) (b3 (B2 Z ?_) (b3 (i8 ?_) (b3 (i8 ?_) (b3 (i8 ?_) (b3 (i8 ?_) d9)))))))))
   all_goals (first | (rw [hO];done) | (rw [hO];rfl))
  have k201:¬ o7 (wrd s 0)=0:=(by rw [← hs0];exact mt b2z.mpr h201)
  refine zgo ?_
  refine a7 Z (b5 Z Z (A5 Z Z Z Z) ?_)
  refine zcd (λh202=>?_) (λh202=>?_)
  ·have k202:o7 (wrd s 0)=1:=(by rw [← hs0];exact b2A.mp h202)
   refine zgo ?_
   refine a7 Z (p6 G 14 Z Z Z Z Z Z Z Z ?_)
   refine zgo ?_
   refine i6 [2,4] [0,1,2,3,4,5,6,7,8,9,10,11,12] (λ(i:Nat)=>[(6,.own 13),(7,.v (.int .i64 (i:Int)))]) (λ(i:Nat)=>[(13,some (.row 3 1 ((whN (λj=>m.ra.getD j default) i).map Rf.s3)))]) (λ(i:Nat)=>i<=8) (λ(i:Nat)=>8 - i) 0 Z Z ?_ ?_ ?_ ?_
   ·exact P9
   ·exact Z8
   ·exact a1U
   intro i hinv
   have hwl:=@a7R (λj=>m.ra.getD j default) i
   simp only [List.cons_append,List.nil_append]
   refine zcd (λh203=>?_) (λh203=>?_)
   ·refine zgo ?_
    refine a7 Z ?_
    first | refine b5 Z Z (d1 G Z Z Z Z Z J (by simp;omega)) ?_ | refine b5 Z Z (d1 G Z Z Z Z Z J J) ?_
    refine a7 Z (b5 Z Z (j9 G Z Z Z Z Z (C3 J (by simp;omega)) Z) ?_)
    refine zcd (λh204=>?_) (λh204=>?_)
    ·refine zgo ?_
     refine a7 Z (p6 G 15 Z Z Z Z Z Z Z Z (a7 Z (l2 G (by rw [hpin];decide) Z Z Z Z Z Z Z Z Z (by first | (simp only [List.length_map,List.length_cons,List.length_nil];omega) | (simp;omega)) Z Z ?_)))
     exact c3y
    exact c3y
   obtain rfl:i=8:=J
   refine zgn ?_
   refine t8 (j7 5 [0,1,2,3,4,5,6,7,8,9,10,11,13] mixed Y Z Z (λr0=>?_) (λ_ h=>h))
   refine zsa 0 ?_
   refine zsa 1 ?_
   refine b7 (rs:=[2]) Y Z (AllB.cons ?_ AllB.nil)
   refine g9 [0,1,2,3,4,5,6,7,8,9,10,11,13] Z Z (b5 Z Z (i7 Z (ArgsOK.of Z) (a13 (raN m) (by have:=@a7R (λj=>m.ra.getD j default) 8;unfold raN;omega) (c0z J)) Z) (b4 ⟨Z,?_⟩))
   refine b7 (rs:=[3]) Y Z (AllB.cons ?_ AllB.nil)
   refine g9 [0,1,2,3,4,5,6,7,8,9,10,11,13] Z Z ?_
   refine zgo ?_
   refine ⟨Z,?_⟩
   refine zsa 4 ?_
   refine z7 Y ?_
   refine znk ?_
   refine d7 ⟨.inr Z,_,Z,Z,?_⟩
   have hO:=P5 h1 h2 h3 (c9s hw hNK k202)
   refine zgo ?_
   refine d7 ⟨.inr Z,_,Z,Z,?_⟩
   refine zgo ?_
   refine a7 Z (d6 G 15 Z Z Z Z Z ?_)
   refine zgo ?_
   refine a7 Z (d3 19 Z Z Z (ArgsOK.of Z) (w8 _ x (by first | assumption | exact hsm (by assumption)) hx) Z Z ?_)
   refine zgo ?_
   refine a7 Z (b5 Z Z (p9 G Z Z Z) ?_)
   refine zcd (λh304=>?_) (λh304=>?_)
   ·exact b1j
   try rw [a2K J] at hO
   have hrs:=h304
   refine zgo ?_
   refine a7 Z (b5 Z Z (i7 Z (ArgsOK.of Z) (t7 x ⟨s,_⟩ hx ⟨by show s.size<=_;omega,by first | exact R7 (by decide) | exact O7 J | exact O7 (Int.ofNat_le.1 hrs)⟩) Z) ?_)
   refine zgo ?_
   refine d7 (p7 Z Z Z Z (b3 (c7 Z ?_) (b3 (c7 Z ?_) (b3 (c7 Z ?_) (b3 (B2 Z ?_) (b3 (i8 ?_) (b3 (i8 ?_) (b3 (i8 ?_) (b3 (i8 ?_) d9)))))))))
   all_goals (first | (rw [hO];done) | (rw [hO];rfl))
  have k202:¬ o7 (wrd s 0)=1:=(by rw [← hs0];exact mt b2A.mpr h202)
  refine zgo ?_
  refine a7 Z (b5 Z Z (A5 Z Z Z Z) ?_)
  refine zcd (λh205=>?_) (λh205=>?_)
  ·have k205:o7 (wrd s 0)=2:=(by rw [← hs0];exact b2B.mp h205)
   refine zcl (b1s m hs hM) ?_
   refine zcd (λh206=>?_) (λh206=>?_)
   ·refine zgo ?_
    refine d7 ⟨.inr Z,_,Z,Z,?_⟩
    have hO:=P5 h1 h2 h3 (c7u hw hNK k205 h206)
    refine zgo ?_
    exact b74
   refine zgo ?_
   refine d7 ⟨.inr Z,_,Z,Z,?_⟩
   have hO:=P5 h1 h2 h3 (c7v hw hNK k205 h206)
   refine zgo ?_
   exact b74
  have k205:¬ o7 (wrd s 0)=2:=(by rw [← hs0];exact mt b2B.mpr h205)
  refine zgo ?_
  refine d7 ⟨.inr Z,_,Z,Z,?_⟩
  have hO:=P5 h1 h2 h3 (c9t hw k201 k202 k205)
  refine zgo ?_
  exact b74
 refine zcd (λh104=>?_) (λh104=>?_)
 ·have hw:wn s=2:=(by show (g8 s 32).length=2;omega)
  refine t8 (j7 12 [0,1,2,3,4,5,6,7,9,10] mixed Y Z Z (λr0=>?_) (λ_ h=>h))
  refine zsa 0 ?_
  refine zsa 1 ?_
  first | refine c8 2 Z Y Y Z Z Z Z (d1 G Z Z Z Z Z J (by rw [List.length_map];omega)) ?_ | refine c8 2 Z Y Y Z Z Z Z (d1 G Z Z Z Z Z J J) ?_
  first | refine c8 3 Z Y Y Z Z Z Z (j9 G Z Z Z Z Z (b8I J) Z) ?_ | refine c8 3 Z Y Y Z Z Z Z (j9 G Z Z Z Z Z (C3 J J) Z) ?_
  refine zsa 4 ?_
  first | refine c8 5 Z Y Y Z Z Z Z (d1 G Z Z Z Z Z J (by rw [List.length_map];omega)) ?_ | refine c8 5 Z Y Y Z Z Z Z (d1 G Z Z Z Z Z J J) ?_
  first | refine c8 6 Z Y Y Z Z Z Z (j9 G Z Z Z Z Z (b8I J) Z) ?_ | refine c8 6 Z Y Y Z Z Z Z (j9 G Z Z Z Z Z (C3 J J) Z) ?_
  refine b7 (rs:=[7]) Y Z (AllB.cons ?_ AllB.nil)
  refine g9 [0,1,2,3,4,5,6,7,9,10] Z Z (a2n (n:=55) G Z Z Z Tryz.func84 Z Y Z Z Z Z ?_)
  intro b hen hpin
  refine zgo ?_
  refine a7 Z (B4 12 Z Z Z Z Z Z Z (a7 Z (d6 G 13 Z Z Z Z Z ?_)))
  refine zgo ?_
  refine a7 Z (b5 Z Z (A5 Z Z Z Z) ?_)
  refine zcd (λh201=>?_) (λh201=>?_)
  ·have k201:o7 (wrd s 0)=3:=b2C.mp h201
   have hE:F6 m s=R8 m ⟨1,(F5 s ((g8 s 32).length - 1)).getD ((0:Int)).toNat default,0,0⟩:=c9u hw hNK k201
   have hir:=@a40 m ⟨1,(F5 s ((g8 s 32).length - 1)).getD ((0:Int)).toNat default,0,0⟩
   have hsm:=@Y3 m ⟨1,(F5 s ((g8 s 32).length - 1)).getD ((0:Int)).toNat default,0,0⟩
   have hiq:=@a6B m ⟨1,(F5 s ((g8 s 32).length - 1)).getD ((0:Int)).toNat default,0,0⟩
   have cS:=A9 m 1 ((F5 s ((g8 s 32).length - 1)).getD ((0:Int)).toNat default) 0 0 hs
   unfold R8 at hE
   generalize smT m ⟨1,(F5 s ((g8 s 32).length - 1)).getD ((0:Int)).toNat default,0,0⟩=sr at cS hE hir hsm hiq
   exact c1K
  have k201:¬ o7 (wrd s 0)=3:=mt b2C.mpr h201
  refine zgo ?_
  refine a7 Z (b5 Z Z (A5 Z Z Z Z) ?_)
  refine zcd (λh202=>?_) (λh202=>?_)
  ·have k202:o7 (wrd s 0)=4:=b2D.mp h202
   have hE:F6 m s=R8 m ⟨6,(F5 s ((g8 s 32).length - 1)).getD ((0:Int)).toNat default,0,1⟩:=c9v hw hNK k202
   have hir:=@a40 m ⟨6,(F5 s ((g8 s 32).length - 1)).getD ((0:Int)).toNat default,0,1⟩
   have hsm:=@Y3 m ⟨6,(F5 s ((g8 s 32).length - 1)).getD ((0:Int)).toNat default,0,1⟩
   have hiq:=@a6B m ⟨6,(F5 s ((g8 s 32).length - 1)).getD ((0:Int)).toNat default,0,1⟩
   have cS:=A9 m 6 ((F5 s ((g8 s 32).length - 1)).getD ((0:Int)).toNat default) 0 1 hs
   unfold R8 at hE
   generalize smT m ⟨6,(F5 s ((g8 s 32).length - 1)).getD ((0:Int)).toNat default,0,1⟩=sr at cS hE hir hsm hiq
   exact c1K
  have k202:¬ o7 (wrd s 0)=4:=mt b2D.mpr h202
  refine zgo ?_
  refine a7 Z (b5 Z Z (A5 Z Z Z Z) ?_)
  refine zcd (λh203=>?_) (λh203=>?_)
  ·have k203:o7 (wrd s 0)=5:=b2E.mp h203
   have hE:F6 m s=R8 m ⟨6,(F5 s ((g8 s 32).length - 1)).getD ((0:Int)).toNat default,0,0⟩:=c9w hw hNK k203
   have hir:=@a40 m ⟨6,(F5 s ((g8 s 32).length - 1)).getD ((0:Int)).toNat default,0,0⟩
   have hsm:=@Y3 m ⟨6,(F5 s ((g8 s 32).length - 1)).getD ((0:Int)).toNat default,0,0⟩
   have hiq:=@a6B m ⟨6,(F5 s ((g8 s 32).length - 1)).getD ((0:Int)).toNat default,0,0⟩
   have cS:=A9 m 6 ((F5 s ((g8 s 32).length - 1)).getD ((0:Int)).toNat default) 0 0 hs
   unfold R8 at hE
   generalize smT m ⟨6,(F5 s ((g8 s 32).length - 1)).getD ((0:Int)).toNat default,0,0⟩=sr at cS hE hir hsm hiq
   exact c1K
  have k203:¬ o7 (wrd s 0)=5:=mt b2E.mpr h203
  refine zgo ?_
  refine a7 Z (b5 Z Z (A5 Z Z Z Z) ?_)
  refine zcd (λh204=>?_) (λh204=>?_)
  ·have k204:o7 (wrd s 0)=6:=b2F.mp h204
   have hE:F6 m s=R8 m ⟨3,0,(F5 s ((g8 s 32).length - 1)).getD ((0:Int)).toNat default,0⟩:=c9x hw hNK k204
   have hir:=@a40 m ⟨3,0,(F5 s ((g8 s 32).length - 1)).getD ((0:Int)).toNat default,0⟩
   have hsm:=@Y3 m ⟨3,0,(F5 s ((g8 s 32).length - 1)).getD ((0:Int)).toNat default,0⟩
   have hiq:=@a6B m ⟨3,0,(F5 s ((g8 s 32).length - 1)).getD ((0:Int)).toNat default,0⟩
   have cS:=A9 m 3 0 ((F5 s ((g8 s 32).length - 1)).getD ((0:Int)).toNat default) 0 hs
   unfold R8 at hE
   generalize smT m ⟨3,0,(F5 s ((g8 s 32).length - 1)).getD ((0:Int)).toNat default,0⟩=sr at cS hE hir hsm hiq
   exact c59
  have k204:¬ o7 (wrd s 0)=6:=mt b2F.mpr h204
  refine zgo ?_
  refine a7 Z (b5 Z Z (A5 Z Z Z Z) ?_)
  refine zcd (λh205=>?_) (λh205=>?_)
  ·have k205:o7 (wrd s 0)=7:=b2G.mp h205
   have hE:F6 m s=R8 m ⟨4,0,(F5 s ((g8 s 32).length - 1)).getD ((0:Int)).toNat default,0⟩:=c9y hw hNK k205
   have hir:=@a40 m ⟨4,0,(F5 s ((g8 s 32).length - 1)).getD ((0:Int)).toNat default,0⟩
   have hsm:=@Y3 m ⟨4,0,(F5 s ((g8 s 32).length - 1)).getD ((0:Int)).toNat default,0⟩
   have hiq:=@a6B m ⟨4,0,(F5 s ((g8 s 32).length - 1)).getD ((0:Int)).toNat default,0⟩
   have cS:=A9 m 4 0 ((F5 s ((g8 s 32).length - 1)).getD ((0:Int)).toNat default) 0 hs
   unfold R8 at hE
   generalize smT m ⟨4,0,(F5 s ((g8 s 32).length - 1)).getD ((0:Int)).toNat default,0⟩=sr at cS hE hir hsm hiq
   exact c59
  have k205:¬ o7 (wrd s 0)=7:=mt b2G.mpr h205
  refine zgn ?_
  refine t8 (j7 8 [0,1,2,3,4,5,6,7,8,9,10,11] mixed Y Z Z (λr0=>?_) (λ_ h=>h))
  refine zsa 0 ?_
  refine zsa 1 ?_
  refine zsa 2 ?_
  refine zsa 3 ?_
  refine zsa 4 ?_
  refine b7 (rs:=[5]) Y Z (AllB.cons ?_ AllB.nil)
  refine g9 [0,1,2,3,4,5,6,7,8,9,10,11] Z Z (b5 Z Z (i7 Z (ArgsOK.of Z) (b1v m (wrd s 0) ((F5 s ((g8 s 32).length - 1)).getD ((0:Int)).toNat default) hs hM) Z) (b4 ⟨Z,?_⟩))
  refine b7 (rs:=[6]) Y Z (AllB.cons ?_ AllB.nil)
  refine g9 [0,1,2,3,4,5,6,7,8,9,10,11] Z Z ?_
  refine zgo ?_
  refine ⟨Z,?_⟩
  refine zsa 7 ?_
  refine z7 Y ?_
  refine znk ?_
  refine d7 ⟨.inr Z,_,Z,Z,?_⟩
  have hE2:F6 m s=(m,a41 m (o7 (wrd s 0)) ((F5 s ((g8 s 32).length - 1)).getD ((0:Int)).toNat default)):=c9z hw hNK k201 k202 k203 k204 k205
  have hO:=P5 h1 h2 h3 hE2
  refine b4 ⟨Z,?_⟩
  refine zsa 8 ?_
  refine zsa 9 ?_
  refine b7 (rs:=[10]) Y Z (AllB.cons ?_ AllB.nil)
  refine g9 [0,1,2,3,4,5,6,7,9,10] Z Z ?_
  refine zgo ?_
  refine ⟨Z,?_⟩
  refine zsa 11 ?_
  refine z7 Y ?_
  refine znk ?_
  exact b74
 refine zcd (λh105=>?_) (λh105=>?_)
 ·have hw:wn s=3:=(by show (g8 s 32).length=3;omega)
  refine zgo ?_
  refine a7 Z ?_
  first | refine b5 Z Z (d1 G Z Z Z Z Z J (by rw [List.length_map];omega)) ?_ | refine b5 Z Z (d1 G Z Z Z Z Z J J) ?_
  refine a7 Z ?_
  first | refine b5 Z Z (j9 G Z Z Z Z Z (b8I J) Z) ?_ | refine b5 Z Z (j9 G Z Z Z Z Z (C3 J J) Z) ?_
  refine a7 Z (b5 Z Z (A5 Z Z Z Z) ?_)
  refine zcd (λh106=>?_) (λh106=>?_)
  ·have k106:o7 (wrd s 0)=12:=a8N.mp h106
   have hE:F6 m s=R8 m ⟨5,0,(F5 s ((g8 s 32).length - 1)).getD ((0:Int)).toNat default,(F5 s ((g8 s 32).length - 1)).getD ((1:Int)).toNat default⟩:=c7w hw hNK k106
   have hir:=@a40 m ⟨5,0,(F5 s ((g8 s 32).length - 1)).getD ((0:Int)).toNat default,(F5 s ((g8 s 32).length - 1)).getD ((1:Int)).toNat default⟩
   have hsm:=@Y3 m ⟨5,0,(F5 s ((g8 s 32).length - 1)).getD ((0:Int)).toNat default,(F5 s ((g8 s 32).length - 1)).getD ((1:Int)).toNat default⟩
   have hiq:=@a6B m ⟨5,0,(F5 s ((g8 s 32).length - 1)).getD ((0:Int)).toNat default,(F5 s ((g8 s 32).length - 1)).getD ((1:Int)).toNat default⟩
   have cS:=A9 m 5 0 ((F5 s ((g8 s 32).length - 1)).getD ((0:Int)).toNat default) ((F5 s ((g8 s 32).length - 1)).getD ((1:Int)).toNat default) hs
   unfold R8 at hE
   generalize smT m ⟨5,0,(F5 s ((g8 s 32).length - 1)).getD ((0:Int)).toNat default,(F5 s ((g8 s 32).length - 1)).getD ((1:Int)).toNat default⟩=sr at cS hE hir hsm hiq
   obtain ⟨m1,ir,ok⟩:=sr
   dsimp only at cS hE hir hsm hiq
   refine t8 (j7 13 [0,1,2,3,4,5,6,7,9,10] mixed Y Z Z (λr0=>?_) (λ_ h=>h))
   refine zsa 0 ?_
   refine zsa 1 ?_
   first | refine c8 2 Z Y Y Z Z Z Z (d1 G Z Z Z Z Z J (by rw [List.length_map];omega)) ?_ | refine c8 2 Z Y Y Z Z Z Z (d1 G Z Z Z Z Z J J) ?_
   first | refine c8 3 Z Y Y Z Z Z Z (j9 G Z Z Z Z Z (b8I J) Z) ?_ | refine c8 3 Z Y Y Z Z Z Z (j9 G Z Z Z Z Z (C3 J J) Z) ?_
   refine zsa 4 ?_
   first | refine c8 5 Z Y Y Z Z Z Z (d1 G Z Z Z Z Z J (by rw [List.length_map];omega)) ?_ | refine c8 5 Z Y Y Z Z Z Z (d1 G Z Z Z Z Z J J) ?_
   first | refine c8 6 Z Y Y Z Z Z Z (j9 G Z Z Z Z Z (b8I J) Z) ?_ | refine c8 6 Z Y Y Z Z Z Z (j9 G Z Z Z Z Z (C3 J J) Z) ?_
   refine zsa 7 ?_
   refine b7 (rs:=[8]) Y Z (AllB.cons ?_ AllB.nil)
   refine g9 [0,1,2,3,4,5,6,7,9,10] Z Z (a2n (n:=31) G Z Z Z Tryz.func85 Z Y Z Z Z Z ?_)
   intro b hen hpin
   refine zgo ?_
   refine a7 Z (B4 12 Z Z Z Z Z Z Z (a7 Z (B4 13 Z Z Z Z Z Z Z (a7 Z (d6 G 14 Z Z Z Z Z ?_)))))
   refine zgo ?_
   refine a7 Z (d3 18 Z Z Z (ArgsOK.of Z) cS Z Z ?_)
   refine zgo ?_
   refine a7 Z (d6 G 19 Z Z Z Z Z ?_)
   refine zcd (λh301=>?_) (λh301=>?_)
   ·refine zgo ?_
    refine d7 ⟨.inr Z,_,Z,Z,?_⟩
    have hE2:F6 m s=(m,qmB):=hE.trans (if_neg (by simp [h301]))
    have hO:=P5 h1 h2 h3 hE2
    refine b4 ⟨Z,?_⟩
    refine zsa 9 ?_
    refine zsa 10 ?_
    refine b7 (rs:=[11]) Y Z (AllB.cons ?_ AllB.nil)
    refine g9 [0,1,2,3,4,5,6,7,9,10] Z Z ?_
    refine zgo ?_
    refine ⟨Z,?_⟩
    refine zsa 12 ?_
    refine z7 Y ?_
    refine znk ?_
    refine d7 ⟨.inr Z,_,Z,Z,?_⟩
    refine zgo ?_
    refine a7 Z (d6 G 20 Z Z Z Z Z ?_)
    refine zgo ?_
    refine a7 Z (d3 24 Z Z Z (ArgsOK.of Z) (w8 _ x (by first | assumption | exact hsm (by assumption)) hx) Z Z ?_)
    exact b5z
   refine zgo ?_
   refine a7 Z (d6 G 20 Z Z Z Z Z ?_)
   refine zwf ?_
   refine zgo ?_
   refine d7 ⟨.inr Z,_,Z,Z,?_⟩
   have hE2:F6 m s=(m1,if ir=-1 then okB else u7 ir):=hE.trans (if_pos h301)
   first | rw [if_neg ((hiq h301).mpr J)] at hE2 | rw [if_pos (Decidable.byContradiction λg=>absurd ((hiq h301).mp g) J)] at hE2
   have hO:=P5 h1 h2 h3 hE2
   refine b4 ⟨Z,?_⟩
   refine zsa 9 ?_
   refine zsa 10 ?_
   refine b7 (rs:=[11]) Y Z (AllB.cons ?_ AllB.nil)
   refine g9 [0,1,2,3,4,5,6,7,9,10] Z Z ?_
   refine zgo ?_
   refine ⟨Z,?_⟩
   refine zsa 12 ?_
   refine z7 Y ?_
   refine znk ?_
   refine d7 ⟨.inr Z,_,Z,Z,?_⟩
   refine zgo ?_
   refine a7 Z (d6 G 21 Z Z Z Z Z ?_)
   refine zgo ?_
   refine a7 Z (d3 25 Z Z Z (ArgsOK.of Z) (w8 _ x (by first | assumption | exact hsm (by assumption)) hx) Z Z ?_)
   refine zgo ?_
   refine a7 Z (b5 Z Z (p9 G Z Z Z) ?_)
   refine zcd (λh320=>?_) (λh320=>?_)
   ·exact b1j
   try rw [a2K J] at hO
   have hrs:=h320
   refine zgo ?_
   refine a7 Z (b5 Z Z (i7 Z (ArgsOK.of Z) (t7 x ⟨s,_⟩ hx ⟨by show s.size<=_;omega,by first | exact R7 (by decide) | exact O7 J | exact O7 (Int.ofNat_le.1 hrs)⟩) Z) ?_)
   refine zgo ?_
   refine d7 (p7 Z Z Z Z (b3 (c7 Z ?_) (b3 (c7 Z ?_) (b3 (c7 Z ?_) (b3 (B2 Z ?_) (b3 (i8 ?_) (b3 (i8 ?_) (b3 (i8 ?_) (b3 (i8 ?_) d9)))))))))
   all_goals (first | (rw [hO];done) | (rw [hO];rfl))
  have hO:=P5 h1 h2 h3 (c9A hw (mt a8N.mpr h106))
  refine zgo ?_
  refine d7 ⟨.inr Z,_,Z,Z,?_⟩
  exact c6d
 have hO:=P5 h1 h2 h3 (ct3 (m:=m) (s:=s) (by show 4<=(g8 s 32).length;omega))
 refine zgo ?_
 refine d7 ⟨.inr Z,_,Z,Z,?_⟩
 refine zgo ?_
 refine a7 Z (d6 G 12 Z Z Z Z Z ?_)
 refine zgo ?_
 refine a7 Z (d3 16 Z Z Z (ArgsOK.of Z) (w8 _ x (by first | assumption | exact hsm (by assumption)) hx) Z Z ?_)
 refine zgo ?_
 refine a7 Z (b5 Z Z (p9 G Z Z Z) ?_)
 refine zcd (λh322=>?_) (λh322=>?_)
 ·exact b1j
 try rw [a2K J] at hO
 have hrs:=h322
 refine zgo ?_
 refine a7 Z (b5 Z Z (i7 Z (ArgsOK.of Z) (t7 x ⟨s,_⟩ hx ⟨by show s.size<=_;omega,by first | exact R7 (by decide) | exact O7 J | exact O7 (Int.ofNat_le.1 hrs)⟩) Z) ?_)
 refine zgo ?_
 refine d7 (p7 Z Z Z Z (b3 (c7 Z ?_) (b3 (c7 Z ?_) (b3 (c7 Z ?_) (b3 (B2 Z ?_) (b3 (i8 ?_) (b3 (i8 ?_) (b3 (i8 ?_) (b3 (i8 ?_) d9)))))))))
 all_goals (first | (rw [hO];done) | (rw [hO];rfl))
end Go.Proofs.YtdhckhjphmjniaaGreatDoor
