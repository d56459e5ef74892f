/- Texts merged into one: Q8. -/
import Derived.Test.YtpfhomblkgmkkaaGreatDoorPFnExactRunScriptH
set_option maxHeartbeats 4000000
set_option linter.unusedSimpArgs false
set_option linter.unusedVariables false
set_option maxRecDepth 20000
namespace Go.Proofs.YtpfhomblkgmkkaaGreatDoor
open Go Go.Rf
theorem S9 (m:Mach) (x:Lg) (s:ByteArray) (hs:SmallM m) (hx:x.d.size+x.p.size<=1048576) (hz:s.size<=1048576):Ctr Tryz.prog 7 [.agg [.lst 2 (m.rs.map l7),.lst 1 (m.en.map j6),.lst 1 (m.ra.map j6),.nst none 4 (m.cp.map (l6 169 182)),.v (.string x.d),.v (.string x.p),.v (.int .i64 x.n)],.v (.string s)] (.shp false [some 7,none] [.fr 83 2 ((exC m x s).1.rs.map l7),.fr 4 1 ((exC m x s).1.en.map j6),.fr 4 1 ((exC m x s).1.ra.map j6),.ne 135 4 ((exC m x s).1.cp.map (l6 169 182)),.v (.string (exC m x s).2.1.d),.v (.string (exC m x s).2.1.p),.v (.int .i64 (exC m x s).2.1.n),.v (.string (exC m x s).2.2)]):=by
 refine Ctr.of (n:=51) G Tryz.func7 Z Y Z Z Z (λw0=>?_)
 refine j5 0 Z (λ_=>Z) (λu0=>?_)
 refine zgo ?_
 refine a7 Z (y9 1 Z Z Z Z Z Z Z (a7 Z (d8 G 2 Z Z Z Z Z ?_)))
 refine zgo ?_
 refine a7 Z (c8 6 Z Z Z (ArgsOK.of Z) (s5 _ x (by first | assumption | exact hsm (by assumption)) hx) Z Z (a7 Z (d8 G 7 Z Z Z Z Z ?_)))
 refine zcl (a3I m x hs hx) ?_
 refine zcd (λh1=>?_) (λh1=>?_)
 ·have hO:=c2c (s:=s) h1
  exact b1C
 obtain ⟨hM,hLg⟩:=b8Y h1
 have hG:=(maF hM).g
 have hra:=hG.ra
 refine zgo ?_
 refine a7 Z (b5 Z Z (f9 Z (ArgsOK.of Z) (a0H ⟨s,⟨#[]⟩⟩ ⟨by show s.size<=_;omega,H1 (by decide)⟩) Z) ?_)
 refine zcd (λh2=>?_) (λh2=>?_)
 ·have hO:=c2d h1 h2
  exact b1C
 refine zcd (λh3=>?_) (λh3=>?_)
 ·have hO:=c2e h1 h2 h3
  exact b1C
 refine zgo ?_
 refine a7 Z (a01 (n:=74) G Z Z Z Tryz.func29 Z Y Z Z Z Z ?_)
 intro b hen hpin
 have hwn:1<=(e7 s 32).length/\(e7 s 32).length<=s.size+1:=G6
 have hml:((e7 s 32).map U0).length=(e7 s 32).length:=List.length_map _
 refine zgo ?_
 refine a7 Z (y9 8 Z Z Z Z Z Z Z (a7 Z (d8 G 9 Z Z Z Z Z ?_)))
 refine zgo ?_
 refine a7 Z (c8 10 Z Z Z (ArgsOK.of Z) (H8 s 32 hz) Z Z ?_)
 refine zgo ?_
 refine a7 Z (s4 G 11 Z Z Z Z Z Z Z Z ?_)
 refine zgo ?_
 refine d9 [1,2,4,6] [0,1,2,3,4,5,6,7,8,9] (λ(i:Nat)=>[(7,.own 10),(8,.v (.int .i64 ((i:Int)+1)))]) (λ(i:Nat)=>[(10,some (.row 3 1 ((z6 s i).map Rf.n8)))]) (λ(i:Nat)=>i<=(e7 s 32).length - 1/\∀j,j < i→nmK (wrd s (j+1))=true) (λ(i:Nat)=>(e7 s 32).length - 1 - i) 0 Z Z ?_ ?_ ?_ ?_
 ·exact D9
 ·exact a0e
 ·exact a1k
 intro i hinv
 have hnl:=@a3r s i
 simp only [List.cons_append,List.nil_append]
 refine zcd (λh101=>?_) (λh101=>?_)
 ·refine zgo ?_
  refine a7 Z ?_
  first | refine b5 Z Z (b9 G Z Z Z Z Z J (by rw [List.length_map];omega)) ?_ | refine b5 Z Z (b9 G Z Z Z Z Z J J) ?_
  refine a7 Z ?_
  first | refine b5 Z Z (i7 G Z Z Z Z Z (b6W J) Z) ?_ | refine b5 Z Z (i7 G Z Z Z Z Z (x7 J J) Z) ?_
  refine zcl (a8u (wrd s (i+1)) (by have:=@b9c s (i+1);omega)) ?_
  refine zcd (λh102=>?_) (λh102=>?_)
  ·refine zgo ?_
   refine e6 ⟨.inr Z,_,Z,Z,?_⟩
   have hO:=H2 h1 h2 h3 (c5p (b9d h102 (by show i < (e7 s 32).length - 1;omega)))
   exact c30
  refine zgo ?_
  refine a7 Z (s4 G 12 Z Z Z Z Z Z Z Z (a7 Z (j3 G (by rw [hpin];decide) Z Z Z Z Z Z Z Z Z (by first | (simp only [List.length_map,List.length_cons,List.length_nil];omega) | (simp;omega)) Z Z ?_)))
  exact c23
 obtain rfl:i=(e7 s 32).length - 1:=J
 have hNK:B5 s=true:=b9e hinv.2 (Nat.le_refl _)
 have hnl:=@a3r s ((e7 s 32).length - 1)
 refine zcd (λh103=>?_) (λh103=>?_)
 ·have hw:wn s=1:=(by show (e7 s 32).length=1;omega)
  have hs0:=c5l hw
  refine zgo ?_
  refine a7 Z (a01 (n:=48) G Z Z Z Tryz.func58 Z Y Z Z Z Z ?_)
  intro b hen hpin
  refine zgo ?_
  refine a7 Z (y9 12 Z Z Z Z Z Z Z (a7 Z (d8 G 13 Z Z Z Z Z ?_)))
  refine zgo ?_
  refine a7 Z (b5 Z Z (u4 Z Z Z Z) ?_)
  refine zcd (λh201=>?_) (λh201=>?_)
  ·have k201:l9 (wrd s 0)=0:=(by rw [← hs0];exact b1n.mp h201)
   have hE:C2 m s=H3 m ⟨2,0,0,0⟩:=c68 hw hNK k201
   have hir:=@a3s m ⟨2,0,0,0⟩
   have hsm:=@O7 m ⟨2,0,0,0⟩
   have hiq:=@a4Y m ⟨2,0,0,0⟩
   have cS:=u6 m 2 0 0 0 hs
   unfold H3 at hE
   generalize smT m ⟨2,0,0,0⟩=sr at cS hE hir hsm hiq
   obtain ⟨m1,ir,ok⟩:=sr
   dsimp only at cS hE hir hsm hiq
   refine zgo ?_
   refine a7 Z (a01 (n:=31) G Z Z Z Tryz.func60 Z Y Z Z Z Z ?_)
   intro b hen hpin
   refine zgo ?_
   refine a7 Z (y9 14 Z Z Z Z Z Z Z (a7 Z (y9 15 Z Z Z Z Z Z Z (a7 Z (d8 G 16 Z Z Z Z Z ?_)))))
   refine zgo ?_
   refine a7 Z (c8 20 Z Z Z (ArgsOK.of Z) cS Z Z ?_)
   refine zgo ?_
   refine a7 Z (d8 G 21 Z Z Z Z Z ?_)
   refine zcd (λh301=>?_) (λh301=>?_)
   ·refine zgo ?_
    refine e6 ⟨.inr Z,_,Z,Z,?_⟩
    have hE2:C2 m s=(m,qmB):=hE.trans (if_neg (by simp [h301]))
    have hO:=H2 h1 h2 h3 hE2
    refine zgo ?_
    refine e6 ⟨.inr Z,_,Z,Z,?_⟩
    refine zgo ?_
    refine e6 ⟨.inr Z,_,Z,Z,?_⟩
    refine zgo ?_
    refine a7 Z (d8 G 22 Z Z Z Z Z ?_)
    refine zgo ?_
    refine a7 Z (c8 26 Z Z Z (ArgsOK.of Z) (s5 _ x (by first | assumption | exact hsm (by assumption)) hx) Z Z ?_)
    exact b36
   refine zgo ?_
   refine a7 Z (d8 G 22 Z Z Z Z Z ?_)
   refine zwf ?_
   refine zgo ?_
   refine e6 ⟨.inr Z,_,Z,Z,?_⟩
   have hE2:C2 m s=(m1,if ir=-1 then okB else s1 ir):=hE.trans (if_pos h301)
   first | rw [if_neg ((hiq h301).mpr J)] at hE2 | rw [if_pos (Decidable.byContradiction λg=>absurd ((hiq h301).mp g) J)] at hE2
   have hO:=H2 h1 h2 h3 hE2
   refine zgo ?_
   refine e6 ⟨.inr Z,_,Z,Z,?_⟩
   refine zgo ?_
   refine e6 ⟨.inr Z,_,Z,Z,?_⟩
   refine zgo ?_
   refine a7 Z (d8 G 23 Z Z Z Z Z ?_)
   refine zgo ?_
   refine a7 Z (c8 27 Z Z Z (ArgsOK.of Z) (s5 _ x (by first | assumption | exact hsm (by assumption)) hx) Z Z ?_)
   refine zgo ?_
   refine a7 Z (b5 Z Z (o9 G Z Z Z) ?_)
   refine zcd (λh303=>?_) (λh303=>?_)
   ·exact a9V
   try rw [a1i J] at hO
   have hrs:=h303
   refine zgo ?_
   refine a7 Z (b5 Z Z (f9 Z (ArgsOK.of Z) (t7 x ⟨s,_⟩ hx ⟨by show s.size<=_;omega,by first | exact H1 (by decide) | exact F2 J | exact F2 (Int.ofNat_le.1 hrs)⟩) Z) ?_)
   refine zgo ?_
   refine e6 (m8 Z Z Z Z (b4 (d6 Z ?_) (b4 (d6 Z ?_) (b4 (d6 Z ?_) (b4 (C6 Z ?_) (b4 (l3 ?_) (b4 (l3 ?_) (b4 (l3 ?_) (b4 (l3 ?_) f6)))))))))
   all_goals (first | (rw [hO];done) | (rw [hO];rfl))
  have k201:¬ l9 (wrd s 0)=0:=(by rw [← hs0];exact mt b1n.mpr h201)
  refine zgo ?_
  refine a7 Z (b5 Z Z (u4 Z Z Z Z) ?_)
  refine zcd (λh202=>?_) (λh202=>?_)
  ·have k202:l9 (wrd s 0)=1:=(by rw [← hs0];exact b1o.mp h202)
   refine zgo ?_
   refine a7 Z (s4 G 14 Z Z Z Z Z Z Z Z ?_)
   refine zgo ?_
   refine d9 [2,4] [0,1,2,3,4,5,6,7,8,9,10,11,12] (λ(i:Nat)=>[(6,.own 13),(7,.v (.int .i64 (i:Int)))]) (λ(i:Nat)=>[(13,some (.row 3 1 ((whN (λj=>m.ra.getD j default) i).map Rf.n8)))]) (λ(i:Nat)=>i<=8) (λ(i:Nat)=>8 - i) 0 Z Z ?_ ?_ ?_ ?_
   ·exact C7
   ·exact a0e
   ·exact a1k
   intro i hinv
   have hwl:=@a6l (λj=>m.ra.getD j default) i
   simp only [List.cons_append,List.nil_append]
   refine zcd (λh203=>?_) (λh203=>?_)
   ·refine zgo ?_
    refine a7 Z ?_
    first | refine b5 Z Z (b9 G Z Z Z Z Z J (by simp;omega)) ?_ | refine b5 Z Z (b9 G Z Z Z Z Z J J) ?_
    refine a7 Z (b5 Z Z (i7 G Z Z Z Z Z (x7 J (by simp;omega)) Z) ?_)
    refine zcd (λh204=>?_) (λh204=>?_)
    ·refine zgo ?_
     refine a7 Z (s4 G 15 Z Z Z Z Z Z Z Z (a7 Z (j3 G (by rw [hpin];decide) Z Z Z Z Z Z Z Z Z (by first | (simp only [List.length_map,List.length_cons,List.length_nil];omega) | (simp;omega)) Z Z ?_)))
     exact c1C
    exact c1C
   obtain rfl:i=8:=J
   refine zgn ?_
   refine p6 (j7 5 [0,1,2,3,4,5,6,7,8,9,10,11,13] mixed Y Z Z (λr0=>?_) (λ_ h=>h))
   refine zsa 0 ?_
   refine zsa 1 ?_
   refine b7 (rs:=[2]) Y Z (AllB.cons ?_ AllB.nil)
   refine f8 [0,1,2,3,4,5,6,7,8,9,10,11,13] Z Z (b5 Z Z (f9 Z (ArgsOK.of Z) (a0I (raN m) (by have:=@a6l (λj=>m.ra.getD j default) 8;unfold raN;omega) (b85 J)) Z) (b6 ⟨Z,?_⟩))
   refine b7 (rs:=[3]) Y Z (AllB.cons ?_ AllB.nil)
   refine f8 [0,1,2,3,4,5,6,7,8,9,10,11,13] Z Z ?_
   refine zgo ?_
   refine ⟨Z,?_⟩
   refine zsa 4 ?_
   refine C4 Y ?_
   refine znk ?_
   refine e6 ⟨.inr Z,_,Z,Z,?_⟩
   have hO:=H2 h1 h2 h3 (c69 hw hNK k202)
   refine zgo ?_
   refine e6 ⟨.inr Z,_,Z,Z,?_⟩
   refine zgo ?_
   refine a7 Z (d8 G 15 Z Z Z Z Z ?_)
   refine zgo ?_
   refine a7 Z (c8 19 Z Z Z (ArgsOK.of Z) (s5 _ x (by first | assumption | exact hsm (by assumption)) hx) Z Z ?_)
   refine zgo ?_
   refine a7 Z (b5 Z Z (o9 G Z Z Z) ?_)
   refine zcd (λh304=>?_) (λh304=>?_)
   ·exact a9V
   try rw [a1i J] at hO
   have hrs:=h304
   refine zgo ?_
   refine a7 Z (b5 Z Z (f9 Z (ArgsOK.of Z) (t7 x ⟨s,_⟩ hx ⟨by show s.size<=_;omega,by first | exact H1 (by decide) | exact F2 J | exact F2 (Int.ofNat_le.1 hrs)⟩) Z) ?_)
   refine zgo ?_
   refine e6 (m8 Z Z Z Z (b4 (d6 Z ?_) (b4 (d6 Z ?_) (b4 (d6 Z ?_) (b4 (C6 Z ?_) (b4 (l3 ?_) (b4 (l3 ?_) (b4 (l3 ?_) (b4 (l3 ?_) f6)))))))))
   all_goals (first | (rw [hO];done) | (rw [hO];rfl))
  have k202:¬ l9 (wrd s 0)=1:=(by rw [← hs0];exact mt b1o.mpr h202)
  refine zgo ?_
  refine a7 Z (b5 Z Z (u4 Z Z Z Z) ?_)
  refine zcd (λh205=>?_) (λh205=>?_)
  ·have k205:l9 (wrd s 0)=2:=(by rw [← hs0];exact b1p.mp h205)
   refine zcl (a97 m hs hM) ?_
   refine zcd (λh206=>?_) (λh206=>?_)
   ·refine zgo ?_
    refine e6 ⟨.inr Z,_,Z,Z,?_⟩
    have hO:=H2 h1 h2 h3 (c5q hw hNK k205 h206)
    refine zgo ?_
    exact b59
   refine zgo ?_
   refine e6 ⟨.inr Z,_,Z,Z,?_⟩
   have hO:=H2 h1 h2 h3 (c5r hw hNK k205 h206)
   refine zgo ?_
   exact b59
  have k205:¬ l9 (wrd s 0)=2:=(by rw [← hs0];exact mt b1p.mpr h205)
  refine zgo ?_
  refine e6 ⟨.inr Z,_,Z,Z,?_⟩
  have hO:=H2 h1 h2 h3 (c7a hw k201 k202 k205)
  refine zgo ?_
  exact b59
 refine zcd (λh104=>?_) (λh104=>?_)
 ·have hw:wn s=2:=(by show (e7 s 32).length=2;omega)
  refine p6 (j7 12 [0,1,2,3,4,5,6,7,9,10] mixed Y Z Z (λr0=>?_) (λ_ h=>h))
  refine zsa 0 ?_
  refine zsa 1 ?_
  first | refine d4 2 Z Y Y Z Z Z Z (b9 G Z Z Z Z Z J (by rw [List.length_map];omega)) ?_ | refine d4 2 Z Y Y Z Z Z Z (b9 G Z Z Z Z Z J J) ?_
  first | refine d4 3 Z Y Y Z Z Z Z (i7 G Z Z Z Z Z (b6W J) Z) ?_ | refine d4 3 Z Y Y Z Z Z Z (i7 G Z Z Z Z Z (x7 J J) Z) ?_
  refine zsa 4 ?_
  first | refine d4 5 Z Y Y Z Z Z Z (b9 G Z Z Z Z Z J (by rw [List.length_map];omega)) ?_ | refine d4 5 Z Y Y Z Z Z Z (b9 G Z Z Z Z Z J J) ?_
  first | refine d4 6 Z Y Y Z Z Z Z (i7 G Z Z Z Z Z (b6W J) Z) ?_ | refine d4 6 Z Y Y Z Z Z Z (i7 G Z Z Z Z Z (x7 J J) Z) ?_
  refine b7 (rs:=[7]) Y Z (AllB.cons ?_ AllB.nil)
  refine f8 [0,1,2,3,4,5,6,7,9,10] Z Z (a01 (n:=55) G Z Z Z Tryz.func59 Z Y Z Z Z Z ?_)
  intro b hen hpin
  refine zgo ?_
  refine a7 Z (y9 12 Z Z Z Z Z Z Z (a7 Z (d8 G 13 Z Z Z Z Z ?_)))
  refine zgo ?_
  refine a7 Z (b5 Z Z (u4 Z Z Z Z) ?_)
  refine zcd (λh201=>?_) (λh201=>?_)
  ·have k201:l9 (wrd s 0)=3:=b1q.mp h201
   have hE:C2 m s=H3 m ⟨1,(z6 s ((e7 s 32).length - 1)).getD ((0:Int)).toNat default,0,0⟩:=c7b hw hNK k201
   have hir:=@a3s m ⟨1,(z6 s ((e7 s 32).length - 1)).getD ((0:Int)).toNat default,0,0⟩
   have hsm:=@O7 m ⟨1,(z6 s ((e7 s 32).length - 1)).getD ((0:Int)).toNat default,0,0⟩
   have hiq:=@a4Y m ⟨1,(z6 s ((e7 s 32).length - 1)).getD ((0:Int)).toNat default,0,0⟩
   have cS:=u6 m 1 ((z6 s ((e7 s 32).length - 1)).getD ((0:Int)).toNat default) 0 0 hs
   unfold H3 at hE
   generalize smT m ⟨1,(z6 s ((e7 s 32).length - 1)).getD ((0:Int)).toNat default,0,0⟩=sr at cS hE hir hsm hiq
   exact b9S
  have k201:¬ l9 (wrd s 0)=3:=mt b1q.mpr h201
  refine zgo ?_
  refine a7 Z (b5 Z Z (u4 Z Z Z Z) ?_)
  refine zcd (λh202=>?_) (λh202=>?_)
  ·have k202:l9 (wrd s 0)=4:=b1r.mp h202
   have hE:C2 m s=H3 m ⟨6,(z6 s ((e7 s 32).length - 1)).getD ((0:Int)).toNat default,0,1⟩:=c7c hw hNK k202
   have hir:=@a3s m ⟨6,(z6 s ((e7 s 32).length - 1)).getD ((0:Int)).toNat default,0,1⟩
   have hsm:=@O7 m ⟨6,(z6 s ((e7 s 32).length - 1)).getD ((0:Int)).toNat default,0,1⟩
   have hiq:=@a4Y m ⟨6,(z6 s ((e7 s 32).length - 1)).getD ((0:Int)).toNat default,0,1⟩
   have cS:=u6 m 6 ((z6 s ((e7 s 32).length - 1)).getD ((0:Int)).toNat default) 0 1 hs
   unfold H3 at hE
   generalize smT m ⟨6,(z6 s ((e7 s 32).length - 1)).getD ((0:Int)).toNat default,0,1⟩=sr at cS hE hir hsm hiq
   exact b9S
  have k202:¬ l9 (wrd s 0)=4:=mt b1r.mpr h202
  refine zgo ?_
  refine a7 Z (b5 Z Z (u4 Z Z Z Z) ?_)
  refine zcd (λh203=>?_) (λh203=>?_)
  ·have k203:l9 (wrd s 0)=5:=b1s.mp h203
   have hE:C2 m s=H3 m ⟨6,(z6 s ((e7 s 32).length - 1)).getD ((0:Int)).toNat default,0,0⟩:=c7d hw hNK k203
   have hir:=@a3s m ⟨6,(z6 s ((e7 s 32).length - 1)).getD ((0:Int)).toNat default,0,0⟩
   have hsm:=@O7 m ⟨6,(z6 s ((e7 s 32).length - 1)).getD ((0:Int)).toNat default,0,0⟩
   have hiq:=@a4Y m ⟨6,(z6 s ((e7 s 32).length - 1)).getD ((0:Int)).toNat default,0,0⟩
   have cS:=u6 m 6 ((z6 s ((e7 s 32).length - 1)).getD ((0:Int)).toNat default) 0 0 hs
   unfold H3 at hE
   generalize smT m ⟨6,(z6 s ((e7 s 32).length - 1)).getD ((0:Int)).toNat default,0,0⟩=sr at cS hE hir hsm hiq
   exact b9S
  have k203:¬ l9 (wrd s 0)=5:=mt b1s.mpr h203
  refine zgo ?_
  refine a7 Z (b5 Z Z (u4 Z Z Z Z) ?_)
  refine zcd (λh204=>?_) (λh204=>?_)
  ·have k204:l9 (wrd s 0)=6:=b1t.mp h204
   have hE:C2 m s=H3 m ⟨3,0,(z6 s ((e7 s 32).length - 1)).getD ((0:Int)).toNat default,0⟩:=c7e hw hNK k204
   have hir:=@a3s m ⟨3,0,(z6 s ((e7 s 32).length - 1)).getD ((0:Int)).toNat default,0⟩
   have hsm:=@O7 m ⟨3,0,(z6 s ((e7 s 32).length - 1)).getD ((0:Int)).toNat default,0⟩
   have hiq:=@a4Y m ⟨3,0,(z6 s ((e7 s 32).length - 1)).getD ((0:Int)).toNat default,0⟩
   have cS:=u6 m 3 0 ((z6 s ((e7 s 32).length - 1)).getD ((0:Int)).toNat default) 0 hs
   unfold H3 at hE
   generalize smT m ⟨3,0,(z6 s ((e7 s 32).length - 1)).getD ((0:Int)).toNat default,0⟩=sr at cS hE hir hsm hiq
   exact c3W
  have k204:¬ l9 (wrd s 0)=6:=mt b1t.mpr h204
  refine zgo ?_
  refine a7 Z (b5 Z Z (u4 Z Z Z Z) ?_)
  refine zcd (λh205=>?_) (λh205=>?_)
  ·have k205:l9 (wrd s 0)=7:=b1u.mp h205
   have hE:C2 m s=H3 m ⟨4,0,(z6 s ((e7 s 32).length - 1)).getD ((0:Int)).toNat default,0⟩:=c7f hw hNK k205
   have hir:=@a3s m ⟨4,0,(z6 s ((e7 s 32).length - 1)).getD ((0:Int)).toNat default,0⟩
   have hsm:=@O7 m ⟨4,0,(z6 s ((e7 s 32).length - 1)).getD ((0:Int)).toNat default,0⟩
   have hiq:=@a4Y m ⟨4,0,(z6 s ((e7 s 32).length - 1)).getD ((0:Int)).toNat default,0⟩
   have cS:=u6 m 4 0 ((z6 s ((e7 s 32).length - 1)).getD ((0:Int)).toNat default) 0 hs
   unfold H3 at hE
   generalize smT m ⟨4,0,(z6 s ((e7 s 32).length - 1)).getD ((0:Int)).toNat default,0⟩=sr at cS hE hir hsm hiq
   exact c3W
  have k205:¬ l9 (wrd s 0)=7:=mt b1u.mpr h205
  refine zgn ?_
  refine p6 (j7 8 [0,1,2,3,4,5,6,7,8,9,10,11] mixed Y Z Z (λr0=>?_) (λ_ h=>h))
  refine zsa 0 ?_
  refine zsa 1 ?_
  refine zsa 2 ?_
  refine zsa 3 ?_
  refine zsa 4 ?_
  refine b7 (rs:=[5]) Y Z (AllB.cons ?_ AllB.nil)
  refine f8 [0,1,2,3,4,5,6,7,8,9,10,11] Z Z (b5 Z Z (f9 Z (ArgsOK.of Z) (b0i m (wrd s 0) ((z6 s ((e7 s 32).length - 1)).getD ((0:Int)).toNat default) hs hM) Z) (b6 ⟨Z,?_⟩))
  refine b7 (rs:=[6]) Y Z (AllB.cons ?_ AllB.nil)
  refine f8 [0,1,2,3,4,5,6,7,8,9,10,11] Z Z ?_
  refine zgo ?_
  refine ⟨Z,?_⟩
  refine zsa 7 ?_
  refine C4 Y ?_
  refine znk ?_
  refine e6 ⟨.inr Z,_,Z,Z,?_⟩
  have hE2:C2 m s=(m,a3t m (l9 (wrd s 0)) ((z6 s ((e7 s 32).length - 1)).getD ((0:Int)).toNat default)):=c7g hw hNK k201 k202 k203 k204 k205
  have hO:=H2 h1 h2 h3 hE2
  refine b6 ⟨Z,?_⟩
  refine zsa 8 ?_
  refine zsa 9 ?_
  refine b7 (rs:=[10]) Y Z (AllB.cons ?_ AllB.nil)
  refine f8 [0,1,2,3,4,5,6,7,9,10] Z Z ?_
  refine zgo ?_
  refine ⟨Z,?_⟩
  refine zsa 11 ?_
  refine C4 Y ?_
  refine znk ?_
  exact b59
 refine zcd (λh105=>?_) (λh105=>?_)
 ·have hw:wn s=3:=(by show (e7 s 32).length=3;omega)
  refine zgo ?_
  refine a7 Z ?_
  first | refine b5 Z Z (b9 G Z Z Z Z Z J (by rw [List.length_map];omega)) ?_ | refine b5 Z Z (b9 G Z Z Z Z Z J J) ?_
  refine a7 Z ?_
  first | refine b5 Z Z (i7 G Z Z Z Z Z (b6W J) Z) ?_ | refine b5 Z Z (i7 G Z Z Z Z Z (x7 J J) Z) ?_
  refine a7 Z (b5 Z Z (u4 Z Z Z Z) ?_)
  refine zcd (λh106=>?_) (λh106=>?_)
  ·have k106:l9 (wrd s 0)=12:=a69.mp h106
   have hE:C2 m s=H3 m ⟨5,0,(z6 s ((e7 s 32).length - 1)).getD ((0:Int)).toNat default,(z6 s ((e7 s 32).length - 1)).getD ((1:Int)).toNat default⟩:=c5s hw hNK k106
   have hir:=@a3s m ⟨5,0,(z6 s ((e7 s 32).length - 1)).getD ((0:Int)).toNat default,(z6 s ((e7 s 32).length - 1)).getD ((1:Int)).toNat default⟩
   have hsm:=@O7 m ⟨5,0,(z6 s ((e7 s 32).length - 1)).getD ((0:Int)).toNat default,(z6 s ((e7 s 32).length - 1)).getD ((1:Int)).toNat default⟩
   have hiq:=@a4Y m ⟨5,0,(z6 s ((e7 s 32).length - 1)).getD ((0:Int)).toNat default,(z6 s ((e7 s 32).length - 1)).getD ((1:Int)).toNat default⟩
   have cS:=u6 m 5 0 ((z6 s ((e7 s 32).length - 1)).getD ((0:Int)).toNat default) ((z6 s ((e7 s 32).length - 1)).getD ((1:Int)).toNat default) hs
   unfold H3 at hE
   generalize smT m ⟨5,0,(z6 s ((e7 s 32).length - 1)).getD ((0:Int)).toNat default,(z6 s ((e7 s 32).length - 1)).getD ((1:Int)).toNat default⟩=sr at cS hE hir hsm hiq
   obtain ⟨m1,ir,ok⟩:=sr
   dsimp only at cS hE hir hsm hiq
   refine p6 (j7 13 [0,1,2,3,4,5,6,7,9,10] mixed Y Z Z (λr0=>?_) (λ_ h=>h))
   refine zsa 0 ?_
   refine zsa 1 ?_
   first | refine d4 2 Z Y Y Z Z Z Z (b9 G Z Z Z Z Z J (by rw [List.length_map];omega)) ?_ | refine d4 2 Z Y Y Z Z Z Z (b9 G Z Z Z Z Z J J) ?_
   first | refine d4 3 Z Y Y Z Z Z Z (i7 G Z Z Z Z Z (b6W J) Z) ?_ | refine d4 3 Z Y Y Z Z Z Z (i7 G Z Z Z Z Z (x7 J J) Z) ?_
   refine zsa 4 ?_
   first | refine d4 5 Z Y Y Z Z Z Z (b9 G Z Z Z Z Z J (by rw [List.length_map];omega)) ?_ | refine d4 5 Z Y Y Z Z Z Z (b9 G Z Z Z Z Z J J) ?_
   first | refine d4 6 Z Y Y Z Z Z Z (i7 G Z Z Z Z Z (b6W J) Z) ?_ | refine d4 6 Z Y Y Z Z Z Z (i7 G Z Z Z Z Z (x7 J J) Z) ?_
   refine zsa 7 ?_
   refine b7 (rs:=[8]) Y Z (AllB.cons ?_ AllB.nil)
   refine f8 [0,1,2,3,4,5,6,7,9,10] Z Z (a01 (n:=31) G Z Z Z Tryz.func60 Z Y Z Z Z Z ?_)
   intro b hen hpin
   refine zgo ?_
   refine a7 Z (y9 12 Z Z Z Z Z Z Z (a7 Z (y9 13 Z Z Z Z Z Z Z (a7 Z (d8 G 14 Z Z Z Z Z ?_)))))
   refine zgo ?_
   refine a7 Z (c8 18 Z Z Z (ArgsOK.of Z) cS Z Z ?_)
   refine zgo ?_
   refine a7 Z (d8 G 19 Z Z Z Z Z ?_)
   refine zcd (λh301=>?_) (λh301=>?_)
   ·refine zgo ?_
    refine e6 ⟨.inr Z,_,Z,Z,?_⟩
    have hE2:C2 m s=(m,qmB):=hE.trans (if_neg (by simp [h301]))
    have hO:=H2 h1 h2 h3 hE2
    refine b6 ⟨Z,?_⟩
    refine zsa 9 ?_
    refine zsa 10 ?_
    refine b7 (rs:=[11]) Y Z (AllB.cons ?_ AllB.nil)
    refine f8 [0,1,2,3,4,5,6,7,9,10] Z Z ?_
    refine zgo ?_
    refine ⟨Z,?_⟩
    refine zsa 12 ?_
    refine C4 Y ?_
    refine znk ?_
    refine e6 ⟨.inr Z,_,Z,Z,?_⟩
    refine zgo ?_
    refine a7 Z (d8 G 20 Z Z Z Z Z ?_)
    refine zgo ?_
    refine a7 Z (c8 24 Z Z Z (ArgsOK.of Z) (s5 _ x (by first | assumption | exact hsm (by assumption)) hx) Z Z ?_)
    exact b36
   refine zgo ?_
   refine a7 Z (d8 G 20 Z Z Z Z Z ?_)
   refine zwf ?_
   refine zgo ?_
   refine e6 ⟨.inr Z,_,Z,Z,?_⟩
   have hE2:C2 m s=(m1,if ir=-1 then okB else s1 ir):=hE.trans (if_pos h301)
   first | rw [if_neg ((hiq h301).mpr J)] at hE2 | rw [if_pos (Decidable.byContradiction λg=>absurd ((hiq h301).mp g) J)] at hE2
   have hO:=H2 h1 h2 h3 hE2
   refine b6 ⟨Z,?_⟩
   refine zsa 9 ?_
   refine zsa 10 ?_
   refine b7 (rs:=[11]) Y Z (AllB.cons ?_ AllB.nil)
   refine f8 [0,1,2,3,4,5,6,7,9,10] Z Z ?_
   refine zgo ?_
   refine ⟨Z,?_⟩
   refine zsa 12 ?_
   refine C4 Y ?_
   refine znk ?_
   refine e6 ⟨.inr Z,_,Z,Z,?_⟩
   refine zgo ?_
   refine a7 Z (d8 G 21 Z Z Z Z Z ?_)
   refine zgo ?_
   refine a7 Z (c8 25 Z Z Z (ArgsOK.of Z) (s5 _ x (by first | assumption | exact hsm (by assumption)) hx) Z Z ?_)
   refine zgo ?_
   refine a7 Z (b5 Z Z (o9 G Z Z Z) ?_)
   refine zcd (λh320=>?_) (λh320=>?_)
   ·exact a9V
   try rw [a1i J] at hO
   have hrs:=h320
   refine zgo ?_
   refine a7 Z (b5 Z Z (f9 Z (ArgsOK.of Z) (t7 x ⟨s,_⟩ hx ⟨by show s.size<=_;omega,by first | exact H1 (by decide) | exact F2 J | exact F2 (Int.ofNat_le.1 hrs)⟩) Z) ?_)
   refine zgo ?_
   refine e6 (m8 Z Z Z Z (b4 (d6 Z ?_) (b4 (d6 Z ?_) (b4 (d6 Z ?_) (b4 (C6 Z ?_) (b4 (l3 ?_) (b4 (l3 ?_) (b4 (l3 ?_) (b4 (l3 ?_) f6)))))))))
   all_goals (first | (rw [hO];done) | (rw [hO];rfl))
  have hO:=H2 h1 h2 h3 (c7h hw (mt a69.mpr h106))
  refine zgo ?_
  refine e6 ⟨.inr Z,_,Z,Z,?_⟩
  exact c30
 have hO:=H2 h1 h2 h3 (ct3 (m:=m) (s:=s) (by show 4<=(e7 s 32).length;omega))
 refine zgo ?_
 refine e6 ⟨.inr Z,_,Z,Z,?_⟩
 refine zgo ?_
 refine a7 Z (d8 G 12 Z Z Z Z Z ?_)
 refine zgo ?_
 refine a7 Z (c8 16 Z Z Z (ArgsOK.of Z) (s5 _ x (by first | assumption | exact hsm (by assumption)) hx) Z Z ?_)
 refine zgo ?_
 refine a7 Z (b5 Z Z (o9 G Z Z Z) ?_)
 refine zcd (λh322=>?_) (λh322=>?_)
 ·exact a9V
 try rw [a1i J] at hO
 have hrs:=h322
 refine zgo ?_
 refine a7 Z (b5 Z Z (f9 Z (ArgsOK.of Z) (t7 x ⟨s,_⟩ hx ⟨by show s.size<=_;omega,by first | exact H1 (by decide) | exact F2 J | exact F2 (Int.ofNat_le.1 hrs)⟩) Z) ?_)
 refine zgo ?_
 refine e6 (m8 Z Z Z Z (b4 (d6 Z ?_) (b4 (d6 Z ?_) (b4 (d6 Z ?_) (b4 (C6 Z ?_) (b4 (l3 ?_) (b4 (l3 ?_) (b4 (l3 ?_) (b4 (l3 ?_) f6)))))))))
 all_goals (first | (rw [hO];done) | (rw [hO];rfl))
end Go.Proofs.YtpfhomblkgmkkaaGreatDoor
