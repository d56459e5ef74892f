/- Texts merged into one: Q8. -/
import Derived.Test.YtdhckhjphmjniaaGreatDoorPFnConsoleI
set_option maxHeartbeats 4000000
set_option linter.unusedSimpArgs false
set_option linter.unusedVariables false
set_option maxRecDepth 20000
namespace Go.Proofs.YtdhckhjphmjniaaGreatDoor
open Go Go.Rf
theorem G8 (m:Mach) (x:Lg) (s:ByteArray) (hs:SmallM m) (hx:x.d.size+x.p.size<=1048576) (hz:s.size<=1048576):Ctr Tryz.prog 15 [.agg [.lst 2 (m.rs.map p8),.lst 1 (m.en.map n7),.lst 1 (m.ra.map n7),.nst none 4 (m.cp.map (r4 104 76)),.v (.string x.d),.v (.string x.p),.v (.int .i64 x.n)],.v (.string s)] (.shp false [some 7,none] [.fr 132 2 ((exC m x s).1.rs.map p8),.fr 4 1 ((exC m x s).1.en.map n7),.fr 4 1 ((exC m x s).1.ra.map n7),.ne 74 4 ((exC m x s).1.cp.map (r4 104 76)),.v (.string (exC m x s).2.1.d),.v (.string (exC m x s).2.1.p),.v (.int .i64 (exC m x s).2.1.n),.v (.string (exC m x s).2.2)]):=by
 refine Ctr.of (n:=51) G Tryz.func15 Z Y Z Z Z (λw0=>?_)
 refine m7 0 Z (λ_=>Z) (λu0=>?_)
 refine zgo ?_
 refine a7 Z (B1 1 Z Z Z Z Z Z Z (a7 Z (d6 G 2 Z Z Z Z Z ?_)))
 refine zgo ?_
 refine a7 Z (d3 6 Z Z Z (ArgsOK.of Z) (w6 _ x (by first | assumption | exact hsm (by assumption)) hx) Z Z (a7 Z (d6 G 7 Z Z Z Z Z ?_)))
 refine zcl (a1K m x hs hx) ?_
 refine zcd (λh1=>?_) (λh1=>?_)
 ·have hO:=b92 (s:=s) h1
  exact b2l
 obtain ⟨hM,hLg⟩:=b3d h1
 have hG:=(maF hM).g
 have hra:=hG.ra
 refine zgo ?_
 refine a7 Z (b5 Z Z (i7 Z (ArgsOK.of Z) (a1E ⟨s,⟨#[]⟩⟩ ⟨by show s.size<=_;omega,P7 (by decide)⟩) Z) ?_)
 refine zcd (λh2=>?_) (λh2=>?_)
 ·have hO:=b93 h1 h2
  exact b2l
 refine zcd (λh3=>?_) (λh3=>?_)
 ·have hO:=b94 h1 h2 h3
  exact b2l
 refine zgo ?_
 refine a7 Z (a17 (n:=74) G Z Z Z Tryz.func48 Z Y Z Z Z Z ?_)
 intro b hen hpin
 have hwn:1<=(j7 s 32).length/\(j7 s 32).length<=s.size+1:=a0e
 have hml:((j7 s 32).map a4r).length=(j7 s 32).length:=List.length_map _
 refine zgo ?_
 refine a7 Z (B1 8 Z Z Z Z Z Z Z (a7 Z (d6 G 9 Z Z Z Z Z ?_)))
 refine zgo ?_
 refine a7 Z (d3 10 Z Z Z (ArgsOK.of Z) (Y6 s 32 hz) Z Z ?_)
 refine zgo ?_
 refine a7 Z (o8 G 11 Z Z Z Z Z Z Z Z ?_)
 refine zgo ?_
 refine g9 [1,2,4,6] [0,1,2,3,4,5,6,7,8,9] (λ(i:Nat)=>[(7,.own 10),(8,.v (.int .i64 ((i:Int)+1)))]) (λ(i:Nat)=>[(10,some (.row 3 1 ((E6 s i).map Rf.r5)))]) (λ(i:Nat)=>i<=(j7 s 32).length - 1/\∀j,j < i→nmK (wrd s (j+1))=true) (λ(i:Nat)=>(j7 s 32).length - 1 - i) 0 Z Z ?_ ?_ ?_ ?_
 ·exact S9
 ·exact Y2
 ·exact a1M
 intro i hinv
 have hnl:=@a4L s i
 simp only [List.cons_append,List.nil_append]
 refine zcd (λh101=>?_) (λh101=>?_)
 ·refine zgo ?_
  refine a7 Z ?_
  first | refine b5 Z Z (c8 G Z Z Z Z Z J (by rw [List.length_map];omega)) ?_ | refine b5 Z Z (c8 G Z Z Z Z Z J J) ?_
  refine a7 Z ?_
  first | refine b5 Z Z (j9 G Z Z Z Z Z (b7W J) Z) ?_ | refine b5 Z Z (j9 G Z Z Z Z Z (B6 J J) Z) ?_
  refine zcl (a9t (wrd s (i+1)) (by have:=@b9V s (i+1);omega)) ?_
  refine zcd (λh102=>?_) (λh102=>?_)
  ·refine zgo ?_
   refine d8 ⟨.inr Z,_,Z,Z,?_⟩
   have hO:=O5 h1 h2 h3 (c6r (b9W h102 (by show i < (j7 s 32).length - 1;omega)))
   exact c5a
  refine zgo ?_
  refine a7 Z (o8 G 12 Z Z Z Z Z Z Z Z (a7 Z (j8 G (by rw [hpin];decide) Z Z Z Z Z Z Z Z Z (by first | (simp only [List.length_map,List.length_cons,List.length_nil];omega) | (simp;omega)) Z Z ?_)))
  exact c4a
 obtain rfl:i=(j7 s 32).length - 1:=J
 have hNK:H0 s=true:=b9X hinv.2 (Nat.le_refl _)
 have hnl:=@a4L s ((j7 s 32).length - 1)
 refine zcd (λh103=>?_) (λh103=>?_)
 ·have hw:wn s=1:=(by show (j7 s 32).length=1;omega)
  have hs0:=c6n hw
  refine zgo ?_
  refine a7 Z (a17 (n:=48) G Z Z Z Tryz.func83 Z Y Z Z Z Z ?_)
  intro b hen hpin
  refine zgo ?_
  refine a7 Z (B1 12 Z Z Z Z Z Z Z (a7 Z (d6 G 13 Z Z Z Z Z ?_)))
  refine zgo ?_
  refine a7 Z (b5 Z Z (w5 Z Z Z Z) ?_)
  refine zcd (λh201=>?_) (λh201=>?_)
  ·have k201:m9 (wrd s 0)=0:=(by rw [← hs0];exact b11.mp h201)
   have hE:E7 m s=P8 m ⟨2,0,0,0⟩:=c8i hw hNK k201
   have hir:=@a4M m ⟨2,0,0,0⟩
   have hsm:=@V8 m ⟨2,0,0,0⟩
   have hiq:=@a6l m ⟨2,0,0,0⟩
   have cS:=A0 m 2 0 0 0 hs
   unfold P8 at hE
   generalize smT m ⟨2,0,0,0⟩=sr at cS hE hir hsm hiq
   obtain ⟨m1,ir,ok⟩:=sr
   dsimp only at cS hE hir hsm hiq
   refine zgo ?_
   refine a7 Z (a17 (n:=31) G Z Z Z Tryz.func85 Z Y Z Z Z Z ?_)
   intro b hen hpin
   refine zgo ?_
   refine a7 Z (B1 14 Z Z Z Z Z Z Z (a7 Z (B1 15 Z Z Z Z Z Z Z (a7 Z (d6 G 16 Z Z Z Z Z ?_)))))
   refine zgo ?_
   refine a7 Z (d3 20 Z Z Z (ArgsOK.of Z) cS Z Z ?_)
   refine zgo ?_
   refine a7 Z (d6 G 21 Z Z Z Z Z ?_)
   refine zcd (λh301=>?_) (λh301=>?_)
   ·refine zgo ?_
    refine d8 ⟨.inr Z,_,Z,Z,?_⟩
    have hE2:E7 m s=(m,qmB):=hE.trans (if_neg (by simp [h301]))
    have hO:=O5 h1 h2 h3 hE2
    refine zgo ?_
    refine d8 ⟨.inr Z,_,Z,Z,?_⟩
    refine zgo ?_
    refine d8 ⟨.inr Z,_,Z,Z,?_⟩
    refine zgo ?_
    refine a7 Z (d6 G 22 Z Z Z Z Z ?_)
    refine zgo ?_
    refine a7 Z (d3 26 Z Z Z (ArgsOK.of Z) (w6 _ x (by first | assumption | exact hsm (by assumption)) hx) Z Z ?_)
    exact b4T
   refine zgo ?_
   refine a7 Z (d6 G 22 Z Z Z Z Z ?_)
   refine zwf ?_
   refine zgo ?_
   refine d8 ⟨.inr Z,_,Z,Z,?_⟩
   have hE2:E7 m s=(m1,if ir=-1 then okB else u3 ir):=hE.trans (if_pos h301)
   first | rw [if_neg ((hiq h301).mpr J)] at hE2 | rw [if_pos (Decidable.byContradiction λg=>absurd ((hiq h301).mp g) J)] at hE2
   have hO:=O5 h1 h2 h3 hE2
   refine zgo ?_
   refine d8 ⟨.inr Z,_,Z,Z,?_⟩
   refine zgo ?_
   refine d8 ⟨.inr Z,_,Z,Z,?_⟩
   refine zgo ?_
   refine a7 Z (d6 G 23 Z Z Z Z Z ?_)
   refine zgo ?_
   refine a7 Z (d3 27 Z Z Z (ArgsOK.of Z) (w6 _ x (by first | assumption | exact hsm (by assumption)) hx) Z Z ?_)
   refine zgo ?_
   refine a7 Z (b5 Z Z (q9 G Z Z Z) ?_)
   refine zcd (λh303=>?_) (λh303=>?_)
   ·exact b0L
   try rw [a2r J] at hO
   have hrs:=h303
   refine zgo ?_
   refine a7 Z (b5 Z Z (i7 Z (ArgsOK.of Z) (t8 x ⟨s,_⟩ hx ⟨by show s.size<=_;omega,by first | exact P7 (by decide) | exact N5 J | exact N5 (Int.ofNat_le.1 hrs)⟩) Z) ?_)
   refine zgo ?_
   refine d8 (p4 Z Z Z Z (b3 (c7 Z ?_) (b3 (c7 Z ?_) (b3 (c7 Z ?_) (b3 (A1 Z ?_) (b3 (j4 ?_) (b3 (j4 ?_) (b3 (j4 ?_) (b3 (j4 ?_) d9)))))))))
   all_goals (first | (rw [hO];done) | (rw [hO];rfl))
  have k201:¬ m9 (wrd s 0)=0:=(by rw [← hs0];exact mt b11.mpr h201)
  refine zgo ?_
  refine a7 Z (b5 Z Z (w5 Z Z Z Z) ?_)
  refine zcd (λh202=>?_) (λh202=>?_)
  ·have k202:m9 (wrd s 0)=1:=(by rw [← hs0];exact b12.mp h202)
   refine zgo ?_
   refine a7 Z (o8 G 14 Z Z Z Z Z Z Z Z ?_)
   refine zgo ?_
   refine g9 [2,4] [0,1,2,3,4,5,6,7,8,9,10,11,12] (λ(i:Nat)=>[(6,.own 13),(7,.v (.int .i64 (i:Int)))]) (λ(i:Nat)=>[(13,some (.row 3 1 ((whN (λj=>m.ra.getD j default) i).map Rf.r5)))]) (λ(i:Nat)=>i<=8) (λ(i:Nat)=>8 - i) 0 Z Z ?_ ?_ ?_ ?_
   ·exact R3
   ·exact Y2
   ·exact a1M
   intro i hinv
   have hwl:=@a7w (λj=>m.ra.getD j default) i
   simp only [List.cons_append,List.nil_append]
   refine zcd (λh203=>?_) (λh203=>?_)
   ·refine zgo ?_
    refine a7 Z ?_
    first | refine b5 Z Z (c8 G Z Z Z Z Z J (by simp;omega)) ?_ | refine b5 Z Z (c8 G Z Z Z Z Z J J) ?_
    refine a7 Z (b5 Z Z (j9 G Z Z Z Z Z (B6 J (by simp;omega)) Z) ?_)
    refine zcd (λh204=>?_) (λh204=>?_)
    ·refine zgo ?_
     refine a7 Z (o8 G 15 Z Z Z Z Z Z Z Z (a7 Z (j8 G (by rw [hpin];decide) Z Z Z Z Z Z Z Z Z (by first | (simp only [List.length_map,List.length_cons,List.length_nil];omega) | (simp;omega)) Z Z ?_)))
     exact c2E
    exact c2E
   obtain rfl:i=8:=J
   refine zgn ?_
   refine s5 (l1 5 [0,1,2,3,4,5,6,7,8,9,10,11,13] mixed Y Z Z (λr0=>?_) (λ_ h=>h))
   refine zsa 0 ?_
   refine zsa 1 ?_
   refine b6 (rs:=[2]) Y Z (AllB.cons ?_ AllB.nil)
   refine f8 [0,1,2,3,4,5,6,7,8,9,10,11,13] Z Z (b5 Z Z (i7 Z (ArgsOK.of Z) (a1J (raN m) (by have:=@a7w (λj=>m.ra.getD j default) 8;unfold raN;omega) (b9O J)) Z) (b4 ⟨Z,?_⟩))
   refine b6 (rs:=[3]) Y Z (AllB.cons ?_ AllB.nil)
   refine f8 [0,1,2,3,4,5,6,7,8,9,10,11,13] Z Z ?_
   refine zgo ?_
   refine ⟨Z,?_⟩
   refine zsa 4 ?_
   refine E5 Y ?_
   refine znk ?_
   refine d8 ⟨.inr Z,_,Z,Z,?_⟩
   have hO:=O5 h1 h2 h3 (c8j hw hNK k202)
   refine zgo ?_
   refine d8 ⟨.inr Z,_,Z,Z,?_⟩
   refine zgo ?_
   refine a7 Z (d6 G 15 Z Z Z Z Z ?_)
   refine zgo ?_
   refine a7 Z (d3 19 Z Z Z (ArgsOK.of Z) (w6 _ x (by first | assumption | exact hsm (by assumption)) hx) Z Z ?_)
   refine zgo ?_
   refine a7 Z (b5 Z Z (q9 G Z Z Z) ?_)
   refine zcd (λh304=>?_) (λh304=>?_)
   ·exact b0L
   try rw [a2r J] at hO
   have hrs:=h304
   refine zgo ?_
   refine a7 Z (b5 Z Z (i7 Z (ArgsOK.of Z) (t8 x ⟨s,_⟩ hx ⟨by show s.size<=_;omega,by first | exact P7 (by decide) | exact N5 J | exact N5 (Int.ofNat_le.1 hrs)⟩) Z) ?_)
   refine zgo ?_
   refine d8 (p4 Z Z Z Z (b3 (c7 Z ?_) (b3 (c7 Z ?_) (b3 (c7 Z ?_) (b3 (A1 Z ?_) (b3 (j4 ?_) (b3 (j4 ?_) (b3 (j4 ?_) (b3 (j4 ?_) d9)))))))))
   all_goals (first | (rw [hO];done) | (rw [hO];rfl))
  have k202:¬ m9 (wrd s 0)=1:=(by rw [← hs0];exact mt b12.mpr h202)
  refine zgo ?_
  refine a7 Z (b5 Z Z (w5 Z Z Z Z) ?_)
  refine zcd (λh205=>?_) (λh205=>?_)
  ·have k205:m9 (wrd s 0)=2:=(by rw [← hs0];exact b13.mp h205)
   refine zcl (b0U m hs hM) ?_
   refine zcd (λh206=>?_) (λh206=>?_)
   ·refine zgo ?_
    refine d8 ⟨.inr Z,_,Z,Z,?_⟩
    have hO:=O5 h1 h2 h3 (c6s hw hNK k205 h206)
    refine zgo ?_
    exact b7h
   refine zgo ?_
   refine d8 ⟨.inr Z,_,Z,Z,?_⟩
   have hO:=O5 h1 h2 h3 (c6t hw hNK k205 h206)
   refine zgo ?_
   exact b7h
  have k205:¬ m9 (wrd s 0)=2:=(by rw [← hs0];exact mt b13.mpr h205)
  refine zgo ?_
  refine d8 ⟨.inr Z,_,Z,Z,?_⟩
  have hO:=O5 h1 h2 h3 (c8k hw k201 k202 k205)
  refine zgo ?_
  exact b7h
 refine zcd (λh104=>?_) (λh104=>?_)
 ·have hw:wn s=2:=(by show (j7 s 32).length=2;omega)
  refine s5 (l1 12 [0,1,2,3,4,5,6,7,9,10] mixed Y Z Z (λr0=>?_) (λ_ h=>h))
  refine zsa 0 ?_
  refine zsa 1 ?_
  first | refine d7 2 Z Y Y Z Z Z Z (c8 G Z Z Z Z Z J (by rw [List.length_map];omega)) ?_ | refine d7 2 Z Y Y Z Z Z Z (c8 G Z Z Z Z Z J J) ?_
  first | refine d7 3 Z Y Y Z Z Z Z (j9 G Z Z Z Z Z (b7W J) Z) ?_ | refine d7 3 Z Y Y Z Z Z Z (j9 G Z Z Z Z Z (B6 J J) Z) ?_
  refine zsa 4 ?_
  first | refine d7 5 Z Y Y Z Z Z Z (c8 G Z Z Z Z Z J (by rw [List.length_map];omega)) ?_ | refine d7 5 Z Y Y Z Z Z Z (c8 G Z Z Z Z Z J J) ?_
  first | refine d7 6 Z Y Y Z Z Z Z (j9 G Z Z Z Z Z (b7W J) Z) ?_ | refine d7 6 Z Y Y Z Z Z Z (j9 G Z Z Z Z Z (B6 J J) Z) ?_
  refine b6 (rs:=[7]) Y Z (AllB.cons ?_ AllB.nil)
  refine f8 [0,1,2,3,4,5,6,7,9,10] Z Z (a17 (n:=55) G Z Z Z Tryz.func84 Z Y Z Z Z Z ?_)
  intro b hen hpin
  refine zgo ?_
  refine a7 Z (B1 12 Z Z Z Z Z Z Z (a7 Z (d6 G 13 Z Z Z Z Z ?_)))
  refine zgo ?_
  refine a7 Z (b5 Z Z (w5 Z Z Z Z) ?_)
  refine zcd (λh201=>?_) (λh201=>?_)
  ·have k201:m9 (wrd s 0)=3:=b14.mp h201
   have hE:E7 m s=P8 m ⟨1,(E6 s ((j7 s 32).length - 1)).getD ((0:Int)).toNat default,0,0⟩:=c8l hw hNK k201
   have hir:=@a4M m ⟨1,(E6 s ((j7 s 32).length - 1)).getD ((0:Int)).toNat default,0,0⟩
   have hsm:=@V8 m ⟨1,(E6 s ((j7 s 32).length - 1)).getD ((0:Int)).toNat default,0,0⟩
   have hiq:=@a6l m ⟨1,(E6 s ((j7 s 32).length - 1)).getD ((0:Int)).toNat default,0,0⟩
   have cS:=A0 m 1 ((E6 s ((j7 s 32).length - 1)).getD ((0:Int)).toNat default) 0 0 hs
   unfold P8 at hE
   generalize smT m ⟨1,(E6 s ((j7 s 32).length - 1)).getD ((0:Int)).toNat default,0,0⟩=sr at cS hE hir hsm hiq
   exact c0O
  have k201:¬ m9 (wrd s 0)=3:=mt b14.mpr h201
  refine zgo ?_
  refine a7 Z (b5 Z Z (w5 Z Z Z Z) ?_)
  refine zcd (λh202=>?_) (λh202=>?_)
  ·have k202:m9 (wrd s 0)=4:=b15.mp h202
   have hE:E7 m s=P8 m ⟨6,(E6 s ((j7 s 32).length - 1)).getD ((0:Int)).toNat default,0,1⟩:=c8m hw hNK k202
   have hir:=@a4M m ⟨6,(E6 s ((j7 s 32).length - 1)).getD ((0:Int)).toNat default,0,1⟩
   have hsm:=@V8 m ⟨6,(E6 s ((j7 s 32).length - 1)).getD ((0:Int)).toNat default,0,1⟩
   have hiq:=@a6l m ⟨6,(E6 s ((j7 s 32).length - 1)).getD ((0:Int)).toNat default,0,1⟩
   have cS:=A0 m 6 ((E6 s ((j7 s 32).length - 1)).getD ((0:Int)).toNat default) 0 1 hs
   unfold P8 at hE
   generalize smT m ⟨6,(E6 s ((j7 s 32).length - 1)).getD ((0:Int)).toNat default,0,1⟩=sr at cS hE hir hsm hiq
   exact c0O
  have k202:¬ m9 (wrd s 0)=4:=mt b15.mpr h202
  refine zgo ?_
  refine a7 Z (b5 Z Z (w5 Z Z Z Z) ?_)
  refine zcd (λh203=>?_) (λh203=>?_)
  ·have k203:m9 (wrd s 0)=5:=b16.mp h203
   have hE:E7 m s=P8 m ⟨6,(E6 s ((j7 s 32).length - 1)).getD ((0:Int)).toNat default,0,0⟩:=c8n hw hNK k203
   have hir:=@a4M m ⟨6,(E6 s ((j7 s 32).length - 1)).getD ((0:Int)).toNat default,0,0⟩
   have hsm:=@V8 m ⟨6,(E6 s ((j7 s 32).length - 1)).getD ((0:Int)).toNat default,0,0⟩
   have hiq:=@a6l m ⟨6,(E6 s ((j7 s 32).length - 1)).getD ((0:Int)).toNat default,0,0⟩
   have cS:=A0 m 6 ((E6 s ((j7 s 32).length - 1)).getD ((0:Int)).toNat default) 0 0 hs
   unfold P8 at hE
   generalize smT m ⟨6,(E6 s ((j7 s 32).length - 1)).getD ((0:Int)).toNat default,0,0⟩=sr at cS hE hir hsm hiq
   exact c0O
  have k203:¬ m9 (wrd s 0)=5:=mt b16.mpr h203
  refine zgo ?_
  refine a7 Z (b5 Z Z (w5 Z Z Z Z) ?_)
  refine zcd (λh204=>?_) (λh204=>?_)
  ·have k204:m9 (wrd s 0)=6:=b17.mp h204
   have hE:E7 m s=P8 m ⟨3,0,(E6 s ((j7 s 32).length - 1)).getD ((0:Int)).toNat default,0⟩:=c8o hw hNK k204
   have hir:=@a4M m ⟨3,0,(E6 s ((j7 s 32).length - 1)).getD ((0:Int)).toNat default,0⟩
   have hsm:=@V8 m ⟨3,0,(E6 s ((j7 s 32).length - 1)).getD ((0:Int)).toNat default,0⟩
   have hiq:=@a6l m ⟨3,0,(E6 s ((j7 s 32).length - 1)).getD ((0:Int)).toNat default,0⟩
   have cS:=A0 m 3 0 ((E6 s ((j7 s 32).length - 1)).getD ((0:Int)).toNat default) 0 hs
   unfold P8 at hE
   generalize smT m ⟨3,0,(E6 s ((j7 s 32).length - 1)).getD ((0:Int)).toNat default,0⟩=sr at cS hE hir hsm hiq
   exact c45
  have k204:¬ m9 (wrd s 0)=6:=mt b17.mpr h204
  refine zgo ?_
  refine a7 Z (b5 Z Z (w5 Z Z Z Z) ?_)
  refine zcd (λh205=>?_) (λh205=>?_)
  ·have k205:m9 (wrd s 0)=7:=b18.mp h205
   have hE:E7 m s=P8 m ⟨4,0,(E6 s ((j7 s 32).length - 1)).getD ((0:Int)).toNat default,0⟩:=c8p hw hNK k205
   have hir:=@a4M m ⟨4,0,(E6 s ((j7 s 32).length - 1)).getD ((0:Int)).toNat default,0⟩
   have hsm:=@V8 m ⟨4,0,(E6 s ((j7 s 32).length - 1)).getD ((0:Int)).toNat default,0⟩
   have hiq:=@a6l m ⟨4,0,(E6 s ((j7 s 32).length - 1)).getD ((0:Int)).toNat default,0⟩
   have cS:=A0 m 4 0 ((E6 s ((j7 s 32).length - 1)).getD ((0:Int)).toNat default) 0 hs
   unfold P8 at hE
   generalize smT m ⟨4,0,(E6 s ((j7 s 32).length - 1)).getD ((0:Int)).toNat default,0⟩=sr at cS hE hir hsm hiq
   exact c45
  have k205:¬ m9 (wrd s 0)=7:=mt b18.mpr h205
  refine zgn ?_
  refine s5 (l1 8 [0,1,2,3,4,5,6,7,8,9,10,11] mixed Y Z Z (λr0=>?_) (λ_ h=>h))
  refine zsa 0 ?_
  refine zsa 1 ?_
  refine zsa 2 ?_
  refine zsa 3 ?_
  refine zsa 4 ?_
  refine b6 (rs:=[5]) Y Z (AllB.cons ?_ AllB.nil)
  refine f8 [0,1,2,3,4,5,6,7,8,9,10,11] Z Z (b5 Z Z (i7 Z (ArgsOK.of Z) (b0X m (wrd s 0) ((E6 s ((j7 s 32).length - 1)).getD ((0:Int)).toNat default) hs hM) Z) (b4 ⟨Z,?_⟩))
  refine b6 (rs:=[6]) Y Z (AllB.cons ?_ AllB.nil)
  refine f8 [0,1,2,3,4,5,6,7,8,9,10,11] Z Z ?_
  refine zgo ?_
  refine ⟨Z,?_⟩
  refine zsa 7 ?_
  refine E5 Y ?_
  refine znk ?_
  refine d8 ⟨.inr Z,_,Z,Z,?_⟩
  have hE2:E7 m s=(m,a4N m (m9 (wrd s 0)) ((E6 s ((j7 s 32).length - 1)).getD ((0:Int)).toNat default)):=c8q hw hNK k201 k202 k203 k204 k205
  have hO:=O5 h1 h2 h3 hE2
  refine b4 ⟨Z,?_⟩
  refine zsa 8 ?_
  refine zsa 9 ?_
  refine b6 (rs:=[10]) Y Z (AllB.cons ?_ AllB.nil)
  refine f8 [0,1,2,3,4,5,6,7,9,10] Z Z ?_
  refine zgo ?_
  refine ⟨Z,?_⟩
  refine zsa 11 ?_
  refine E5 Y ?_
  refine znk ?_
  exact b7h
 refine zcd (λh105=>?_) (λh105=>?_)
 ·have hw:wn s=3:=(by show (j7 s 32).length=3;omega)
  refine zgo ?_
  refine a7 Z ?_
  first | refine b5 Z Z (c8 G Z Z Z Z Z J (by rw [List.length_map];omega)) ?_ | refine b5 Z Z (c8 G Z Z Z Z Z J J) ?_
  refine a7 Z ?_
  first | refine b5 Z Z (j9 G Z Z Z Z Z (b7W J) Z) ?_ | refine b5 Z Z (j9 G Z Z Z Z Z (B6 J J) Z) ?_
  refine a7 Z (b5 Z Z (w5 Z Z Z Z) ?_)
  refine zcd (λh106=>?_) (λh106=>?_)
  ·have k106:m9 (wrd s 0)=12:=a8m.mp h106
   have hE:E7 m s=P8 m ⟨5,0,(E6 s ((j7 s 32).length - 1)).getD ((0:Int)).toNat default,(E6 s ((j7 s 32).length - 1)).getD ((1:Int)).toNat default⟩:=c6u hw hNK k106
   have hir:=@a4M m ⟨5,0,(E6 s ((j7 s 32).length - 1)).getD ((0:Int)).toNat default,(E6 s ((j7 s 32).length - 1)).getD ((1:Int)).toNat default⟩
   have hsm:=@V8 m ⟨5,0,(E6 s ((j7 s 32).length - 1)).getD ((0:Int)).toNat default,(E6 s ((j7 s 32).length - 1)).getD ((1:Int)).toNat default⟩
   have hiq:=@a6l m ⟨5,0,(E6 s ((j7 s 32).length - 1)).getD ((0:Int)).toNat default,(E6 s ((j7 s 32).length - 1)).getD ((1:Int)).toNat default⟩
   have cS:=A0 m 5 0 ((E6 s ((j7 s 32).length - 1)).getD ((0:Int)).toNat default) ((E6 s ((j7 s 32).length - 1)).getD ((1:Int)).toNat default) hs
   unfold P8 at hE
   generalize smT m ⟨5,0,(E6 s ((j7 s 32).length - 1)).getD ((0:Int)).toNat default,(E6 s ((j7 s 32).length - 1)).getD ((1:Int)).toNat default⟩=sr at cS hE hir hsm hiq
   obtain ⟨m1,ir,ok⟩:=sr
   dsimp only at cS hE hir hsm hiq
   refine s5 (l1 13 [0,1,2,3,4,5,6,7,9,10] mixed Y Z Z (λr0=>?_) (λ_ h=>h))
   refine zsa 0 ?_
   refine zsa 1 ?_
   first | refine d7 2 Z Y Y Z Z Z Z (c8 G Z Z Z Z Z J (by rw [List.length_map];omega)) ?_ | refine d7 2 Z Y Y Z Z Z Z (c8 G Z Z Z Z Z J J) ?_
   first | refine d7 3 Z Y Y Z Z Z Z (j9 G Z Z Z Z Z (b7W J) Z) ?_ | refine d7 3 Z Y Y Z Z Z Z (j9 G Z Z Z Z Z (B6 J J) Z) ?_
   refine zsa 4 ?_
   first | refine d7 5 Z Y Y Z Z Z Z (c8 G Z Z Z Z Z J (by rw [List.length_map];omega)) ?_ | refine d7 5 Z Y Y Z Z Z Z (c8 G Z Z Z Z Z J J) ?_
   first | refine d7 6 Z Y Y Z Z Z Z (j9 G Z Z Z Z Z (b7W J) Z) ?_ | refine d7 6 Z Y Y Z Z Z Z (j9 G Z Z Z Z Z (B6 J J) Z) ?_
   refine zsa 7 ?_
   refine b6 (rs:=[8]) Y Z (AllB.cons ?_ AllB.nil)
   refine f8 [0,1,2,3,4,5,6,7,9,10] Z Z (a17 (n:=31) G Z Z Z Tryz.func85 Z Y Z Z Z Z ?_)
   intro b hen hpin
   refine zgo ?_
   refine a7 Z (B1 12 Z Z Z Z Z Z Z (a7 Z (B1 13 Z Z Z Z Z Z Z (a7 Z (d6 G 14 Z Z Z Z Z ?_)))))
   refine zgo ?_
   refine a7 Z (d3 18 Z Z Z (ArgsOK.of Z) cS Z Z ?_)
   refine zgo ?_
   refine a7 Z (d6 G 19 Z Z Z Z Z ?_)
   refine zcd (λh301=>?_) (λh301=>?_)
   ·refine zgo ?_
    refine d8 ⟨.inr Z,_,Z,Z,?_⟩
    have hE2:E7 m s=(m,qmB):=hE.trans (if_neg (by simp [h301]))
    have hO:=O5 h1 h2 h3 hE2
    refine b4 ⟨Z,?_⟩
    refine zsa 9 ?_
    refine zsa 10 ?_
    refine b6 (rs:=[11]) Y Z (AllB.cons ?_ AllB.nil)
    refine f8 [0,1,2,3,4,5,6,7,9,10] Z Z ?_
    refine zgo ?_
    refine ⟨Z,?_⟩
    refine zsa 12 ?_
    refine E5 Y ?_
    refine znk ?_
    refine d8 ⟨.inr Z,_,Z,Z,?_⟩
    refine zgo ?_
    refine a7 Z (d6 G 20 Z Z Z Z Z ?_)
    refine zgo ?_
    refine a7 Z (d3 24 Z Z Z (ArgsOK.of Z) (w6 _ x (by first | assumption | exact hsm (by assumption)) hx) Z Z ?_)
    exact b4T
   refine zgo ?_
   refine a7 Z (d6 G 20 Z Z Z Z Z ?_)
   refine zwf ?_
   refine zgo ?_
   refine d8 ⟨.inr Z,_,Z,Z,?_⟩
   have hE2:E7 m s=(m1,if ir=-1 then okB else u3 ir):=hE.trans (if_pos h301)
   first | rw [if_neg ((hiq h301).mpr J)] at hE2 | rw [if_pos (Decidable.byContradiction λg=>absurd ((hiq h301).mp g) J)] at hE2
   have hO:=O5 h1 h2 h3 hE2
   refine b4 ⟨Z,?_⟩
   refine zsa 9 ?_
   refine zsa 10 ?_
   refine b6 (rs:=[11]) Y Z (AllB.cons ?_ AllB.nil)
   refine f8 [0,1,2,3,4,5,6,7,9,10] Z Z ?_
   refine zgo ?_
   refine ⟨Z,?_⟩
   refine zsa 12 ?_
   refine E5 Y ?_
   refine znk ?_
   refine d8 ⟨.inr Z,_,Z,Z,?_⟩
   refine zgo ?_
   refine a7 Z (d6 G 21 Z Z Z Z Z ?_)
   refine zgo ?_
   refine a7 Z (d3 25 Z Z Z (ArgsOK.of Z) (w6 _ x (by first | assumption | exact hsm (by assumption)) hx) Z Z ?_)
   refine zgo ?_
   refine a7 Z (b5 Z Z (q9 G Z Z Z) ?_)
   refine zcd (λh320=>?_) (λh320=>?_)
   ·exact b0L
   try rw [a2r J] at hO
   have hrs:=h320
   refine zgo ?_
   refine a7 Z (b5 Z Z (i7 Z (ArgsOK.of Z) (t8 x ⟨s,_⟩ hx ⟨by show s.size<=_;omega,by first | exact P7 (by decide) | exact N5 J | exact N5 (Int.ofNat_le.1 hrs)⟩) Z) ?_)
   refine zgo ?_
   refine d8 (p4 Z Z Z Z (b3 (c7 Z ?_) (b3 (c7 Z ?_) (b3 (c7 Z ?_) (b3 (A1 Z ?_) (b3 (j4 ?_) (b3 (j4 ?_) (b3 (j4 ?_) (b3 (j4 ?_) d9)))))))))
   all_goals (first | (rw [hO];done) | (rw [hO];rfl))
  have hO:=O5 h1 h2 h3 (c8r hw (mt a8m.mpr h106))
  refine zgo ?_
  refine d8 ⟨.inr Z,_,Z,Z,?_⟩
  exact c5a
 have hO:=O5 h1 h2 h3 (ct3 (m:=m) (s:=s) (by show 4<=(j7 s 32).length;omega))
 refine zgo ?_
 refine d8 ⟨.inr Z,_,Z,Z,?_⟩
 refine zgo ?_
 refine a7 Z (d6 G 12 Z Z Z Z Z ?_)
 refine zgo ?_
 refine a7 Z (d3 16 Z Z Z (ArgsOK.of Z) (w6 _ x (by first | assumption | exact hsm (by assumption)) hx) Z Z ?_)
 refine zgo ?_
 refine a7 Z (b5 Z Z (q9 G Z Z Z) ?_)
 refine zcd (λh322=>?_) (λh322=>?_)
 ·exact b0L
 try rw [a2r J] at hO
 have hrs:=h322
 refine zgo ?_
 refine a7 Z (b5 Z Z (i7 Z (ArgsOK.of Z) (t8 x ⟨s,_⟩ hx ⟨by show s.size<=_;omega,by first | exact P7 (by decide) | exact N5 J | exact N5 (Int.ofNat_le.1 hrs)⟩) Z) ?_)
 refine zgo ?_
 refine d8 (p4 Z Z Z Z (b3 (c7 Z ?_) (b3 (c7 Z ?_) (b3 (c7 Z ?_) (b3 (A1 Z ?_) (b3 (j4 ?_) (b3 (j4 ?_) (b3 (j4 ?_) (b3 (j4 ?_) d9)))))))))
 all_goals (first | (rw [hO];done) | (rw [hO];rfl))
end Go.Proofs.YtdhckhjphmjniaaGreatDoor
