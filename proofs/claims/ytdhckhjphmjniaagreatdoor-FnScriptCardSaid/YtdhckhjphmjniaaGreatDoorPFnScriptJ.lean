/- Texts merged into one: Q8. -/
import Derived.Test.YtdhckhjphmjniaaGreatDoorPFnScriptI
set_option maxHeartbeats 4000000
set_option linter.unusedSimpArgs false
set_option linter.unusedVariables false
set_option maxRecDepth 20000
namespace Go.Proofs.YtdhckhjphmjniaaGreatDoor
open Go Go.Rf
theorem B6 (m:Mach) (x:Lg) (s:ByteArray) (hs:SmallM m) (hx:x.d.size+x.p.size<=1048576) (hz:s.size<=1048576):Ctr Tryz.prog 15 [.agg [.lst 2 (m.rs.map q9),.lst 1 (m.en.map m8),.lst 1 (m.ra.map m8),.nst none 4 (m.cp.map (r6 104 76)),.v (.string x.d),.v (.string x.p),.v (.int .i64 x.n)],.v (.string s)] (.shp false [some 7,none] [.fr 132 2 ((exC m x s).1.rs.map q9),.fr 4 1 ((exC m x s).1.en.map m8),.fr 4 1 ((exC m x s).1.ra.map m8),.ne 74 4 ((exC m x s).1.cp.map (r6 104 76)),.v (.string (exC m x s).2.1.d),.v (.string (exC m x s).2.1.p),.v (.int .i64 (exC m x s).2.1.n),.v (.string (exC m x s).2.2)]):=by
 refine Ctr.of (n:=51) G Tryz.func15 Z Y Z Z Z (λw0=>?_)
 refine n8 0 Z (λ_=>Z) (λu0=>?_)
 refine zgo ?_
 refine a7 Z (B3 1 Z Z Z Z Z Z Z (a7 Z (d7 G 2 Z Z Z Z Z ?_)))
 refine zgo ?_
 refine a7 Z (d4 6 Z Z Z (ArgsOK.of Z) (w3 _ x (by first | assumption | exact hsm (by assumption)) hx) Z Z (a7 Z (d7 G 7 Z Z Z Z Z ?_)))
 refine zcl (Y8 m x hs hx) ?_
 refine zcd (λh1=>?_) (λh1=>?_)
 ·have hO:=c2I (s:=s) h1
  exact b18
 obtain ⟨hM,hLg⟩:=a8h h1
 have hG:=(maF hM).g
 have hra:=hG.ra
 refine zgo ?_
 refine a7 Z (b5 Z Z (j4 Z (ArgsOK.of Z) (a1u ⟨s,⟨#[]⟩⟩ ⟨by show s.size<=_;omega,P7 (by decide)⟩) Z) ?_)
 refine zcd (λh2=>?_) (λh2=>?_)
 ·have hO:=c2J h1 h2
  exact b18
 refine zcd (λh3=>?_) (λh3=>?_)
 ·have hO:=c2K h1 h2 h3
  exact b18
 refine zgo ?_
 refine a7 Z (a1W (n:=74) G Z Z Z Tryz.func48 Z Y Z Z Z Z ?_)
 intro b hen hpin
 have hwn:1<=(i6 s 32).length/\(i6 s 32).length<=s.size+1:=F7
 have hml:((i6 s 32).map a0M).length=(i6 s 32).length:=List.length_map _
 refine zgo ?_
 refine a7 Z (B3 8 Z Z Z Z Z Z Z (a7 Z (d7 G 9 Z Z Z Z Z ?_)))
 refine zgo ?_
 refine a7 Z (d4 10 Z Z Z (ArgsOK.of Z) (J0 s 32 hz) Z Z ?_)
 refine zgo ?_
 refine a7 Z (m5 G 11 Z Z Z Z Z Z Z Z ?_)
 refine zgo ?_
 refine i7 [1,2,4,6] [0,1,2,3,4,5,6,7,8,9] (λ(i:Nat)=>[(7,.own 10),(8,.v (.int .i64 ((i:Int)+1)))]) (λ(i:Nat)=>[(10,some (.row 3 1 ((E3 s i).map Rf.r7)))]) (λ(i:Nat)=>i<=(i6 s 32).length - 1/\∀j,j < i→nmK (wrd s (j+1))=true) (λ(i:Nat)=>(i6 s 32).length - 1 - i) 0 Z Z ?_ ?_ ?_ ?_
 ·exact T7
 ·exact a0O
 ·exact a07
 intro i hinv
 have hnl:=@a4t s i
 simp only [List.cons_append,List.nil_append]
 refine zcd (λh101=>?_) (λh101=>?_)
 ·refine zgo ?_
  refine a7 Z ?_
  first | refine b5 Z Z (c7 G Z Z Z Z Z J (by rw [List.length_map];omega)) ?_ | refine b5 Z Z (c7 G Z Z Z Z Z J J) ?_
  refine a7 Z ?_
  first | refine b5 Z Z (f8 G Z Z Z Z Z (b7v J) Z) ?_ | refine b5 Z Z (f8 G Z Z Z Z Z (A1 J J) Z) ?_
  refine zcl (a9p (wrd s (i+1)) (by have:=@b9y s (i+1);omega)) ?_
  refine zcd (λh102=>?_) (λh102=>?_)
  ·refine zgo ?_
   refine d8 ⟨.inr Z,_,Z,Z,?_⟩
   have hO:=P8 h1 h2 h3 (c52 (b9z h102 (by show i < (i6 s 32).length - 1;omega)))
   exact c4K
  refine zgo ?_
  refine a7 Z (m5 G 12 Z Z Z Z Z Z Z Z (a7 Z (l1 G (by rw [hpin];decide) Z Z Z Z Z Z Z Z Z (by first | (simp only [List.length_map,List.length_cons,List.length_nil];omega) | (simp;omega)) Z Z ?_)))
  exact c3J
 obtain rfl:i=(i6 s 32).length - 1:=J
 have hNK:G5 s=true:=b9A hinv.2 (Nat.le_refl _)
 have hnl:=@a4t s ((i6 s 32).length - 1)
 refine zcd (λh103=>?_) (λh103=>?_)
 ·have hw:wn s=1:=(by show (i6 s 32).length=1;omega)
  have hs0:=c5X hw
  refine zgo ?_
  refine a7 Z (a1W (n:=48) G Z Z Z Tryz.func83 Z Y Z Z Z Z ?_)
  intro b hen hpin
  refine zgo ?_
  refine a7 Z (B3 12 Z Z Z Z Z Z Z (a7 Z (d7 G 13 Z Z Z Z Z ?_)))
  refine zgo ?_
  refine a7 Z (b5 Z Z (w7 Z Z Z Z) ?_)
  refine zcd (λh201=>?_) (λh201=>?_)
  ·have k201:m9 (wrd s 0)=0:=(by rw [← hs0];exact b1P.mp h201)
   have hE:H5 m s=P9 m ⟨2,0,0,0⟩:=c7V hw hNK k201
   have hir:=@a4u m ⟨2,0,0,0⟩
   have hsm:=@W3 m ⟨2,0,0,0⟩
   have hiq:=@a6f m ⟨2,0,0,0⟩
   have cS:=A0 m 2 0 0 0 hs
   unfold P9 at hE
   generalize smT m ⟨2,0,0,0⟩=sr at cS hE hir hsm hiq
   obtain ⟨m1,ir,ok⟩:=sr
   dsimp only at cS hE hir hsm hiq
   refine zgo ?_
   refine a7 Z (a1W (n:=31) G Z Z Z Tryz.func85 Z Y Z Z Z Z ?_)
   intro b hen hpin
   refine zgo ?_
   refine a7 Z (B3 14 Z Z Z Z Z Z Z (a7 Z (B3 15 Z Z Z Z Z Z Z (a7 Z (d7 G 16 Z Z Z Z Z ?_)))))
   refine zgo ?_
   refine a7 Z (d4 20 Z Z Z (ArgsOK.of Z) cS Z Z ?_)
   refine zgo ?_
   refine a7 Z (d7 G 21 Z Z Z Z Z ?_)
   refine zcd (λh301=>?_) (λh301=>?_)
   ·refine zgo ?_
    refine d8 ⟨.inr Z,_,Z,Z,?_⟩
    have hE2:H5 m s=(m,qmB):=hE.trans (if_neg (by simp [h301]))
    have hO:=P8 h1 h2 h3 hE2
    refine zgo ?_
    refine d8 ⟨.inr Z,_,Z,Z,?_⟩
    refine zgo ?_
    refine d8 ⟨.inr Z,_,Z,Z,?_⟩
    refine zgo ?_
    refine a7 Z (d7 G 22 Z Z Z Z Z ?_)
    refine zgo ?_
    refine a7 Z (d4 26 Z Z Z (ArgsOK.of Z) (w3 _ x (by first | assumption | exact hsm (by assumption)) hx) Z Z ?_)
    exact b4x
   refine zgo ?_
   refine a7 Z (d7 G 22 Z Z Z Z Z ?_)
   refine zwf ?_
   refine zgo ?_
   refine d8 ⟨.inr Z,_,Z,Z,?_⟩
   have hE2:H5 m s=(m1,if ir=-1 then okB else s5 ir):=hE.trans (if_pos h301)
   first | rw [if_neg ((hiq h301).mpr J)] at hE2 | rw [if_pos (Decidable.byContradiction λg=>absurd ((hiq h301).mp g) J)] at hE2
   have hO:=P8 h1 h2 h3 hE2
   refine zgo ?_
   refine d8 ⟨.inr Z,_,Z,Z,?_⟩
   refine zgo ?_
   refine d8 ⟨.inr Z,_,Z,Z,?_⟩
   refine zgo ?_
   refine a7 Z (d7 G 23 Z Z Z Z Z ?_)
   refine zgo ?_
   refine a7 Z (d4 27 Z Z Z (ArgsOK.of Z) (w3 _ x (by first | assumption | exact hsm (by assumption)) hx) Z Z ?_)
   refine zgo ?_
   refine a7 Z (b5 Z Z (r5 G Z Z Z) ?_)
   refine zcd (λh303=>?_) (λh303=>?_)
   ·exact b0D
   try rw [a2l J] at hO
   have hrs:=h303
   refine zgo ?_
   refine a7 Z (b5 Z Z (j4 Z (ArgsOK.of Z) (u6 x ⟨s,_⟩ hx ⟨by show s.size<=_;omega,by first | exact P7 (by decide) | exact N7 J | exact N7 (Int.ofNat_le.1 hrs)⟩) Z) ?_)
   refine zgo ?_
   refine d8 (o8 Z Z Z Z (b3 (c8 Z ?_) (b3 (c8 Z ?_) (b3 (c8 Z ?_) (b3 (A8 Z ?_) (b3 (j8 ?_) (b3 (j8 ?_) (b3 (j8 ?_) (b3 (j8 ?_) d9)))))))))
   all_goals (first | (rw [hO];done) | (rw [hO];rfl))
  have k201:¬ m9 (wrd s 0)=0:=(by rw [← hs0];exact mt b1P.mpr h201)
  refine zgo ?_
  refine a7 Z (b5 Z Z (w7 Z Z Z Z) ?_)
  refine zcd (λh202=>?_) (λh202=>?_)
  ·have k202:m9 (wrd s 0)=1:=(by rw [← hs0];exact b1Q.mp h202)
   refine zgo ?_
   refine a7 Z (m5 G 14 Z Z Z Z Z Z Z Z ?_)
   refine zgo ?_
   refine i7 [2,4] [0,1,2,3,4,5,6,7,8,9,10,11,12] (λ(i:Nat)=>[(6,.own 13),(7,.v (.int .i64 (i:Int)))]) (λ(i:Nat)=>[(13,some (.row 3 1 ((whN (λj=>m.ra.getD j default) i).map Rf.r7)))]) (λ(i:Nat)=>i<=8) (λ(i:Nat)=>8 - i) 0 Z Z ?_ ?_ ?_ ?_
   ·exact R9
   ·exact a0O
   ·exact a07
   intro i hinv
   have hwl:=@a7q (λj=>m.ra.getD j default) i
   simp only [List.cons_append,List.nil_append]
   refine zcd (λh203=>?_) (λh203=>?_)
   ·refine zgo ?_
    refine a7 Z ?_
    first | refine b5 Z Z (c7 G Z Z Z Z Z J (by simp;omega)) ?_ | refine b5 Z Z (c7 G Z Z Z Z Z J J) ?_
    refine a7 Z (b5 Z Z (f8 G Z Z Z Z Z (A1 J (by simp;omega)) Z) ?_)
    refine zcd (λh204=>?_) (λh204=>?_)
    ·refine zgo ?_
     refine a7 Z (m5 G 15 Z Z Z Z Z Z Z Z (a7 Z (l1 G (by rw [hpin];decide) Z Z Z Z Z Z Z Z Z (by first | (simp only [List.length_map,List.length_cons,List.length_nil];omega) | (simp;omega)) Z Z ?_)))
     exact c18
    exact c18
   obtain rfl:i=8:=J
   refine zgn ?_
   refine s9 (l2 5 [0,1,2,3,4,5,6,7,8,9,10,11,13] mixed Y Z Z (λr0=>?_) (λ_ h=>h))
   refine zsa 0 ?_
   refine zsa 1 ?_
   refine b7 (rs:=[2]) Y Z (AllB.cons ?_ AllB.nil)
   refine g9 [0,1,2,3,4,5,6,7,8,9,10,11,13] Z Z (b5 Z Z (j4 Z (ArgsOK.of Z) (Y7 (raN m) (by have:=@a7q (λj=>m.ra.getD j default) 8;unfold raN;omega) (b9q J)) Z) (b4 ⟨Z,?_⟩))
   refine b7 (rs:=[3]) Y Z (AllB.cons ?_ AllB.nil)
   refine g9 [0,1,2,3,4,5,6,7,8,9,10,11,13] Z Z ?_
   refine zgo ?_
   refine ⟨Z,?_⟩
   refine zsa 4 ?_
   refine C3 Y ?_
   refine znk ?_
   refine d8 ⟨.inr Z,_,Z,Z,?_⟩
   have hO:=P8 h1 h2 h3 (c7W hw hNK k202)
   refine zgo ?_
   refine d8 ⟨.inr Z,_,Z,Z,?_⟩
   refine zgo ?_
   refine a7 Z (d7 G 15 Z Z Z Z Z ?_)
   refine zgo ?_
   refine a7 Z (d4 19 Z Z Z (ArgsOK.of Z) (w3 _ x (by first | assumption | exact hsm (by assumption)) hx) Z Z ?_)
   refine zgo ?_
   refine a7 Z (b5 Z Z (r5 G Z Z Z) ?_)
   refine zcd (λh304=>?_) (λh304=>?_)
   ·exact b0D
   try rw [a2l J] at hO
   have hrs:=h304
   refine zgo ?_
   refine a7 Z (b5 Z Z (j4 Z (ArgsOK.of Z) (u6 x ⟨s,_⟩ hx ⟨by show s.size<=_;omega,by first | exact P7 (by decide) | exact N7 J | exact N7 (Int.ofNat_le.1 hrs)⟩) Z) ?_)
   refine zgo ?_
   refine d8 (o8 Z Z Z Z (b3 (c8 Z ?_) (b3 (c8 Z ?_) (b3 (c8 Z ?_) (b3 (A8 Z ?_) (b3 (j8 ?_) (b3 (j8 ?_) (b3 (j8 ?_) (b3 (j8 ?_) d9)))))))))
   all_goals (first | (rw [hO];done) | (rw [hO];rfl))
  have k202:¬ m9 (wrd s 0)=1:=(by rw [← hs0];exact mt b1Q.mpr h202)
  refine zgo ?_
  refine a7 Z (b5 Z Z (w7 Z Z Z Z) ?_)
  refine zcd (λh205=>?_) (λh205=>?_)
  ·have k205:m9 (wrd s 0)=2:=(by rw [← hs0];exact b1R.mp h205)
   refine zcl (b0M m hs hM) ?_
   refine zcd (λh206=>?_) (λh206=>?_)
   ·refine zgo ?_
    refine d8 ⟨.inr Z,_,Z,Z,?_⟩
    have hO:=P8 h1 h2 h3 (c54 hw hNK k205 h206)
    refine zgo ?_
    exact b6P
   refine zgo ?_
   refine d8 ⟨.inr Z,_,Z,Z,?_⟩
   have hO:=P8 h1 h2 h3 (c55 hw hNK k205 h206)
   refine zgo ?_
   exact b6P
  have k205:¬ m9 (wrd s 0)=2:=(by rw [← hs0];exact mt b1R.mpr h205)
  refine zgo ?_
  refine d8 ⟨.inr Z,_,Z,Z,?_⟩
  have hO:=P8 h1 h2 h3 (c7X hw k201 k202 k205)
  refine zgo ?_
  exact b6P
 refine zcd (λh104=>?_) (λh104=>?_)
 ·have hw:wn s=2:=(by show (i6 s 32).length=2;omega)
  refine s9 (l2 12 [0,1,2,3,4,5,6,7,9,10] mixed Y Z Z (λr0=>?_) (λ_ h=>h))
  refine zsa 0 ?_
  refine zsa 1 ?_
  first | refine d5 2 Z Y Y Z Z Z Z (c7 G Z Z Z Z Z J (by rw [List.length_map];omega)) ?_ | refine d5 2 Z Y Y Z Z Z Z (c7 G Z Z Z Z Z J J) ?_
  first | refine d5 3 Z Y Y Z Z Z Z (f8 G Z Z Z Z Z (b7v J) Z) ?_ | refine d5 3 Z Y Y Z Z Z Z (f8 G Z Z Z Z Z (A1 J J) Z) ?_
  refine zsa 4 ?_
  first | refine d5 5 Z Y Y Z Z Z Z (c7 G Z Z Z Z Z J (by rw [List.length_map];omega)) ?_ | refine d5 5 Z Y Y Z Z Z Z (c7 G Z Z Z Z Z J J) ?_
  first | refine d5 6 Z Y Y Z Z Z Z (f8 G Z Z Z Z Z (b7v J) Z) ?_ | refine d5 6 Z Y Y Z Z Z Z (f8 G Z Z Z Z Z (A1 J J) Z) ?_
  refine b7 (rs:=[7]) Y Z (AllB.cons ?_ AllB.nil)
  refine g9 [0,1,2,3,4,5,6,7,9,10] Z Z (a1W (n:=55) G Z Z Z Tryz.func84 Z Y Z Z Z Z ?_)
  intro b hen hpin
  refine zgo ?_
  refine a7 Z (B3 12 Z Z Z Z Z Z Z (a7 Z (d7 G 13 Z Z Z Z Z ?_)))
  refine zgo ?_
  refine a7 Z (b5 Z Z (w7 Z Z Z Z) ?_)
  refine zcd (λh201=>?_) (λh201=>?_)
  ·have k201:m9 (wrd s 0)=3:=b1S.mp h201
   have hE:H5 m s=P9 m ⟨1,(E3 s ((i6 s 32).length - 1)).getD ((0:Int)).toNat default,0,0⟩:=c7Y hw hNK k201
   have hir:=@a4u m ⟨1,(E3 s ((i6 s 32).length - 1)).getD ((0:Int)).toNat default,0,0⟩
   have hsm:=@W3 m ⟨1,(E3 s ((i6 s 32).length - 1)).getD ((0:Int)).toNat default,0,0⟩
   have hiq:=@a6f m ⟨1,(E3 s ((i6 s 32).length - 1)).getD ((0:Int)).toNat default,0,0⟩
   have cS:=A0 m 1 ((E3 s ((i6 s 32).length - 1)).getD ((0:Int)).toNat default) 0 0 hs
   unfold P9 at hE
   generalize smT m ⟨1,(E3 s ((i6 s 32).length - 1)).getD ((0:Int)).toNat default,0,0⟩=sr at cS hE hir hsm hiq
   exact c0r
  have k201:¬ m9 (wrd s 0)=3:=mt b1S.mpr h201
  refine zgo ?_
  refine a7 Z (b5 Z Z (w7 Z Z Z Z) ?_)
  refine zcd (λh202=>?_) (λh202=>?_)
  ·have k202:m9 (wrd s 0)=4:=b1T.mp h202
   have hE:H5 m s=P9 m ⟨6,(E3 s ((i6 s 32).length - 1)).getD ((0:Int)).toNat default,0,1⟩:=c7Z hw hNK k202
   have hir:=@a4u m ⟨6,(E3 s ((i6 s 32).length - 1)).getD ((0:Int)).toNat default,0,1⟩
   have hsm:=@W3 m ⟨6,(E3 s ((i6 s 32).length - 1)).getD ((0:Int)).toNat default,0,1⟩
   have hiq:=@a6f m ⟨6,(E3 s ((i6 s 32).length - 1)).getD ((0:Int)).toNat default,0,1⟩
   have cS:=A0 m 6 ((E3 s ((i6 s 32).length - 1)).getD ((0:Int)).toNat default) 0 1 hs
   unfold P9 at hE
   generalize smT m ⟨6,(E3 s ((i6 s 32).length - 1)).getD ((0:Int)).toNat default,0,1⟩=sr at cS hE hir hsm hiq
   exact c0r
  have k202:¬ m9 (wrd s 0)=4:=mt b1T.mpr h202
  refine zgo ?_
  refine a7 Z (b5 Z Z (w7 Z Z Z Z) ?_)
  refine zcd (λh203=>?_) (λh203=>?_)
  ·have k203:m9 (wrd s 0)=5:=b1U.mp h203
   have hE:H5 m s=P9 m ⟨6,(E3 s ((i6 s 32).length - 1)).getD ((0:Int)).toNat default,0,0⟩:=c70 hw hNK k203
   have hir:=@a4u m ⟨6,(E3 s ((i6 s 32).length - 1)).getD ((0:Int)).toNat default,0,0⟩
   have hsm:=@W3 m ⟨6,(E3 s ((i6 s 32).length - 1)).getD ((0:Int)).toNat default,0,0⟩
   have hiq:=@a6f m ⟨6,(E3 s ((i6 s 32).length - 1)).getD ((0:Int)).toNat default,0,0⟩
   have cS:=A0 m 6 ((E3 s ((i6 s 32).length - 1)).getD ((0:Int)).toNat default) 0 0 hs
   unfold P9 at hE
   generalize smT m ⟨6,(E3 s ((i6 s 32).length - 1)).getD ((0:Int)).toNat default,0,0⟩=sr at cS hE hir hsm hiq
   exact c0r
  have k203:¬ m9 (wrd s 0)=5:=mt b1U.mpr h203
  refine zgo ?_
  refine a7 Z (b5 Z Z (w7 Z Z Z Z) ?_)
  refine zcd (λh204=>?_) (λh204=>?_)
  ·have k204:m9 (wrd s 0)=6:=b1V.mp h204
   have hE:H5 m s=P9 m ⟨3,0,(E3 s ((i6 s 32).length - 1)).getD ((0:Int)).toNat default,0⟩:=c71 hw hNK k204
   have hir:=@a4u m ⟨3,0,(E3 s ((i6 s 32).length - 1)).getD ((0:Int)).toNat default,0⟩
   have hsm:=@W3 m ⟨3,0,(E3 s ((i6 s 32).length - 1)).getD ((0:Int)).toNat default,0⟩
   have hiq:=@a6f m ⟨3,0,(E3 s ((i6 s 32).length - 1)).getD ((0:Int)).toNat default,0⟩
   have cS:=A0 m 3 0 ((E3 s ((i6 s 32).length - 1)).getD ((0:Int)).toNat default) 0 hs
   unfold P9 at hE
   generalize smT m ⟨3,0,(E3 s ((i6 s 32).length - 1)).getD ((0:Int)).toNat default,0⟩=sr at cS hE hir hsm hiq
   exact c4G
  have k204:¬ m9 (wrd s 0)=6:=mt b1V.mpr h204
  refine zgo ?_
  refine a7 Z (b5 Z Z (w7 Z Z Z Z) ?_)
  refine zcd (λh205=>?_) (λh205=>?_)
  ·have k205:m9 (wrd s 0)=7:=b1W.mp h205
   have hE:H5 m s=P9 m ⟨4,0,(E3 s ((i6 s 32).length - 1)).getD ((0:Int)).toNat default,0⟩:=c72 hw hNK k205
   have hir:=@a4u m ⟨4,0,(E3 s ((i6 s 32).length - 1)).getD ((0:Int)).toNat default,0⟩
   have hsm:=@W3 m ⟨4,0,(E3 s ((i6 s 32).length - 1)).getD ((0:Int)).toNat default,0⟩
   have hiq:=@a6f m ⟨4,0,(E3 s ((i6 s 32).length - 1)).getD ((0:Int)).toNat default,0⟩
   have cS:=A0 m 4 0 ((E3 s ((i6 s 32).length - 1)).getD ((0:Int)).toNat default) 0 hs
   unfold P9 at hE
   generalize smT m ⟨4,0,(E3 s ((i6 s 32).length - 1)).getD ((0:Int)).toNat default,0⟩=sr at cS hE hir hsm hiq
   exact c4G
  have k205:¬ m9 (wrd s 0)=7:=mt b1W.mpr h205
  refine zgn ?_
  refine s9 (l2 8 [0,1,2,3,4,5,6,7,8,9,10,11] mixed Y Z Z (λr0=>?_) (λ_ h=>h))
  refine zsa 0 ?_
  refine zsa 1 ?_
  refine zsa 2 ?_
  refine zsa 3 ?_
  refine zsa 4 ?_
  refine b7 (rs:=[5]) Y Z (AllB.cons ?_ AllB.nil)
  refine g9 [0,1,2,3,4,5,6,7,8,9,10,11] Z Z (b5 Z Z (j4 Z (ArgsOK.of Z) (b0P m (wrd s 0) ((E3 s ((i6 s 32).length - 1)).getD ((0:Int)).toNat default) hs hM) Z) (b4 ⟨Z,?_⟩))
  refine b7 (rs:=[6]) Y Z (AllB.cons ?_ AllB.nil)
  refine g9 [0,1,2,3,4,5,6,7,8,9,10,11] Z Z ?_
  refine zgo ?_
  refine ⟨Z,?_⟩
  refine zsa 7 ?_
  refine C3 Y ?_
  refine znk ?_
  refine d8 ⟨.inr Z,_,Z,Z,?_⟩
  have hE2:H5 m s=(m,a4v m (m9 (wrd s 0)) ((E3 s ((i6 s 32).length - 1)).getD ((0:Int)).toNat default)):=c73 hw hNK k201 k202 k203 k204 k205
  have hO:=P8 h1 h2 h3 hE2
  refine b4 ⟨Z,?_⟩
  refine zsa 8 ?_
  refine zsa 9 ?_
  refine b7 (rs:=[10]) Y Z (AllB.cons ?_ AllB.nil)
  refine g9 [0,1,2,3,4,5,6,7,9,10] Z Z ?_
  refine zgo ?_
  refine ⟨Z,?_⟩
  refine zsa 11 ?_
  refine C3 Y ?_
  refine znk ?_
  exact b6P
 refine zcd (λh105=>?_) (λh105=>?_)
 ·have hw:wn s=3:=(by show (i6 s 32).length=3;omega)
  refine zgo ?_
  refine a7 Z ?_
  first | refine b5 Z Z (c7 G Z Z Z Z Z J (by rw [List.length_map];omega)) ?_ | refine b5 Z Z (c7 G Z Z Z Z Z J J) ?_
  refine a7 Z ?_
  first | refine b5 Z Z (f8 G Z Z Z Z Z (b7v J) Z) ?_ | refine b5 Z Z (f8 G Z Z Z Z Z (A1 J J) Z) ?_
  refine a7 Z (b5 Z Z (w7 Z Z Z Z) ?_)
  refine zcd (λh106=>?_) (λh106=>?_)
  ·have k106:m9 (wrd s 0)=12:=a8j.mp h106
   have hE:H5 m s=P9 m ⟨5,0,(E3 s ((i6 s 32).length - 1)).getD ((0:Int)).toNat default,(E3 s ((i6 s 32).length - 1)).getD ((1:Int)).toNat default⟩:=c56 hw hNK k106
   have hir:=@a4u m ⟨5,0,(E3 s ((i6 s 32).length - 1)).getD ((0:Int)).toNat default,(E3 s ((i6 s 32).length - 1)).getD ((1:Int)).toNat default⟩
   have hsm:=@W3 m ⟨5,0,(E3 s ((i6 s 32).length - 1)).getD ((0:Int)).toNat default,(E3 s ((i6 s 32).length - 1)).getD ((1:Int)).toNat default⟩
   have hiq:=@a6f m ⟨5,0,(E3 s ((i6 s 32).length - 1)).getD ((0:Int)).toNat default,(E3 s ((i6 s 32).length - 1)).getD ((1:Int)).toNat default⟩
   have cS:=A0 m 5 0 ((E3 s ((i6 s 32).length - 1)).getD ((0:Int)).toNat default) ((E3 s ((i6 s 32).length - 1)).getD ((1:Int)).toNat default) hs
   unfold P9 at hE
   generalize smT m ⟨5,0,(E3 s ((i6 s 32).length - 1)).getD ((0:Int)).toNat default,(E3 s ((i6 s 32).length - 1)).getD ((1:Int)).toNat default⟩=sr at cS hE hir hsm hiq
   obtain ⟨m1,ir,ok⟩:=sr
   dsimp only at cS hE hir hsm hiq
   refine s9 (l2 13 [0,1,2,3,4,5,6,7,9,10] mixed Y Z Z (λr0=>?_) (λ_ h=>h))
   refine zsa 0 ?_
   refine zsa 1 ?_
   first | refine d5 2 Z Y Y Z Z Z Z (c7 G Z Z Z Z Z J (by rw [List.length_map];omega)) ?_ | refine d5 2 Z Y Y Z Z Z Z (c7 G Z Z Z Z Z J J) ?_
   first | refine d5 3 Z Y Y Z Z Z Z (f8 G Z Z Z Z Z (b7v J) Z) ?_ | refine d5 3 Z Y Y Z Z Z Z (f8 G Z Z Z Z Z (A1 J J) Z) ?_
   refine zsa 4 ?_
   first | refine d5 5 Z Y Y Z Z Z Z (c7 G Z Z Z Z Z J (by rw [List.length_map];omega)) ?_ | refine d5 5 Z Y Y Z Z Z Z (c7 G Z Z Z Z Z J J) ?_
   first | refine d5 6 Z Y Y Z Z Z Z (f8 G Z Z Z Z Z (b7v J) Z) ?_ | refine d5 6 Z Y Y Z Z Z Z (f8 G Z Z Z Z Z (A1 J J) Z) ?_
   refine zsa 7 ?_
   refine b7 (rs:=[8]) Y Z (AllB.cons ?_ AllB.nil)
   refine g9 [0,1,2,3,4,5,6,7,9,10] Z Z (a1W (n:=31) G Z Z Z Tryz.func85 Z Y Z Z Z Z ?_)
   intro b hen hpin
   refine zgo ?_
   refine a7 Z (B3 12 Z Z Z Z Z Z Z (a7 Z (B3 13 Z Z Z Z Z Z Z (a7 Z (d7 G 14 Z Z Z Z Z ?_)))))
   refine zgo ?_
   refine a7 Z (d4 18 Z Z Z (ArgsOK.of Z) cS Z Z ?_)
   refine zgo ?_
   refine a7 Z (d7 G 19 Z Z Z Z Z ?_)
   refine zcd (λh301=>?_) (λh301=>?_)
   ·refine zgo ?_
    refine d8 ⟨.inr Z,_,Z,Z,?_⟩
    have hE2:H5 m s=(m,qmB):=hE.trans (if_neg (by simp [h301]))
    have hO:=P8 h1 h2 h3 hE2
    refine b4 ⟨Z,?_⟩
    refine zsa 9 ?_
    refine zsa 10 ?_
    refine b7 (rs:=[11]) Y Z (AllB.cons ?_ AllB.nil)
    refine g9 [0,1,2,3,4,5,6,7,9,10] Z Z ?_
    refine zgo ?_
    refine ⟨Z,?_⟩
    refine zsa 12 ?_
    refine C3 Y ?_
    refine znk ?_
    refine d8 ⟨.inr Z,_,Z,Z,?_⟩
    refine zgo ?_
    refine a7 Z (d7 G 20 Z Z Z Z Z ?_)
    refine zgo ?_
    refine a7 Z (d4 24 Z Z Z (ArgsOK.of Z) (w3 _ x (by first | assumption | exact hsm (by assumption)) hx) Z Z ?_)
    exact b4x
   refine zgo ?_
   refine a7 Z (d7 G 20 Z Z Z Z Z ?_)
   refine zwf ?_
   refine zgo ?_
   refine d8 ⟨.inr Z,_,Z,Z,?_⟩
   have hE2:H5 m s=(m1,if ir=-1 then okB else s5 ir):=hE.trans (if_pos h301)
   first | rw [if_neg ((hiq h301).mpr J)] at hE2 | rw [if_pos (Decidable.byContradiction λg=>absurd ((hiq h301).mp g) J)] at hE2
   have hO:=P8 h1 h2 h3 hE2
   refine b4 ⟨Z,?_⟩
   refine zsa 9 ?_
   refine zsa 10 ?_
   refine b7 (rs:=[11]) Y Z (AllB.cons ?_ AllB.nil)
   refine g9 [0,1,2,3,4,5,6,7,9,10] Z Z ?_
   refine zgo ?_
   refine ⟨Z,?_⟩
   refine zsa 12 ?_
   refine C3 Y ?_
   refine znk ?_
   refine d8 ⟨.inr Z,_,Z,Z,?_⟩
   refine zgo ?_
   refine a7 Z (d7 G 21 Z Z Z Z Z ?_)
   refine zgo ?_
   refine a7 Z (d4 25 Z Z Z (ArgsOK.of Z) (w3 _ x (by first | assumption | exact hsm (by assumption)) hx) Z Z ?_)
   refine zgo ?_
   refine a7 Z (b5 Z Z (r5 G Z Z Z) ?_)
   refine zcd (λh320=>?_) (λh320=>?_)
   ·exact b0D
   try rw [a2l J] at hO
   have hrs:=h320
   refine zgo ?_
   refine a7 Z (b5 Z Z (j4 Z (ArgsOK.of Z) (u6 x ⟨s,_⟩ hx ⟨by show s.size<=_;omega,by first | exact P7 (by decide) | exact N7 J | exact N7 (Int.ofNat_le.1 hrs)⟩) Z) ?_)
   refine zgo ?_
   refine d8 (o8 Z Z Z Z (b3 (c8 Z ?_) (b3 (c8 Z ?_) (b3 (c8 Z ?_) (b3 (A8 Z ?_) (b3 (j8 ?_) (b3 (j8 ?_) (b3 (j8 ?_) (b3 (j8 ?_) d9)))))))))
   all_goals (first | (rw [hO];done) | (rw [hO];rfl))
  have hO:=P8 h1 h2 h3 (c74 hw (mt a8j.mpr h106))
  refine zgo ?_
  refine d8 ⟨.inr Z,_,Z,Z,?_⟩
  exact c4K
 have hO:=P8 h1 h2 h3 (ct3 (m:=m) (s:=s) (by show 4<=(i6 s 32).length;omega))
 refine zgo ?_
 refine d8 ⟨.inr Z,_,Z,Z,?_⟩
 refine zgo ?_
 refine a7 Z (d7 G 12 Z Z Z Z Z ?_)
 refine zgo ?_
 refine a7 Z (d4 16 Z Z Z (ArgsOK.of Z) (w3 _ x (by first | assumption | exact hsm (by assumption)) hx) Z Z ?_)
 refine zgo ?_
 refine a7 Z (b5 Z Z (r5 G Z Z Z) ?_)
 refine zcd (λh322=>?_) (λh322=>?_)
 ·exact b0D
 try rw [a2l J] at hO
 have hrs:=h322
 refine zgo ?_
 refine a7 Z (b5 Z Z (j4 Z (ArgsOK.of Z) (u6 x ⟨s,_⟩ hx ⟨by show s.size<=_;omega,by first | exact P7 (by decide) | exact N7 J | exact N7 (Int.ofNat_le.1 hrs)⟩) Z) ?_)
 refine zgo ?_
 refine d8 (o8 Z Z Z Z (b3 (c8 Z ?_) (b3 (c8 Z ?_) (b3 (c8 Z ?_) (b3 (A8 Z ?_) (b3 (j8 ?_) (b3 (j8 ?_) (b3 (j8 ?_) (b3 (j8 ?_) d9)))))))))
 all_goals (first | (rw [hO];done) | (rw [hO];rfl))
end Go.Proofs.YtdhckhjphmjniaaGreatDoor
