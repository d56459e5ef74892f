/- Texts merged into one: Q8. -/
import Derived.Test.YtpfhomblkgmkkaaGreatDoorPFnExactReplayLogH
set_option maxHeartbeats 4000000
set_option linter.unusedSimpArgs false
set_option linter.unusedVariables false
set_option maxRecDepth 20000
namespace Go.Proofs.YtpfhomblkgmkkaaGreatDoor
open Go Go.Rf
theorem a2Y (m:Mach) (x:Lg) (s:ByteArray) (hs:SmallM m) (hx:x.d.size+x.p.size≤1048576) (hz:s.size≤1048576):Ctr Tryz.prog 7 [.agg [.lst 2 (m.rs.map p8),.lst 1 (m.en.map r3),.lst 1 (m.ra.map r3),.nst none 4 (m.cp.map (s6 169 182)),.v (.string x.d),.v (.string x.p),.v (.int .i64 x.n)],.v (.string s)] (.shp false [some 7,none] [.fr 83 2 ((exC m x s).1.rs.map p8),.fr 4 1 ((exC m x s).1.en.map r3),.fr 4 1 ((exC m x s).1.ra.map r3),.ne 135 4 ((exC m x s).1.cp.map (s6 169 182)),.v (.string (exC m x s).2.1.d),.v (.string (exC m x s).2.1.p),.v (.int .i64 (exC m x s).2.1.n),.v (.string (exC m x s).2.2)]):=by
 refine Ctr.of (n:=51) G Tryz.func7 rfl (by kernel_rfl) rfl rfl rfl (fun w0=>?_)
 refine o7 0 rfl (fun _=>rfl) (fun u0=>?_)
 refine zgo ?_
 refine a8 rfl ?_
 refine B0 1 rfl rfl rfl rfl rfl rfl rfl ?_
 refine a8 rfl ?_
 refine d8 G 2 rfl rfl rfl rfl rfl ?_
 refine zgo ?_
 refine a8 rfl ?_
 refine d7 6 rfl rfl rfl (ArgsOK.of rfl) (o8 _ x (by first | assumption | exact hsm (by assumption)) hx) rfl rfl ?_
 refine a8 rfl ?_
 refine d8 G 7 rfl rfl rfl rfl rfl ?_
 refine zcl (a9R m x hs hx) ?_
 refine zcd (fun h1=>?_) (fun h1=>?_)
 ·have hO:=c0J (s:=s) h1
  refine zgo ?_
  refine c6 (d9 rfl rfl rfl rfl (a7 (b7 rfl ?_) (a7 (b7 rfl ?_) (a7 (b7 rfl ?_) (a7 (n7 rfl ?_) (a7 (c1 ?_) (a7 (c1 ?_) (a7 (c1 ?_) (a7 (c1 ?_) b9)))))))))
  all_goals (first | (rw [hO];done) | (rw [hO];rfl))
 obtain ⟨hM,hLg⟩:=b77 h1
 have hG:=(maF hM).g
 have hra:=hG.ra
 refine zgo ?_
 refine a8 rfl ?_
 refine b6 rfl rfl (f6 rfl (ArgsOK.of rfl) (a1i ⟨s,⟨#[]⟩⟩ ⟨by show s.size≤_;omega,j5 (by decide)⟩) rfl) ?_
 refine zcd (fun h2=>?_) (fun h2=>?_)
 ·have hO:=c0K h1 h2
  refine zgo ?_
  refine c6 (d9 rfl rfl rfl rfl (a7 (b7 rfl ?_) (a7 (b7 rfl ?_) (a7 (b7 rfl ?_) (a7 (n7 rfl ?_) (a7 (c1 ?_) (a7 (c1 ?_) (a7 (c1 ?_) (a7 (c1 ?_) b9)))))))))
  all_goals (first | (rw [hO];done) | (rw [hO];rfl))
 refine zcd (fun h3=>?_) (fun h3=>?_)
 ·have hO:=c0L h1 h2 h3
  refine zgo ?_
  refine c6 (d9 rfl rfl rfl rfl (a7 (b7 rfl ?_) (a7 (b7 rfl ?_) (a7 (b7 rfl ?_) (a7 (n7 rfl ?_) (a7 (c1 ?_) (a7 (c1 ?_) (a7 (c1 ?_) (a7 (c1 ?_) b9)))))))))
  all_goals (first | (rw [hO];done) | (rw [hO];rfl))
 refine zgo ?_
 refine a8 rfl ?_
 refine U8 (n:=74) G rfl rfl rfl Tryz.func29 rfl (by kernel_rfl) rfl rfl rfl rfl ?_
 intro b hen hpin
 have hwn:1≤(j2 s 32).length∧(j2 s 32).length≤s.size+1:=R5
 have hml:((j2 s 32).map a6N).length=(j2 s 32).length:=List.length_map _
 refine zgo ?_
 refine a8 rfl ?_
 refine B0 8 rfl rfl rfl rfl rfl rfl rfl ?_
 refine a8 rfl ?_
 refine d8 G 9 rfl rfl rfl rfl rfl ?_
 refine zgo ?_
 refine a8 rfl ?_
 refine d7 10 rfl rfl rfl (ArgsOK.of rfl) (V9 s 32 hz) rfl rfl ?_
 refine zgo ?_
 refine a8 rfl ?_
 refine s2 G 11 rfl rfl rfl rfl rfl rfl rfl rfl ?_
 refine zgo ?_
 refine i7 [1,2,4,6] [0,1,2,3,4,5,6,7,8,9] (fun (i:Nat)=>[(7,.own 10),(8,.v (.int .i64 ((i:Int)+1)))]) (fun (i:Nat)=>[(10,some (.row 3 1 ((C7 s i).map Rf.r9)))]) (fun (i:Nat)=>i≤(j2 s 32).length - 1∧∀ j,j < i→nmK (wrd s (j+1))=true) (fun (i:Nat)=>(j2 s 32).length - 1 - i) 0 rfl rfl ?_ ?_ ?_ ?_
 ·exact ⟨Nat.zero_le _,fun j hj=>by omega⟩
 ·exact ⟨⟨_,rfl,by rfl⟩,rfl,⟨⟨_,rfl,by rfl⟩,rfl,trivial⟩⟩
 ·exact ⟨⟨_,rfl,by rfl⟩,rfl,rfl,trivial⟩
 intro i hinv
 have hnl:=@a3t s i
 simp only [List.cons_append,List.nil_append]
 refine zcd (fun h101=>?_) (fun h101=>?_)
 ·refine zgo ?_
  refine a8 rfl ?_
  first | refine b6 rfl rfl (b8 G rfl rfl rfl rfl rfl (by omega) (by rw [List.length_map];omega)) ?_ | refine b6 rfl rfl (b8 G rfl rfl rfl rfl rfl (by omega) (by omega)) ?_
  refine a8 rfl ?_
  first | refine b6 rfl rfl (j6 G rfl rfl rfl rfl rfl (b6i (by omega)) rfl) ?_ | refine b6 rfl rfl (j6 G rfl rfl rfl rfl rfl (B4 (by omega) (by omega)) rfl) ?_
  refine zcl (a79 (wrd s (i+1)) (by have:=@b8l s (i+1);omega)) ?_
  refine zcd (fun h102=>?_) (fun h102=>?_)
  ·refine zgo ?_
   refine c6 ⟨.inr rfl,_,rfl,rfl,?_⟩
   have hO:=F2 h1 h2 h3 (c2o (b8m h102 (by show i < (j2 s 32).length - 1;omega)))
   refine zgo ?_
   refine a8 rfl ?_
   refine d8 G 12 rfl rfl rfl rfl rfl ?_
   refine zgo ?_
   refine a8 rfl ?_
   refine d7 16 rfl rfl rfl (ArgsOK.of rfl) (o8 _ x (by first | assumption | exact hsm (by assumption)) hx) rfl rfl ?_
   refine zgo ?_
   refine a8 rfl ?_
   refine b6 rfl rfl (j9 G rfl rfl rfl) ?_
   refine zcd (fun h103=>?_) (fun h103=>?_)
   ·try rw [A8 (by omega)] at hO
    refine zgo ?_
    refine a8 rfl ?_
    refine b6 rfl rfl (f6 rfl (ArgsOK.of rfl) (d5 x ⟨s,_⟩ hx ⟨by show s.size≤_;omega,by first | exact j5 (by decide) | exact i6 (by omega) | exact i6 (Int.ofNat_le.1 hrs)⟩) rfl) ?_
    refine zgo ?_
    refine c6 (d9 rfl rfl rfl rfl (a7 (b7 rfl ?_) (a7 (b7 rfl ?_) (a7 (b7 rfl ?_) (a7 (n7 rfl ?_) (a7 (c1 ?_) (a7 (c1 ?_) (a7 (c1 ?_) (a7 (c1 ?_) b9)))))))))
    all_goals (first | (rw [hO];done) | (rw [hO];rfl))
   try rw [A9 (by omega)] at hO
   have hrs:=h103
   refine zgo ?_
   refine a8 rfl ?_
   refine b6 rfl rfl (f6 rfl (ArgsOK.of rfl) (d5 x ⟨s,_⟩ hx ⟨by show s.size≤_;omega,by first | exact j5 (by decide) | exact i6 (by omega) | exact i6 (Int.ofNat_le.1 hrs)⟩) rfl) ?_
   refine zgo ?_
   refine c6 (d9 rfl rfl rfl rfl (a7 (b7 rfl ?_) (a7 (b7 rfl ?_) (a7 (b7 rfl ?_) (a7 (n7 rfl ?_) (a7 (c1 ?_) (a7 (c1 ?_) (a7 (c1 ?_) (a7 (c1 ?_) b9)))))))))
   all_goals (first | (rw [hO];done) | (rw [hO];rfl))
  refine zgo ?_
  refine a8 rfl ?_
  refine s2 G 12 rfl rfl rfl rfl rfl rfl rfl rfl ?_
  refine a8 rfl ?_
  refine g9 G (by rw [hpin];decide) rfl rfl rfl rfl rfl rfl rfl rfl rfl (by first | (simp only [List.length_map,List.length_cons,List.length_nil];omega) | (simp;omega)) rfl rfl ?_
  refine zgo ?_
  refine ⟨(i+1),?_,?_,⟨⟨_,rfl,by rfl⟩,rfl,⟨⟨_,rfl,by rfl⟩,rfl,trivial⟩⟩,⟨⟨_,rfl,by (rw [a65,List.map_append];rfl)⟩,rfl,rfl,trivial⟩,rfl,rfl,rfl⟩
  ·exact ⟨by omega,i8 hinv.2 (by assumption)⟩
  omega
 obtain rfl:i=(j2 s 32).length - 1:=(by omega)
 have hNK:E3 s=true:=b8n hinv.2 (Nat.le_refl _)
 have hnl:=@a3t s ((j2 s 32).length - 1)
 refine zcd (fun h103=>?_) (fun h103=>?_)
 ·have hw:wn s=1:=(by show (j2 s 32).length=1;omega)
  have hs0:=c2i hw
  refine zgo ?_
  refine a8 rfl ?_
  refine U8 (n:=48) G rfl rfl rfl Tryz.func58 rfl (by kernel_rfl) rfl rfl rfl rfl ?_
  intro b hen hpin
  refine zgo ?_
  refine a8 rfl ?_
  refine B0 12 rfl rfl rfl rfl rfl rfl rfl ?_
  refine a8 rfl ?_
  refine d8 G 13 rfl rfl rfl rfl rfl ?_
  refine zgo ?_
  refine a8 rfl ?_
  refine b6 rfl rfl (z7 rfl rfl rfl rfl) ?_
  refine zcd (fun h201=>?_) (fun h201=>?_)
  ·have k201:m3 (wrd s 0)=0:=(by rw [← hs0];exact b0O.mp h201)
   have hE:D2 m s=N2 m ⟨2,0,0,0⟩:=c3A hw hNK k201
   have hir:=@a3u m ⟨2,0,0,0⟩
   have hsm:=@T3 m ⟨2,0,0,0⟩
   have hiq:=@a4N m ⟨2,0,0,0⟩
   have cS:=z6 m 2 0 0 0 hs
   unfold N2 at hE
   generalize smT m ⟨2,0,0,0⟩=sr at cS hE hir hsm hiq
   obtain ⟨m1,ir,ok⟩:=sr
   dsimp only at cS hE hir hsm hiq
   refine zgo ?_
   refine a8 rfl ?_
   refine U8 (n:=31) G rfl rfl rfl Tryz.func60 rfl (by kernel_rfl) rfl rfl rfl rfl ?_
   intro b hen hpin
   refine zgo ?_
   refine a8 rfl ?_
   refine B0 14 rfl rfl rfl rfl rfl rfl rfl ?_
   refine a8 rfl ?_
   refine B0 15 rfl rfl rfl rfl rfl rfl rfl ?_
   refine a8 rfl ?_
   refine d8 G 16 rfl rfl rfl rfl rfl ?_
   refine zgo ?_
   refine a8 rfl ?_
   refine d7 20 rfl rfl rfl (ArgsOK.of rfl) cS rfl rfl ?_
   refine zgo ?_
   refine a8 rfl ?_
   refine d8 G 21 rfl rfl rfl rfl rfl ?_
   refine zcd (fun h301=>?_) (fun h301=>?_)
   ·refine zgo ?_
    refine c6 ⟨.inr rfl,_,rfl,rfl,?_⟩
    have hE2:D2 m s=(m,qmB):=hE.trans (if_neg (by simp [h301]))
    have hO:=F2 h1 h2 h3 hE2
    refine zgo ?_
    refine c6 ⟨.inr rfl,_,rfl,rfl,?_⟩
    refine zgo ?_
    refine c6 ⟨.inr rfl,_,rfl,rfl,?_⟩
    refine zgo ?_
    refine a8 rfl ?_
    refine d8 G 22 rfl rfl rfl rfl rfl ?_
    refine zgo ?_
    refine a8 rfl ?_
    refine d7 26 rfl rfl rfl (ArgsOK.of rfl) (o8 _ x (by first | assumption | exact hsm (by assumption)) hx) rfl rfl ?_
    refine zgo ?_
    refine a8 rfl ?_
    refine b6 rfl rfl (j9 G rfl rfl rfl) ?_
    refine zcd (fun h302=>?_) (fun h302=>?_)
    ·try rw [A8 (by omega)] at hO
     refine zgo ?_
     refine a8 rfl ?_
     refine b6 rfl rfl (f6 rfl (ArgsOK.of rfl) (d5 x ⟨s,_⟩ hx ⟨by show s.size≤_;omega,by first | exact j5 (by decide) | exact i6 (by omega) | exact i6 (Int.ofNat_le.1 hrs)⟩) rfl) ?_
     refine zgo ?_
     refine c6 (d9 rfl rfl rfl rfl (a7 (b7 rfl ?_) (a7 (b7 rfl ?_) (a7 (b7 rfl ?_) (a7 (n7 rfl ?_) (a7 (c1 ?_) (a7 (c1 ?_) (a7 (c1 ?_) (a7 (c1 ?_) b9)))))))))
     all_goals (first | (rw [hO];done) | (rw [hO];rfl))
    try rw [A9 (by omega)] at hO
    have hrs:=h302
    refine zgo ?_
    refine a8 rfl ?_
    refine b6 rfl rfl (f6 rfl (ArgsOK.of rfl) (d5 x ⟨s,_⟩ hx ⟨by show s.size≤_;omega,by first | exact j5 (by decide) | exact i6 (by omega) | exact i6 (Int.ofNat_le.1 hrs)⟩) rfl) ?_
    refine zgo ?_
    refine c6 (d9 rfl rfl rfl rfl (a7 (b7 rfl ?_) (a7 (b7 rfl ?_) (a7 (b7 rfl ?_) (a7 (n7 rfl ?_) (a7 (c1 ?_) (a7 (c1 ?_) (a7 (c1 ?_) (a7 (c1 ?_) b9)))))))))
    all_goals (first | (rw [hO];done) | (rw [hO];rfl))
   refine zgo ?_
   refine a8 rfl ?_
   refine d8 G 22 rfl rfl rfl rfl rfl ?_
   refine zwf ?_
   refine zgo ?_
   refine c6 ⟨.inr rfl,_,rfl,rfl,?_⟩
   have hE2:D2 m s=(m1,if ir=-1 then okB else t7 ir):=hE.trans (if_pos h301)
   first | rw [if_neg ((hiq h301).mpr (by omega))] at hE2 | rw [if_pos (Decidable.byContradiction fun g=>absurd ((hiq h301).mp g) (by omega))] at hE2
   have hO:=F2 h1 h2 h3 hE2
   refine zgo ?_
   refine c6 ⟨.inr rfl,_,rfl,rfl,?_⟩
   refine zgo ?_
   refine c6 ⟨.inr rfl,_,rfl,rfl,?_⟩
   refine zgo ?_
   refine a8 rfl ?_
   refine d8 G 23 rfl rfl rfl rfl rfl ?_
   refine zgo ?_
   refine a8 rfl ?_
   refine d7 27 rfl rfl rfl (ArgsOK.of rfl) (o8 _ x (by first | assumption | exact hsm (by assumption)) hx) rfl rfl ?_
   refine zgo ?_
   refine a8 rfl ?_
   refine b6 rfl rfl (j9 G rfl rfl rfl) ?_
   refine zcd (fun h303=>?_) (fun h303=>?_)
   ·try rw [A8 (by omega)] at hO
    refine zgo ?_
    refine a8 rfl ?_
    refine b6 rfl rfl (f6 rfl (ArgsOK.of rfl) (d5 x ⟨s,_⟩ hx ⟨by show s.size≤_;omega,by first | exact j5 (by decide) | exact i6 (by omega) | exact i6 (Int.ofNat_le.1 hrs)⟩) rfl) ?_
    refine zgo ?_
    refine c6 (d9 rfl rfl rfl rfl (a7 (b7 rfl ?_) (a7 (b7 rfl ?_) (a7 (b7 rfl ?_) (a7 (n7 rfl ?_) (a7 (c1 ?_) (a7 (c1 ?_) (a7 (c1 ?_) (a7 (c1 ?_) b9)))))))))
    all_goals (first | (rw [hO];done) | (rw [hO];rfl))
   try rw [A9 (by omega)] at hO
   have hrs:=h303
   refine zgo ?_
   refine a8 rfl ?_
   refine b6 rfl rfl (f6 rfl (ArgsOK.of rfl) (d5 x ⟨s,_⟩ hx ⟨by show s.size≤_;omega,by first | exact j5 (by decide) | exact i6 (by omega) | exact i6 (Int.ofNat_le.1 hrs)⟩) rfl) ?_
   refine zgo ?_
   refine c6 (d9 rfl rfl rfl rfl (a7 (b7 rfl ?_) (a7 (b7 rfl ?_) (a7 (b7 rfl ?_) (a7 (n7 rfl ?_) (a7 (c1 ?_) (a7 (c1 ?_) (a7 (c1 ?_) (a7 (c1 ?_) b9)))))))))
   all_goals (first | (rw [hO];done) | (rw [hO];rfl))
  have k201:¬ m3 (wrd s 0)=0:=(by rw [← hs0];exact mt b0O.mpr h201)
  refine zgo ?_
  refine a8 rfl ?_
  refine b6 rfl rfl (z7 rfl rfl rfl rfl) ?_
  refine zcd (fun h202=>?_) (fun h202=>?_)
  ·have k202:m3 (wrd s 0)=1:=(by rw [← hs0];exact b0P.mp h202)
   refine zgo ?_
   refine a8 rfl ?_
   refine s2 G 14 rfl rfl rfl rfl rfl rfl rfl rfl ?_
   refine zgo ?_
   refine i7 [2,4] [0,1,2,3,4,5,6,7,8,9,10,11,12] (fun (i:Nat)=>[(6,.own 13),(7,.v (.int .i64 (i:Int)))]) (fun (i:Nat)=>[(13,some (.row 3 1 ((whN (fun j=>m.ra.getD j default) i).map Rf.r9)))]) (fun (i:Nat)=>i≤8) (fun (i:Nat)=>8 - i) 0 rfl rfl ?_ ?_ ?_ ?_
   ·exact Nat.zero_le _
   ·exact ⟨⟨_,rfl,by rfl⟩,rfl,⟨⟨_,rfl,by rfl⟩,rfl,trivial⟩⟩
   ·exact ⟨⟨_,rfl,by rfl⟩,rfl,rfl,trivial⟩
   intro i hinv
   have hwl:=@a6a (fun j=>m.ra.getD j default) i
   simp only [List.cons_append,List.nil_append]
   refine zcd (fun h203=>?_) (fun h203=>?_)
   ·refine zgo ?_
    refine a8 rfl ?_
    first | refine b6 rfl rfl (b8 G rfl rfl rfl rfl rfl (by omega) (by simp;omega)) ?_ | refine b6 rfl rfl (b8 G rfl rfl rfl rfl rfl (by omega) (by omega)) ?_
    refine a8 rfl ?_
    refine b6 rfl rfl (j6 G rfl rfl rfl rfl rfl (B4 (by omega) (by simp;omega)) rfl) ?_
    refine zcd (fun h204=>?_) (fun h204=>?_)
    ·refine zgo ?_
     refine a8 rfl ?_
     refine s2 G 15 rfl rfl rfl rfl rfl rfl rfl rfl ?_
     refine a8 rfl ?_
     refine g9 G (by rw [hpin];decide) rfl rfl rfl rfl rfl rfl rfl rfl rfl (by first | (simp only [List.length_map,List.length_cons,List.length_nil];omega) | (simp;omega)) rfl rfl ?_
     refine zgo ?_
     refine ⟨(i+1),?_,?_,⟨⟨_,rfl,by rfl⟩,rfl,⟨⟨_,rfl,by rfl⟩,rfl,trivial⟩⟩,⟨⟨_,rfl,by (first | (rw [b40 (by assumption),List.map_append];rfl) | (rw [b41 (by assumption)];done))⟩,rfl,rfl,trivial⟩,rfl,rfl,rfl⟩
     ·omega
     omega
    refine zgo ?_
    refine ⟨(i+1),?_,?_,⟨⟨_,rfl,by rfl⟩,rfl,⟨⟨_,rfl,by rfl⟩,rfl,trivial⟩⟩,⟨⟨_,rfl,by (first | (rw [b40 (by assumption),List.map_append];rfl) | (rw [b41 (by assumption)];done))⟩,rfl,rfl,trivial⟩,rfl,rfl,rfl⟩
    ·omega
    omega
   obtain rfl:i=8:=(by omega)
   refine zgn ?_
   refine u4 (l4 5 [0,1,2,3,4,5,6,7,8,9,10,11,13] mixed (by kernel_rfl) rfl rfl (fun r0=>?_) (fun _ h=>h))
   refine zsa 0 ?_
   refine zsa 1 ?_
   refine b5 (rs:=[2]) (by kernel_rfl) rfl (AllB.cons ?_ AllB.nil)
   refine i1 [0,1,2,3,4,5,6,7,8,9,10,11,13] rfl rfl (b6 rfl rfl (f6 rfl (ArgsOK.of rfl) (a1j (raN m) (by have:=@a6a (fun j=>m.ra.getD j default) 8;unfold raN;omega) (b8e (by omega))) rfl) (b4 ⟨rfl,?_⟩))
   refine b5 (rs:=[3]) (by kernel_rfl) rfl (AllB.cons ?_ AllB.nil)
   refine i1 [0,1,2,3,4,5,6,7,8,9,10,11,13] rfl rfl ?_
   refine zgo ?_
   refine ⟨rfl,?_⟩
   refine zsa 4 ?_
   refine l6 (by kernel_rfl) ?_
   refine znk ?_
   refine c6 ⟨.inr rfl,_,rfl,rfl,?_⟩
   have hO:=F2 h1 h2 h3 (c3B hw hNK k202)
   refine zgo ?_
   refine c6 ⟨.inr rfl,_,rfl,rfl,?_⟩
   refine zgo ?_
   refine a8 rfl ?_
   refine d8 G 15 rfl rfl rfl rfl rfl ?_
   refine zgo ?_
   refine a8 rfl ?_
   refine d7 19 rfl rfl rfl (ArgsOK.of rfl) (o8 _ x (by first | assumption | exact hsm (by assumption)) hx) rfl rfl ?_
   refine zgo ?_
   refine a8 rfl ?_
   refine b6 rfl rfl (j9 G rfl rfl rfl) ?_
   refine zcd (fun h304=>?_) (fun h304=>?_)
   ·try rw [A8 (by omega)] at hO
    refine zgo ?_
    refine a8 rfl ?_
    refine b6 rfl rfl (f6 rfl (ArgsOK.of rfl) (d5 x ⟨s,_⟩ hx ⟨by show s.size≤_;omega,by first | exact j5 (by decide) | exact i6 (by omega) | exact i6 (Int.ofNat_le.1 hrs)⟩) rfl) ?_
    refine zgo ?_
    refine c6 (d9 rfl rfl rfl rfl (a7 (b7 rfl ?_) (a7 (b7 rfl ?_) (a7 (b7 rfl ?_) (a7 (n7 rfl ?_) (a7 (c1 ?_) (a7 (c1 ?_) (a7 (c1 ?_) (a7 (c1 ?_) b9)))))))))
    all_goals (first | (rw [hO];done) | (rw [hO];rfl))
   try rw [A9 (by omega)] at hO
   have hrs:=h304
   refine zgo ?_
   refine a8 rfl ?_
   refine b6 rfl rfl (f6 rfl (ArgsOK.of rfl) (d5 x ⟨s,_⟩ hx ⟨by show s.size≤_;omega,by first | exact j5 (by decide) | exact i6 (by omega) | exact i6 (Int.ofNat_le.1 hrs)⟩) rfl) ?_
   refine zgo ?_
   refine c6 (d9 rfl rfl rfl rfl (a7 (b7 rfl ?_) (a7 (b7 rfl ?_) (a7 (b7 rfl ?_) (a7 (n7 rfl ?_) (a7 (c1 ?_) (a7 (c1 ?_) (a7 (c1 ?_) (a7 (c1 ?_) b9)))))))))
   all_goals (first | (rw [hO];done) | (rw [hO];rfl))
  have k202:¬ m3 (wrd s 0)=1:=(by rw [← hs0];exact mt b0P.mpr h202)
  refine zgo ?_
  refine a8 rfl ?_
  refine b6 rfl rfl (z7 rfl rfl rfl rfl) ?_
  refine zcd (fun h205=>?_) (fun h205=>?_)
  ·have k205:m3 (wrd s 0)=2:=(by rw [← hs0];exact b0Q.mp h205)
   refine zcl (a9N m hs hM) ?_
   refine zcd (fun h206=>?_) (fun h206=>?_)
   ·refine zgo ?_
    refine c6 ⟨.inr rfl,_,rfl,rfl,?_⟩
    have hO:=F2 h1 h2 h3 (c2p hw hNK k205 h206)
    refine zgo ?_
    refine c6 ⟨.inr rfl,_,rfl,rfl,?_⟩
    refine zgo ?_
    refine a8 rfl ?_
    refine d8 G 14 rfl rfl rfl rfl rfl ?_
    refine zgo ?_
    refine a8 rfl ?_
    refine d7 18 rfl rfl rfl (ArgsOK.of rfl) (o8 _ x (by first | assumption | exact hsm (by assumption)) hx) rfl rfl ?_
    refine zgo ?_
    refine a8 rfl ?_
    refine b6 rfl rfl (j9 G rfl rfl rfl) ?_
    refine zcd (fun h305=>?_) (fun h305=>?_)
    ·try rw [A8 (by omega)] at hO
     refine zgo ?_
     refine a8 rfl ?_
     refine b6 rfl rfl (f6 rfl (ArgsOK.of rfl) (d5 x ⟨s,_⟩ hx ⟨by show s.size≤_;omega,by first | exact j5 (by decide) | exact i6 (by omega) | exact i6 (Int.ofNat_le.1 hrs)⟩) rfl) ?_
     refine zgo ?_
     refine c6 (d9 rfl rfl rfl rfl (a7 (b7 rfl ?_) (a7 (b7 rfl ?_) (a7 (b7 rfl ?_) (a7 (n7 rfl ?_) (a7 (c1 ?_) (a7 (c1 ?_) (a7 (c1 ?_) (a7 (c1 ?_) b9)))))))))
     all_goals (first | (rw [hO];done) | (rw [hO];rfl))
    try rw [A9 (by omega)] at hO
    have hrs:=h305
    refine zgo ?_
    refine a8 rfl ?_
    refine b6 rfl rfl (f6 rfl (ArgsOK.of rfl) (d5 x ⟨s,_⟩ hx ⟨by show s.size≤_;omega,by first | exact j5 (by decide) | exact i6 (by omega) | exact i6 (Int.ofNat_le.1 hrs)⟩) rfl) ?_
    refine zgo ?_
    refine c6 (d9 rfl rfl rfl rfl (a7 (b7 rfl ?_) (a7 (b7 rfl ?_) (a7 (b7 rfl ?_) (a7 (n7 rfl ?_) (a7 (c1 ?_) (a7 (c1 ?_) (a7 (c1 ?_) (a7 (c1 ?_) b9)))))))))
    all_goals (first | (rw [hO];done) | (rw [hO];rfl))
   refine zgo ?_
   refine c6 ⟨.inr rfl,_,rfl,rfl,?_⟩
   have hO:=F2 h1 h2 h3 (c2q hw hNK k205 h206)
   refine zgo ?_
   refine c6 ⟨.inr rfl,_,rfl,rfl,?_⟩
   refine zgo ?_
   refine a8 rfl ?_
   refine d8 G 14 rfl rfl rfl rfl rfl ?_
   refine zgo ?_
   refine a8 rfl ?_
   refine d7 18 rfl rfl rfl (ArgsOK.of rfl) (o8 _ x (by first | assumption | exact hsm (by assumption)) hx) rfl rfl ?_
   refine zgo ?_
   refine a8 rfl ?_
   refine b6 rfl rfl (j9 G rfl rfl rfl) ?_
   refine zcd (fun h306=>?_) (fun h306=>?_)
   ·try rw [A8 (by omega)] at hO
    refine zgo ?_
    refine a8 rfl ?_
    refine b6 rfl rfl (f6 rfl (ArgsOK.of rfl) (d5 x ⟨s,_⟩ hx ⟨by show s.size≤_;omega,by first | exact j5 (by decide) | exact i6 (by omega) | exact i6 (Int.ofNat_le.1 hrs)⟩) rfl) ?_
    refine zgo ?_
    refine c6 (d9 rfl rfl rfl rfl (a7 (b7 rfl ?_) (a7 (b7 rfl ?_) (a7 (b7 rfl ?_) (a7 (n7 rfl ?_) (a7 (c1 ?_) (a7 (c1 ?_) (a7 (c1 ?_) (a7 (c1 ?_) b9)))))))))
    all_goals (first | (rw [hO];done) | (rw [hO];rfl))
   try rw [A9 (by omega)] at hO
   have hrs:=h306
   refine zgo ?_
   refine a8 rfl ?_
   refine b6 rfl rfl (f6 rfl (ArgsOK.of rfl) (d5 x ⟨s,_⟩ hx ⟨by show s.size≤_;omega,by first | exact j5 (by decide) | exact i6 (by omega) | exact i6 (Int.ofNat_le.1 hrs)⟩) rfl) ?_
   refine zgo ?_
   refine c6 (d9 rfl rfl rfl rfl (a7 (b7 rfl ?_) (a7 (b7 rfl ?_) (a7 (b7 rfl ?_) (a7 (n7 rfl ?_) (a7 (c1 ?_) (a7 (c1 ?_) (a7 (c1 ?_) (a7 (c1 ?_) b9)))))))))
   all_goals (first | (rw [hO];done) | (rw [hO];rfl))
  have k205:¬ m3 (wrd s 0)=2:=(by rw [← hs0];exact mt b0Q.mpr h205)
  refine zgo ?_
  refine c6 ⟨.inr rfl,_,rfl,rfl,?_⟩
  have hO:=F2 h1 h2 h3 (c3C hw k201 k202 k205)
  refine zgo ?_
  refine c6 ⟨.inr rfl,_,rfl,rfl,?_⟩
  refine zgo ?_
  refine a8 rfl ?_
  refine d8 G 14 rfl rfl rfl rfl rfl ?_
  refine zgo ?_
  refine a8 rfl ?_
  refine d7 18 rfl rfl rfl (ArgsOK.of rfl) (o8 _ x (by first | assumption | exact hsm (by assumption)) hx) rfl rfl ?_
  refine zgo ?_
  refine a8 rfl ?_
  refine b6 rfl rfl (j9 G rfl rfl rfl) ?_
  refine zcd (fun h307=>?_) (fun h307=>?_)
  ·try rw [A8 (by omega)] at hO
   refine zgo ?_
   refine a8 rfl ?_
   refine b6 rfl rfl (f6 rfl (ArgsOK.of rfl) (d5 x ⟨s,_⟩ hx ⟨by show s.size≤_;omega,by first | exact j5 (by decide) | exact i6 (by omega) | exact i6 (Int.ofNat_le.1 hrs)⟩) rfl) ?_
   refine zgo ?_
   refine c6 (d9 rfl rfl rfl rfl (a7 (b7 rfl ?_) (a7 (b7 rfl ?_) (a7 (b7 rfl ?_) (a7 (n7 rfl ?_) (a7 (c1 ?_) (a7 (c1 ?_) (a7 (c1 ?_) (a7 (c1 ?_) b9)))))))))
   all_goals (first | (rw [hO];done) | (rw [hO];rfl))
  try rw [A9 (by omega)] at hO
  have hrs:=h307
  refine zgo ?_
  refine a8 rfl ?_
  refine b6 rfl rfl (f6 rfl (ArgsOK.of rfl) (d5 x ⟨s,_⟩ hx ⟨by show s.size≤_;omega,by first | exact j5 (by decide) | exact i6 (by omega) | exact i6 (Int.ofNat_le.1 hrs)⟩) rfl) ?_
  refine zgo ?_
  refine c6 (d9 rfl rfl rfl rfl (a7 (b7 rfl ?_) (a7 (b7 rfl ?_) (a7 (b7 rfl ?_) (a7 (n7 rfl ?_) (a7 (c1 ?_) (a7 (c1 ?_) (a7 (c1 ?_) (a7 (c1 ?_) b9)))))))))
  all_goals (first | (rw [hO];done) | (rw [hO];rfl))
 refine zcd (fun h104=>?_) (fun h104=>?_)
 ·have hw:wn s=2:=(by show (j2 s 32).length=2;omega)
  refine u4 (l4 12 [0,1,2,3,4,5,6,7,9,10] mixed (by kernel_rfl) rfl rfl (fun r0=>?_) (fun _ h=>h))
  refine zsa 0 ?_
  refine zsa 1 ?_
  first | refine e9 2 rfl (by kernel_rfl) (by kernel_rfl) rfl rfl rfl rfl (b8 G rfl rfl rfl rfl rfl (by omega) (by rw [List.length_map];omega)) ?_ | refine e9 2 rfl (by kernel_rfl) (by kernel_rfl) rfl rfl rfl rfl (b8 G rfl rfl rfl rfl rfl (by omega) (by omega)) ?_
  first | refine e9 3 rfl (by kernel_rfl) (by kernel_rfl) rfl rfl rfl rfl (j6 G rfl rfl rfl rfl rfl (b6i (by omega)) rfl) ?_ | refine e9 3 rfl (by kernel_rfl) (by kernel_rfl) rfl rfl rfl rfl (j6 G rfl rfl rfl rfl rfl (B4 (by omega) (by omega)) rfl) ?_
  refine zsa 4 ?_
  first | refine e9 5 rfl (by kernel_rfl) (by kernel_rfl) rfl rfl rfl rfl (b8 G rfl rfl rfl rfl rfl (by omega) (by rw [List.length_map];omega)) ?_ | refine e9 5 rfl (by kernel_rfl) (by kernel_rfl) rfl rfl rfl rfl (b8 G rfl rfl rfl rfl rfl (by omega) (by omega)) ?_
  first | refine e9 6 rfl (by kernel_rfl) (by kernel_rfl) rfl rfl rfl rfl (j6 G rfl rfl rfl rfl rfl (b6i (by omega)) rfl) ?_ | refine e9 6 rfl (by kernel_rfl) (by kernel_rfl) rfl rfl rfl rfl (j6 G rfl rfl rfl rfl rfl (B4 (by omega) (by omega)) rfl) ?_
  refine b5 (rs:=[7]) (by kernel_rfl) rfl (AllB.cons ?_ AllB.nil)
  refine i1 [0,1,2,3,4,5,6,7,9,10] rfl rfl ?_
  refine U8 (n:=55) G rfl rfl rfl Tryz.func59 rfl (by kernel_rfl) rfl rfl rfl rfl ?_
  intro b hen hpin
  refine zgo ?_
  refine a8 rfl ?_
  refine B0 12 rfl rfl rfl rfl rfl rfl rfl ?_
  refine a8 rfl ?_
  refine d8 G 13 rfl rfl rfl rfl rfl ?_
  refine zgo ?_
  refine a8 rfl ?_
  refine b6 rfl rfl (z7 rfl rfl rfl rfl) ?_
  refine zcd (fun h201=>?_) (fun h201=>?_)
  ·have k201:m3 (wrd s 0)=3:=b0R.mp h201
   have hE:D2 m s=N2 m ⟨1,(C7 s ((j2 s 32).length - 1)).getD ((0:Int)).toNat default,0,0⟩:=c3D hw hNK k201
   have hir:=@a3u m ⟨1,(C7 s ((j2 s 32).length - 1)).getD ((0:Int)).toNat default,0,0⟩
   have hsm:=@T3 m ⟨1,(C7 s ((j2 s 32).length - 1)).getD ((0:Int)).toNat default,0,0⟩
   have hiq:=@a4N m ⟨1,(C7 s ((j2 s 32).length - 1)).getD ((0:Int)).toNat default,0,0⟩
   have cS:=z6 m 1 ((C7 s ((j2 s 32).length - 1)).getD ((0:Int)).toNat default) 0 0 hs
   unfold N2 at hE
   generalize smT m ⟨1,(C7 s ((j2 s 32).length - 1)).getD ((0:Int)).toNat default,0,0⟩=sr at cS hE hir hsm hiq
   obtain ⟨m1,ir,ok⟩:=sr
   dsimp only at cS hE hir hsm hiq
   refine zgo ?_
   refine a8 rfl ?_
   refine U8 (n:=31) G rfl rfl rfl Tryz.func60 rfl (by kernel_rfl) rfl rfl rfl rfl ?_
   intro b hen hpin
   refine zgo ?_
   refine a8 rfl ?_
   refine B0 14 rfl rfl rfl rfl rfl rfl rfl ?_
   refine a8 rfl ?_
   refine B0 15 rfl rfl rfl rfl rfl rfl rfl ?_
   refine a8 rfl ?_
   refine d8 G 16 rfl rfl rfl rfl rfl ?_
   refine zgo ?_
   refine a8 rfl ?_
   refine d7 20 rfl rfl rfl (ArgsOK.of rfl) cS rfl rfl ?_
   refine zgo ?_
   refine a8 rfl ?_
   refine d8 G 21 rfl rfl rfl rfl rfl ?_
   refine zcd (fun h301=>?_) (fun h301=>?_)
   ·refine zgo ?_
    refine c6 ⟨.inr rfl,_,rfl,rfl,?_⟩
    have hE2:D2 m s=(m,qmB):=hE.trans (if_neg (by simp [h301]))
    have hO:=F2 h1 h2 h3 hE2
    refine zgo ?_
    refine c6 ⟨.inr rfl,_,rfl,rfl,?_⟩
    refine b4 ⟨rfl,?_⟩
    refine zsa 8 ?_
    refine zsa 9 ?_
    refine b5 (rs:=[10]) (by kernel_rfl) rfl (AllB.cons ?_ AllB.nil)
    refine i1 [0,1,2,3,4,5,6,7,9,10] rfl rfl ?_
    refine zgo ?_
    refine ⟨rfl,?_⟩
    refine zsa 11 ?_
    refine l6 (by kernel_rfl) ?_
    refine znk ?_
    refine c6 ⟨.inr rfl,_,rfl,rfl,?_⟩
    refine zgo ?_
    refine a8 rfl ?_
    refine d8 G 22 rfl rfl rfl rfl rfl ?_
    refine zgo ?_
    refine a8 rfl ?_
    refine d7 26 rfl rfl rfl (ArgsOK.of rfl) (o8 _ x (by first | assumption | exact hsm (by assumption)) hx) rfl rfl ?_
    refine zgo ?_
    refine a8 rfl ?_
    refine b6 rfl rfl (j9 G rfl rfl rfl) ?_
    refine zcd (fun h308=>?_) (fun h308=>?_)
    ·try rw [A8 (by omega)] at hO
     refine zgo ?_
     refine a8 rfl ?_
     refine b6 rfl rfl (f6 rfl (ArgsOK.of rfl) (d5 x ⟨s,_⟩ hx ⟨by show s.size≤_;omega,by first | exact j5 (by decide) | exact i6 (by omega) | exact i6 (Int.ofNat_le.1 hrs)⟩) rfl) ?_
     refine zgo ?_
     refine c6 (d9 rfl rfl rfl rfl (a7 (b7 rfl ?_) (a7 (b7 rfl ?_) (a7 (b7 rfl ?_) (a7 (n7 rfl ?_) (a7 (c1 ?_) (a7 (c1 ?_) (a7 (c1 ?_) (a7 (c1 ?_) b9)))))))))
     all_goals (first | (rw [hO];done) | (rw [hO];rfl))
    try rw [A9 (by omega)] at hO
    have hrs:=h308
    refine zgo ?_
    refine a8 rfl ?_
    refine b6 rfl rfl (f6 rfl (ArgsOK.of rfl) (d5 x ⟨s,_⟩ hx ⟨by show s.size≤_;omega,by first | exact j5 (by decide) | exact i6 (by omega) | exact i6 (Int.ofNat_le.1 hrs)⟩) rfl) ?_
    refine zgo ?_
    refine c6 (d9 rfl rfl rfl rfl (a7 (b7 rfl ?_) (a7 (b7 rfl ?_) (a7 (b7 rfl ?_) (a7 (n7 rfl ?_) (a7 (c1 ?_) (a7 (c1 ?_) (a7 (c1 ?_) (a7 (c1 ?_) b9)))))))))
    all_goals (first | (rw [hO];done) | (rw [hO];rfl))
   refine zgo ?_
   refine a8 rfl ?_
   refine d8 G 22 rfl rfl rfl rfl rfl ?_
   refine zwf ?_
   refine zgo ?_
   refine c6 ⟨.inr rfl,_,rfl,rfl,?_⟩
   have hE2:D2 m s=(m1,if ir=-1 then okB else t7 ir):=hE.trans (if_pos h301)
   first | rw [if_neg ((hiq h301).mpr (by omega))] at hE2 | rw [if_pos (Decidable.byContradiction fun g=>absurd ((hiq h301).mp g) (by omega))] at hE2
   have hO:=F2 h1 h2 h3 hE2
   refine zgo ?_
   refine c6 ⟨.inr rfl,_,rfl,rfl,?_⟩
   refine b4 ⟨rfl,?_⟩
   refine zsa 8 ?_
   refine zsa 9 ?_
   refine b5 (rs:=[10]) (by kernel_rfl) rfl (AllB.cons ?_ AllB.nil)
   refine i1 [0,1,2,3,4,5,6,7,9,10] rfl rfl ?_
   refine zgo ?_
   refine ⟨rfl,?_⟩
   refine zsa 11 ?_
   refine l6 (by kernel_rfl) ?_
   refine znk ?_
   refine c6 ⟨.inr rfl,_,rfl,rfl,?_⟩
   refine zgo ?_
   refine a8 rfl ?_
   refine d8 G 23 rfl rfl rfl rfl rfl ?_
   refine zgo ?_
   refine a8 rfl ?_
   refine d7 27 rfl rfl rfl (ArgsOK.of rfl) (o8 _ x (by first | assumption | exact hsm (by assumption)) hx) rfl rfl ?_
   refine zgo ?_
   refine a8 rfl ?_
   refine b6 rfl rfl (j9 G rfl rfl rfl) ?_
   refine zcd (fun h309=>?_) (fun h309=>?_)
   ·try rw [A8 (by omega)] at hO
    refine zgo ?_
    refine a8 rfl ?_
    refine b6 rfl rfl (f6 rfl (ArgsOK.of rfl) (d5 x ⟨s,_⟩ hx ⟨by show s.size≤_;omega,by first | exact j5 (by decide) | exact i6 (by omega) | exact i6 (Int.ofNat_le.1 hrs)⟩) rfl) ?_
    refine zgo ?_
    refine c6 (d9 rfl rfl rfl rfl (a7 (b7 rfl ?_) (a7 (b7 rfl ?_) (a7 (b7 rfl ?_) (a7 (n7 rfl ?_) (a7 (c1 ?_) (a7 (c1 ?_) (a7 (c1 ?_) (a7 (c1 ?_) b9)))))))))
    all_goals (first | (rw [hO];done) | (rw [hO];rfl))
   try rw [A9 (by omega)] at hO
   have hrs:=h309
   refine zgo ?_
   refine a8 rfl ?_
   refine b6 rfl rfl (f6 rfl (ArgsOK.of rfl) (d5 x ⟨s,_⟩ hx ⟨by show s.size≤_;omega,by first | exact j5 (by decide) | exact i6 (by omega) | exact i6 (Int.ofNat_le.1 hrs)⟩) rfl) ?_
   refine zgo ?_
   refine c6 (d9 rfl rfl rfl rfl (a7 (b7 rfl ?_) (a7 (b7 rfl ?_) (a7 (b7 rfl ?_) (a7 (n7 rfl ?_) (a7 (c1 ?_) (a7 (c1 ?_) (a7 (c1 ?_) (a7 (c1 ?_) b9)))))))))
   all_goals (first | (rw [hO];done) | (rw [hO];rfl))
  have k201:¬ m3 (wrd s 0)=3:=mt b0R.mpr h201
  refine zgo ?_
  refine a8 rfl ?_
  refine b6 rfl rfl (z7 rfl rfl rfl rfl) ?_
  refine zcd (fun h202=>?_) (fun h202=>?_)
  ·have k202:m3 (wrd s 0)=4:=b0S.mp h202
   have hE:D2 m s=N2 m ⟨6,(C7 s ((j2 s 32).length - 1)).getD ((0:Int)).toNat default,0,1⟩:=c3E hw hNK k202
   have hir:=@a3u m ⟨6,(C7 s ((j2 s 32).length - 1)).getD ((0:Int)).toNat default,0,1⟩
   have hsm:=@T3 m ⟨6,(C7 s ((j2 s 32).length - 1)).getD ((0:Int)).toNat default,0,1⟩
   have hiq:=@a4N m ⟨6,(C7 s ((j2 s 32).length - 1)).getD ((0:Int)).toNat default,0,1⟩
   have cS:=z6 m 6 ((C7 s ((j2 s 32).length - 1)).getD ((0:Int)).toNat default) 0 1 hs
   unfold N2 at hE
   generalize smT m ⟨6,(C7 s ((j2 s 32).length - 1)).getD ((0:Int)).toNat default,0,1⟩=sr at cS hE hir hsm hiq
   obtain ⟨m1,ir,ok⟩:=sr
   dsimp only at cS hE hir hsm hiq
   refine zgo ?_
   refine a8 rfl ?_
   refine U8 (n:=31) G rfl rfl rfl Tryz.func60 rfl (by kernel_rfl) rfl rfl rfl rfl ?_
   intro b hen hpin
   refine zgo ?_
   refine a8 rfl ?_
   refine B0 14 rfl rfl rfl rfl rfl rfl rfl ?_
   refine a8 rfl ?_
   refine B0 15 rfl rfl rfl rfl rfl rfl rfl ?_
   refine a8 rfl ?_
   refine d8 G 16 rfl rfl rfl rfl rfl ?_
   refine zgo ?_
   refine a8 rfl ?_
   refine d7 20 rfl rfl rfl (ArgsOK.of rfl) cS rfl rfl ?_
   refine zgo ?_
   refine a8 rfl ?_
   refine d8 G 21 rfl rfl rfl rfl rfl ?_
   refine zcd (fun h301=>?_) (fun h301=>?_)
   ·refine zgo ?_
    refine c6 ⟨.inr rfl,_,rfl,rfl,?_⟩
    have hE2:D2 m s=(m,qmB):=hE.trans (if_neg (by simp [h301]))
    have hO:=F2 h1 h2 h3 hE2
    refine zgo ?_
    refine c6 ⟨.inr rfl,_,rfl,rfl,?_⟩
    refine b4 ⟨rfl,?_⟩
    refine zsa 8 ?_
    refine zsa 9 ?_
    refine b5 (rs:=[10]) (by kernel_rfl) rfl (AllB.cons ?_ AllB.nil)
    refine i1 [0,1,2,3,4,5,6,7,9,10] rfl rfl ?_
    refine zgo ?_
    refine ⟨rfl,?_⟩
    refine zsa 11 ?_
    refine l6 (by kernel_rfl) ?_
    refine znk ?_
    refine c6 ⟨.inr rfl,_,rfl,rfl,?_⟩
    refine zgo ?_
    refine a8 rfl ?_
    refine d8 G 22 rfl rfl rfl rfl rfl ?_
    refine zgo ?_
    refine a8 rfl ?_
    refine d7 26 rfl rfl rfl (ArgsOK.of rfl) (o8 _ x (by first | assumption | exact hsm (by assumption)) hx) rfl rfl ?_
    refine zgo ?_
    refine a8 rfl ?_
    refine b6 rfl rfl (j9 G rfl rfl rfl) ?_
    refine zcd (fun h310=>?_) (fun h310=>?_)
    ·try rw [A8 (by omega)] at hO
     refine zgo ?_
     refine a8 rfl ?_
     refine b6 rfl rfl (f6 rfl (ArgsOK.of rfl) (d5 x ⟨s,_⟩ hx ⟨by show s.size≤_;omega,by first | exact j5 (by decide) | exact i6 (by omega) | exact i6 (Int.ofNat_le.1 hrs)⟩) rfl) ?_
     refine zgo ?_
     refine c6 (d9 rfl rfl rfl rfl (a7 (b7 rfl ?_) (a7 (b7 rfl ?_) (a7 (b7 rfl ?_) (a7 (n7 rfl ?_) (a7 (c1 ?_) (a7 (c1 ?_) (a7 (c1 ?_) (a7 (c1 ?_) b9)))))))))
     all_goals (first | (rw [hO];done) | (rw [hO];rfl))
    try rw [A9 (by omega)] at hO
    have hrs:=h310
    refine zgo ?_
    refine a8 rfl ?_
    refine b6 rfl rfl (f6 rfl (ArgsOK.of rfl) (d5 x ⟨s,_⟩ hx ⟨by show s.size≤_;omega,by first | exact j5 (by decide) | exact i6 (by omega) | exact i6 (Int.ofNat_le.1 hrs)⟩) rfl) ?_
    refine zgo ?_
    refine c6 (d9 rfl rfl rfl rfl (a7 (b7 rfl ?_) (a7 (b7 rfl ?_) (a7 (b7 rfl ?_) (a7 (n7 rfl ?_) (a7 (c1 ?_) (a7 (c1 ?_) (a7 (c1 ?_) (a7 (c1 ?_) b9)))))))))
    all_goals (first | (rw [hO];done) | (rw [hO];rfl))
   refine zgo ?_
   refine a8 rfl ?_
   refine d8 G 22 rfl rfl rfl rfl rfl ?_
   refine zwf ?_
   refine zgo ?_
   refine c6 ⟨.inr rfl,_,rfl,rfl,?_⟩
   have hE2:D2 m s=(m1,if ir=-1 then okB else t7 ir):=hE.trans (if_pos h301)
   first | rw [if_neg ((hiq h301).mpr (by omega))] at hE2 | rw [if_pos (Decidable.byContradiction fun g=>absurd ((hiq h301).mp g) (by omega))] at hE2
   have hO:=F2 h1 h2 h3 hE2
   refine zgo ?_
   refine c6 ⟨.inr rfl,_,rfl,rfl,?_⟩
   refine b4 ⟨rfl,?_⟩
   refine zsa 8 ?_
   refine zsa 9 ?_
   refine b5 (rs:=[10]) (by kernel_rfl) rfl (AllB.cons ?_ AllB.nil)
   refine i1 [0,1,2,3,4,5,6,7,9,10] rfl rfl ?_
   refine zgo ?_
   refine ⟨rfl,?_⟩
   refine zsa 11 ?_
   refine l6 (by kernel_rfl) ?_
   refine znk ?_
   refine c6 ⟨.inr rfl,_,rfl,rfl,?_⟩
   refine zgo ?_
   refine a8 rfl ?_
   refine d8 G 23 rfl rfl rfl rfl rfl ?_
   refine zgo ?_
   refine a8 rfl ?_
   refine d7 27 rfl rfl rfl (ArgsOK.of rfl) (o8 _ x (by first | assumption | exact hsm (by assumption)) hx) rfl rfl ?_
   refine zgo ?_
   refine a8 rfl ?_
   refine b6 rfl rfl (j9 G rfl rfl rfl) ?_
   refine zcd (fun h311=>?_) (fun h311=>?_)
   ·try rw [A8 (by omega)] at hO
    refine zgo ?_
    refine a8 rfl ?_
    refine b6 rfl rfl (f6 rfl (ArgsOK.of rfl) (d5 x ⟨s,_⟩ hx ⟨by show s.size≤_;omega,by first | exact j5 (by decide) | exact i6 (by omega) | exact i6 (Int.ofNat_le.1 hrs)⟩) rfl) ?_
    refine zgo ?_
    refine c6 (d9 rfl rfl rfl rfl (a7 (b7 rfl ?_) (a7 (b7 rfl ?_) (a7 (b7 rfl ?_) (a7 (n7 rfl ?_) (a7 (c1 ?_) (a7 (c1 ?_) (a7 (c1 ?_) (a7 (c1 ?_) b9)))))))))
    all_goals (first | (rw [hO];done) | (rw [hO];rfl))
   try rw [A9 (by omega)] at hO
   have hrs:=h311
   refine zgo ?_
   refine a8 rfl ?_
   refine b6 rfl rfl (f6 rfl (ArgsOK.of rfl) (d5 x ⟨s,_⟩ hx ⟨by show s.size≤_;omega,by first | exact j5 (by decide) | exact i6 (by omega) | exact i6 (Int.ofNat_le.1 hrs)⟩) rfl) ?_
   refine zgo ?_
   refine c6 (d9 rfl rfl rfl rfl (a7 (b7 rfl ?_) (a7 (b7 rfl ?_) (a7 (b7 rfl ?_) (a7 (n7 rfl ?_) (a7 (c1 ?_) (a7 (c1 ?_) (a7 (c1 ?_) (a7 (c1 ?_) b9)))))))))
   all_goals (first | (rw [hO];done) | (rw [hO];rfl))
  have k202:¬ m3 (wrd s 0)=4:=mt b0S.mpr h202
  refine zgo ?_
  refine a8 rfl ?_
  refine b6 rfl rfl (z7 rfl rfl rfl rfl) ?_
  refine zcd (fun h203=>?_) (fun h203=>?_)
  ·have k203:m3 (wrd s 0)=5:=b0T.mp h203
   have hE:D2 m s=N2 m ⟨6,(C7 s ((j2 s 32).length - 1)).getD ((0:Int)).toNat default,0,0⟩:=c3F hw hNK k203
   have hir:=@a3u m ⟨6,(C7 s ((j2 s 32).length - 1)).getD ((0:Int)).toNat default,0,0⟩
   have hsm:=@T3 m ⟨6,(C7 s ((j2 s 32).length - 1)).getD ((0:Int)).toNat default,0,0⟩
   have hiq:=@a4N m ⟨6,(C7 s ((j2 s 32).length - 1)).getD ((0:Int)).toNat default,0,0⟩
   have cS:=z6 m 6 ((C7 s ((j2 s 32).length - 1)).getD ((0:Int)).toNat default) 0 0 hs
   unfold N2 at hE
   generalize smT m ⟨6,(C7 s ((j2 s 32).length - 1)).getD ((0:Int)).toNat default,0,0⟩=sr at cS hE hir hsm hiq
   obtain ⟨m1,ir,ok⟩:=sr
   dsimp only at cS hE hir hsm hiq
   refine zgo ?_
   refine a8 rfl ?_
   refine U8 (n:=31) G rfl rfl rfl Tryz.func60 rfl (by kernel_rfl) rfl rfl rfl rfl ?_
   intro b hen hpin
   refine zgo ?_
   refine a8 rfl ?_
   refine B0 14 rfl rfl rfl rfl rfl rfl rfl ?_
   refine a8 rfl ?_
   refine B0 15 rfl rfl rfl rfl rfl rfl rfl ?_
   refine a8 rfl ?_
   refine d8 G 16 rfl rfl rfl rfl rfl ?_
   refine zgo ?_
   refine a8 rfl ?_
   refine d7 20 rfl rfl rfl (ArgsOK.of rfl) cS rfl rfl ?_
   refine zgo ?_
   refine a8 rfl ?_
   refine d8 G 21 rfl rfl rfl rfl rfl ?_
   refine zcd (fun h301=>?_) (fun h301=>?_)
   ·refine zgo ?_
    refine c6 ⟨.inr rfl,_,rfl,rfl,?_⟩
    have hE2:D2 m s=(m,qmB):=hE.trans (if_neg (by simp [h301]))
    have hO:=F2 h1 h2 h3 hE2
    refine zgo ?_
    refine c6 ⟨.inr rfl,_,rfl,rfl,?_⟩
    refine b4 ⟨rfl,?_⟩
    refine zsa 8 ?_
    refine zsa 9 ?_
    refine b5 (rs:=[10]) (by kernel_rfl) rfl (AllB.cons ?_ AllB.nil)
    refine i1 [0,1,2,3,4,5,6,7,9,10] rfl rfl ?_
    refine zgo ?_
    refine ⟨rfl,?_⟩
    refine zsa 11 ?_
    refine l6 (by kernel_rfl) ?_
    refine znk ?_
    refine c6 ⟨.inr rfl,_,rfl,rfl,?_⟩
    refine zgo ?_
    refine a8 rfl ?_
    refine d8 G 22 rfl rfl rfl rfl rfl ?_
    refine zgo ?_
    refine a8 rfl ?_
    refine d7 26 rfl rfl rfl (ArgsOK.of rfl) (o8 _ x (by first | assumption | exact hsm (by assumption)) hx) rfl rfl ?_
    refine zgo ?_
    refine a8 rfl ?_
    refine b6 rfl rfl (j9 G rfl rfl rfl) ?_
    refine zcd (fun h312=>?_) (fun h312=>?_)
    ·try rw [A8 (by omega)] at hO
     refine zgo ?_
     refine a8 rfl ?_
     refine b6 rfl rfl (f6 rfl (ArgsOK.of rfl) (d5 x ⟨s,_⟩ hx ⟨by show s.size≤_;omega,by first | exact j5 (by decide) | exact i6 (by omega) | exact i6 (Int.ofNat_le.1 hrs)⟩) rfl) ?_
     refine zgo ?_
     refine c6 (d9 rfl rfl rfl rfl (a7 (b7 rfl ?_) (a7 (b7 rfl ?_) (a7 (b7 rfl ?_) (a7 (n7 rfl ?_) (a7 (c1 ?_) (a7 (c1 ?_) (a7 (c1 ?_) (a7 (c1 ?_) b9)))))))))
     all_goals (first | (rw [hO];done) | (rw [hO];rfl))
    try rw [A9 (by omega)] at hO
    have hrs:=h312
    refine zgo ?_
    refine a8 rfl ?_
    refine b6 rfl rfl (f6 rfl (ArgsOK.of rfl) (d5 x ⟨s,_⟩ hx ⟨by show s.size≤_;omega,by first | exact j5 (by decide) | exact i6 (by omega) | exact i6 (Int.ofNat_le.1 hrs)⟩) rfl) ?_
    refine zgo ?_
    refine c6 (d9 rfl rfl rfl rfl (a7 (b7 rfl ?_) (a7 (b7 rfl ?_) (a7 (b7 rfl ?_) (a7 (n7 rfl ?_) (a7 (c1 ?_) (a7 (c1 ?_) (a7 (c1 ?_) (a7 (c1 ?_) b9)))))))))
    all_goals (first | (rw [hO];done) | (rw [hO];rfl))
   refine zgo ?_
   refine a8 rfl ?_
   refine d8 G 22 rfl rfl rfl rfl rfl ?_
   refine zwf ?_
   refine zgo ?_
   refine c6 ⟨.inr rfl,_,rfl,rfl,?_⟩
   have hE2:D2 m s=(m1,if ir=-1 then okB else t7 ir):=hE.trans (if_pos h301)
   first | rw [if_neg ((hiq h301).mpr (by omega))] at hE2 | rw [if_pos (Decidable.byContradiction fun g=>absurd ((hiq h301).mp g) (by omega))] at hE2
   have hO:=F2 h1 h2 h3 hE2
   refine zgo ?_
   refine c6 ⟨.inr rfl,_,rfl,rfl,?_⟩
   refine b4 ⟨rfl,?_⟩
   refine zsa 8 ?_
   refine zsa 9 ?_
   refine b5 (rs:=[10]) (by kernel_rfl) rfl (AllB.cons ?_ AllB.nil)
   refine i1 [0,1,2,3,4,5,6,7,9,10] rfl rfl ?_
   refine zgo ?_
   refine ⟨rfl,?_⟩
   refine zsa 11 ?_
   refine l6 (by kernel_rfl) ?_
   refine znk ?_
   refine c6 ⟨.inr rfl,_,rfl,rfl,?_⟩
   refine zgo ?_
   refine a8 rfl ?_
   refine d8 G 23 rfl rfl rfl rfl rfl ?_
   refine zgo ?_
   refine a8 rfl ?_
   refine d7 27 rfl rfl rfl (ArgsOK.of rfl) (o8 _ x (by first | assumption | exact hsm (by assumption)) hx) rfl rfl ?_
   refine zgo ?_
   refine a8 rfl ?_
   refine b6 rfl rfl (j9 G rfl rfl rfl) ?_
   refine zcd (fun h313=>?_) (fun h313=>?_)
   ·try rw [A8 (by omega)] at hO
    refine zgo ?_
    refine a8 rfl ?_
    refine b6 rfl rfl (f6 rfl (ArgsOK.of rfl) (d5 x ⟨s,_⟩ hx ⟨by show s.size≤_;omega,by first | exact j5 (by decide) | exact i6 (by omega) | exact i6 (Int.ofNat_le.1 hrs)⟩) rfl) ?_
    refine zgo ?_
    refine c6 (d9 rfl rfl rfl rfl (a7 (b7 rfl ?_) (a7 (b7 rfl ?_) (a7 (b7 rfl ?_) (a7 (n7 rfl ?_) (a7 (c1 ?_) (a7 (c1 ?_) (a7 (c1 ?_) (a7 (c1 ?_) b9)))))))))
    all_goals (first | (rw [hO];done) | (rw [hO];rfl))
   try rw [A9 (by omega)] at hO
   have hrs:=h313
   refine zgo ?_
   refine a8 rfl ?_
   refine b6 rfl rfl (f6 rfl (ArgsOK.of rfl) (d5 x ⟨s,_⟩ hx ⟨by show s.size≤_;omega,by first | exact j5 (by decide) | exact i6 (by omega) | exact i6 (Int.ofNat_le.1 hrs)⟩) rfl) ?_
   refine zgo ?_
   refine c6 (d9 rfl rfl rfl rfl (a7 (b7 rfl ?_) (a7 (b7 rfl ?_) (a7 (b7 rfl ?_) (a7 (n7 rfl ?_) (a7 (c1 ?_) (a7 (c1 ?_) (a7 (c1 ?_) (a7 (c1 ?_) b9)))))))))
   all_goals (first | (rw [hO];done) | (rw [hO];rfl))
  have k203:¬ m3 (wrd s 0)=5:=mt b0T.mpr h203
  refine zgo ?_
  refine a8 rfl ?_
  refine b6 rfl rfl (z7 rfl rfl rfl rfl) ?_
  refine zcd (fun h204=>?_) (fun h204=>?_)
  ·have k204:m3 (wrd s 0)=6:=b0U.mp h204
   have hE:D2 m s=N2 m ⟨3,0,(C7 s ((j2 s 32).length - 1)).getD ((0:Int)).toNat default,0⟩:=c3G hw hNK k204
   have hir:=@a3u m ⟨3,0,(C7 s ((j2 s 32).length - 1)).getD ((0:Int)).toNat default,0⟩
   have hsm:=@T3 m ⟨3,0,(C7 s ((j2 s 32).length - 1)).getD ((0:Int)).toNat default,0⟩
   have hiq:=@a4N m ⟨3,0,(C7 s ((j2 s 32).length - 1)).getD ((0:Int)).toNat default,0⟩
   have cS:=z6 m 3 0 ((C7 s ((j2 s 32).length - 1)).getD ((0:Int)).toNat default) 0 hs
   unfold N2 at hE
   generalize smT m ⟨3,0,(C7 s ((j2 s 32).length - 1)).getD ((0:Int)).toNat default,0⟩=sr at cS hE hir hsm hiq
   obtain ⟨m1,ir,ok⟩:=sr
   dsimp only at cS hE hir hsm hiq
   refine zgo ?_
   refine a8 rfl ?_
   refine U8 (n:=31) G rfl rfl rfl Tryz.func60 rfl (by kernel_rfl) rfl rfl rfl rfl ?_
   intro b hen hpin
   refine zgo ?_
   refine a8 rfl ?_
   refine B0 14 rfl rfl rfl rfl rfl rfl rfl ?_
   refine a8 rfl ?_
   refine B0 15 rfl rfl rfl rfl rfl rfl rfl ?_
   refine a8 rfl ?_
   refine d8 G 16 rfl rfl rfl rfl rfl ?_
   refine zgo ?_
   refine a8 rfl ?_
   refine d7 20 rfl rfl rfl (ArgsOK.of rfl) cS rfl rfl ?_
   refine zgo ?_
   refine a8 rfl ?_
   refine d8 G 21 rfl rfl rfl rfl rfl ?_
   refine zcd (fun h301=>?_) (fun h301=>?_)
   ·refine zgo ?_
    refine c6 ⟨.inr rfl,_,rfl,rfl,?_⟩
    have hE2:D2 m s=(m,qmB):=hE.trans (if_neg (by simp [h301]))
    have hO:=F2 h1 h2 h3 hE2
    refine zgo ?_
    refine c6 ⟨.inr rfl,_,rfl,rfl,?_⟩
    refine b4 ⟨rfl,?_⟩
    refine zsa 8 ?_
    refine zsa 9 ?_
    refine b5 (rs:=[10]) (by kernel_rfl) rfl (AllB.cons ?_ AllB.nil)
    refine i1 [0,1,2,3,4,5,6,7,9,10] rfl rfl ?_
    refine zgo ?_
    refine ⟨rfl,?_⟩
    refine zsa 11 ?_
    refine l6 (by kernel_rfl) ?_
    refine znk ?_
    refine c6 ⟨.inr rfl,_,rfl,rfl,?_⟩
    refine zgo ?_
    refine a8 rfl ?_
    refine d8 G 22 rfl rfl rfl rfl rfl ?_
    refine zgo ?_
    refine a8 rfl ?_
    refine d7 26 rfl rfl rfl (ArgsOK.of rfl) (o8 _ x (by first | assumption | exact hsm (by assumption)) hx) rfl rfl ?_
    refine zgo ?_
    refine a8 rfl ?_
    refine b6 rfl rfl (j9 G rfl rfl rfl) ?_
    refine zcd (fun h314=>?_) (fun h314=>?_)
    ·try rw [A8 (by omega)] at hO
     refine zgo ?_
     refine a8 rfl ?_
     refine b6 rfl rfl (f6 rfl (ArgsOK.of rfl) (d5 x ⟨s,_⟩ hx ⟨by show s.size≤_;omega,by first | exact j5 (by decide) | exact i6 (by omega) | exact i6 (Int.ofNat_le.1 hrs)⟩) rfl) ?_
     refine zgo ?_
     refine c6 (d9 rfl rfl rfl rfl (a7 (b7 rfl ?_) (a7 (b7 rfl ?_) (a7 (b7 rfl ?_) (a7 (n7 rfl ?_) (a7 (c1 ?_) (a7 (c1 ?_) (a7 (c1 ?_) (a7 (c1 ?_) b9)))))))))
     all_goals (first | (rw [hO];done) | (rw [hO];rfl))
    try rw [A9 (by omega)] at hO
    have hrs:=h314
    refine zgo ?_
    refine a8 rfl ?_
    refine b6 rfl rfl (f6 rfl (ArgsOK.of rfl) (d5 x ⟨s,_⟩ hx ⟨by show s.size≤_;omega,by first | exact j5 (by decide) | exact i6 (by omega) | exact i6 (Int.ofNat_le.1 hrs)⟩) rfl) ?_
    refine zgo ?_
    refine c6 (d9 rfl rfl rfl rfl (a7 (b7 rfl ?_) (a7 (b7 rfl ?_) (a7 (b7 rfl ?_) (a7 (n7 rfl ?_) (a7 (c1 ?_) (a7 (c1 ?_) (a7 (c1 ?_) (a7 (c1 ?_) b9)))))))))
    all_goals (first | (rw [hO];done) | (rw [hO];rfl))
   refine zgo ?_
   refine a8 rfl ?_
   refine d8 G 22 rfl rfl rfl rfl rfl ?_
   refine zwt ?_
   refine u4 (l4 5 [0,1,2,3,4,5,6,7,8,9,10,11,12,13,14,16,17,18,19,20,21] mixed (by kernel_rfl) rfl rfl (fun r0=>?_) (fun _ h=>h))
   refine zsa 0 ?_
   refine zsa 1 ?_
   refine b5 (rs:=[2]) (by kernel_rfl) rfl (AllB.cons ?_ AllB.nil)
   refine i1 [0,1,2,3,4,5,6,7,8,9,10,11,12,13,14,16,17,18,19,20,21] rfl rfl (b6 rfl rfl (f6 rfl (ArgsOK.of rfl) (y7 ir (by omega) (by omega)) rfl) (b4 ⟨rfl,?_⟩))
   refine b5 (rs:=[3]) (by kernel_rfl) rfl (AllB.cons ?_ AllB.nil)
   refine i1 [0,1,2,3,4,5,6,7,8,9,10,11,12,13,14,16,17,18,19,20,21] rfl rfl ?_
   refine zgo ?_
   refine ⟨rfl,?_⟩
   refine zsa 4 ?_
   refine l6 (by kernel_rfl) ?_
   refine znk ?_
   refine c6 ⟨.inr rfl,_,rfl,rfl,?_⟩
   have hE2:D2 m s=(m1,if ir=-1 then okB else t7 ir):=hE.trans (if_pos h301)
   first | rw [if_neg ((hiq h301).mpr (by omega))] at hE2 | rw [if_pos (Decidable.byContradiction fun g=>absurd ((hiq h301).mp g) (by omega))] at hE2
   have hO:=F2 h1 h2 h3 hE2
   refine zgo ?_
   refine c6 ⟨.inr rfl,_,rfl,rfl,?_⟩
   refine b4 ⟨rfl,?_⟩
   refine zsa 8 ?_
   refine zsa 9 ?_
   refine b5 (rs:=[10]) (by kernel_rfl) rfl (AllB.cons ?_ AllB.nil)
   refine i1 [0,1,2,3,4,5,6,7,9,10] rfl rfl ?_
   refine zgo ?_
   refine ⟨rfl,?_⟩
   refine zsa 11 ?_
   refine l6 (by kernel_rfl) ?_
   refine znk ?_
   refine c6 ⟨.inr rfl,_,rfl,rfl,?_⟩
   refine zgo ?_
   refine a8 rfl ?_
   refine d8 G 23 rfl rfl rfl rfl rfl ?_
   refine zgo ?_
   refine a8 rfl ?_
   refine d7 27 rfl rfl rfl (ArgsOK.of rfl) (o8 _ x (by first | assumption | exact hsm (by assumption)) hx) rfl rfl ?_
   refine zgo ?_
   refine a8 rfl ?_
   refine b6 rfl rfl (j9 G rfl rfl rfl) ?_
   refine zcd (fun h315=>?_) (fun h315=>?_)
   ·try rw [A8 (by omega)] at hO
    refine zgo ?_
    refine a8 rfl ?_
    refine b6 rfl rfl (f6 rfl (ArgsOK.of rfl) (d5 x ⟨s,_⟩ hx ⟨by show s.size≤_;omega,by first | exact j5 (by decide) | exact i6 (by omega) | exact i6 (Int.ofNat_le.1 hrs)⟩) rfl) ?_
    refine zgo ?_
    refine c6 (d9 rfl rfl rfl rfl (a7 (b7 rfl ?_) (a7 (b7 rfl ?_) (a7 (b7 rfl ?_) (a7 (n7 rfl ?_) (a7 (c1 ?_) (a7 (c1 ?_) (a7 (c1 ?_) (a7 (c1 ?_) b9)))))))))
    all_goals (first | (rw [hO];done) | (rw [hO];rfl))
   try rw [A9 (by omega)] at hO
   have hrs:=h315
   refine zgo ?_
   refine a8 rfl ?_
   refine b6 rfl rfl (f6 rfl (ArgsOK.of rfl) (d5 x ⟨s,_⟩ hx ⟨by show s.size≤_;omega,by first | exact j5 (by decide) | exact i6 (by omega) | exact i6 (Int.ofNat_le.1 hrs)⟩) rfl) ?_
   refine zgo ?_
   refine c6 (d9 rfl rfl rfl rfl (a7 (b7 rfl ?_) (a7 (b7 rfl ?_) (a7 (b7 rfl ?_) (a7 (n7 rfl ?_) (a7 (c1 ?_) (a7 (c1 ?_) (a7 (c1 ?_) (a7 (c1 ?_) b9)))))))))
   all_goals (first | (rw [hO];done) | (rw [hO];rfl))
  have k204:¬ m3 (wrd s 0)=6:=mt b0U.mpr h204
  refine zgo ?_
  refine a8 rfl ?_
  refine b6 rfl rfl (z7 rfl rfl rfl rfl) ?_
  refine zcd (fun h205=>?_) (fun h205=>?_)
  ·have k205:m3 (wrd s 0)=7:=b0V.mp h205
   have hE:D2 m s=N2 m ⟨4,0,(C7 s ((j2 s 32).length - 1)).getD ((0:Int)).toNat default,0⟩:=c3H hw hNK k205
   have hir:=@a3u m ⟨4,0,(C7 s ((j2 s 32).length - 1)).getD ((0:Int)).toNat default,0⟩
   have hsm:=@T3 m ⟨4,0,(C7 s ((j2 s 32).length - 1)).getD ((0:Int)).toNat default,0⟩
   have hiq:=@a4N m ⟨4,0,(C7 s ((j2 s 32).length - 1)).getD ((0:Int)).toNat default,0⟩
   have cS:=z6 m 4 0 ((C7 s ((j2 s 32).length - 1)).getD ((0:Int)).toNat default) 0 hs
   unfold N2 at hE
   generalize smT m ⟨4,0,(C7 s ((j2 s 32).length - 1)).getD ((0:Int)).toNat default,0⟩=sr at cS hE hir hsm hiq
   obtain ⟨m1,ir,ok⟩:=sr
   dsimp only at cS hE hir hsm hiq
   refine zgo ?_
   refine a8 rfl ?_
   refine U8 (n:=31) G rfl rfl rfl Tryz.func60 rfl (by kernel_rfl) rfl rfl rfl rfl ?_
   intro b hen hpin
   refine zgo ?_
   refine a8 rfl ?_
   refine B0 14 rfl rfl rfl rfl rfl rfl rfl ?_
   refine a8 rfl ?_
   refine B0 15 rfl rfl rfl rfl rfl rfl rfl ?_
   refine a8 rfl ?_
   refine d8 G 16 rfl rfl rfl rfl rfl ?_
   refine zgo ?_
   refine a8 rfl ?_
   refine d7 20 rfl rfl rfl (ArgsOK.of rfl) cS rfl rfl ?_
   refine zgo ?_
   refine a8 rfl ?_
   refine d8 G 21 rfl rfl rfl rfl rfl ?_
   refine zcd (fun h301=>?_) (fun h301=>?_)
   ·refine zgo ?_
    refine c6 ⟨.inr rfl,_,rfl,rfl,?_⟩
    have hE2:D2 m s=(m,qmB):=hE.trans (if_neg (by simp [h301]))
    have hO:=F2 h1 h2 h3 hE2
    refine zgo ?_
    refine c6 ⟨.inr rfl,_,rfl,rfl,?_⟩
    refine b4 ⟨rfl,?_⟩
    refine zsa 8 ?_
    refine zsa 9 ?_
    refine b5 (rs:=[10]) (by kernel_rfl) rfl (AllB.cons ?_ AllB.nil)
    refine i1 [0,1,2,3,4,5,6,7,9,10] rfl rfl ?_
    refine zgo ?_
    refine ⟨rfl,?_⟩
    refine zsa 11 ?_
    refine l6 (by kernel_rfl) ?_
    refine znk ?_
    refine c6 ⟨.inr rfl,_,rfl,rfl,?_⟩
    refine zgo ?_
    refine a8 rfl ?_
    refine d8 G 22 rfl rfl rfl rfl rfl ?_
    refine zgo ?_
    refine a8 rfl ?_
    refine d7 26 rfl rfl rfl (ArgsOK.of rfl) (o8 _ x (by first | assumption | exact hsm (by assumption)) hx) rfl rfl ?_
    refine zgo ?_
    refine a8 rfl ?_
    refine b6 rfl rfl (j9 G rfl rfl rfl) ?_
    refine zcd (fun h316=>?_) (fun h316=>?_)
    ·try rw [A8 (by omega)] at hO
     refine zgo ?_
     refine a8 rfl ?_
     refine b6 rfl rfl (f6 rfl (ArgsOK.of rfl) (d5 x ⟨s,_⟩ hx ⟨by show s.size≤_;omega,by first | exact j5 (by decide) | exact i6 (by omega) | exact i6 (Int.ofNat_le.1 hrs)⟩) rfl) ?_
     refine zgo ?_
     refine c6 (d9 rfl rfl rfl rfl (a7 (b7 rfl ?_) (a7 (b7 rfl ?_) (a7 (b7 rfl ?_) (a7 (n7 rfl ?_) (a7 (c1 ?_) (a7 (c1 ?_) (a7 (c1 ?_) (a7 (c1 ?_) b9)))))))))
     all_goals (first | (rw [hO];done) | (rw [hO];rfl))
    try rw [A9 (by omega)] at hO
    have hrs:=h316
    refine zgo ?_
    refine a8 rfl ?_
    refine b6 rfl rfl (f6 rfl (ArgsOK.of rfl) (d5 x ⟨s,_⟩ hx ⟨by show s.size≤_;omega,by first | exact j5 (by decide) | exact i6 (by omega) | exact i6 (Int.ofNat_le.1 hrs)⟩) rfl) ?_
    refine zgo ?_
    refine c6 (d9 rfl rfl rfl rfl (a7 (b7 rfl ?_) (a7 (b7 rfl ?_) (a7 (b7 rfl ?_) (a7 (n7 rfl ?_) (a7 (c1 ?_) (a7 (c1 ?_) (a7 (c1 ?_) (a7 (c1 ?_) b9)))))))))
    all_goals (first | (rw [hO];done) | (rw [hO];rfl))
   refine zgo ?_
   refine a8 rfl ?_
   refine d8 G 22 rfl rfl rfl rfl rfl ?_
   refine zwt ?_
   refine u4 (l4 5 [0,1,2,3,4,5,6,7,8,9,10,11,12,13,14,16,17,18,19,20,21] mixed (by kernel_rfl) rfl rfl (fun r0=>?_) (fun _ h=>h))
   refine zsa 0 ?_
   refine zsa 1 ?_
   refine b5 (rs:=[2]) (by kernel_rfl) rfl (AllB.cons ?_ AllB.nil)
   refine i1 [0,1,2,3,4,5,6,7,8,9,10,11,12,13,14,16,17,18,19,20,21] rfl rfl (b6 rfl rfl (f6 rfl (ArgsOK.of rfl) (y7 ir (by omega) (by omega)) rfl) (b4 ⟨rfl,?_⟩))
   refine b5 (rs:=[3]) (by kernel_rfl) rfl (AllB.cons ?_ AllB.nil)
   refine i1 [0,1,2,3,4,5,6,7,8,9,10,11,12,13,14,16,17,18,19,20,21] rfl rfl ?_
   refine zgo ?_
   refine ⟨rfl,?_⟩
   refine zsa 4 ?_
   refine l6 (by kernel_rfl) ?_
   refine znk ?_
   refine c6 ⟨.inr rfl,_,rfl,rfl,?_⟩
   have hE2:D2 m s=(m1,if ir=-1 then okB else t7 ir):=hE.trans (if_pos h301)
   first | rw [if_neg ((hiq h301).mpr (by omega))] at hE2 | rw [if_pos (Decidable.byContradiction fun g=>absurd ((hiq h301).mp g) (by omega))] at hE2
   have hO:=F2 h1 h2 h3 hE2
   refine zgo ?_
   refine c6 ⟨.inr rfl,_,rfl,rfl,?_⟩
   refine b4 ⟨rfl,?_⟩
   refine zsa 8 ?_
   refine zsa 9 ?_
   refine b5 (rs:=[10]) (by kernel_rfl) rfl (AllB.cons ?_ AllB.nil)
   refine i1 [0,1,2,3,4,5,6,7,9,10] rfl rfl ?_
   refine zgo ?_
   refine ⟨rfl,?_⟩
   refine zsa 11 ?_
   refine l6 (by kernel_rfl) ?_
   refine znk ?_
   refine c6 ⟨.inr rfl,_,rfl,rfl,?_⟩
   refine zgo ?_
   refine a8 rfl ?_
   refine d8 G 23 rfl rfl rfl rfl rfl ?_
   refine zgo ?_
   refine a8 rfl ?_
   refine d7 27 rfl rfl rfl (ArgsOK.of rfl) (o8 _ x (by first | assumption | exact hsm (by assumption)) hx) rfl rfl ?_
   refine zgo ?_
   refine a8 rfl ?_
   refine b6 rfl rfl (j9 G rfl rfl rfl) ?_
   refine zcd (fun h317=>?_) (fun h317=>?_)
   ·try rw [A8 (by omega)] at hO
    refine zgo ?_
    refine a8 rfl ?_
    refine b6 rfl rfl (f6 rfl (ArgsOK.of rfl) (d5 x ⟨s,_⟩ hx ⟨by show s.size≤_;omega,by first | exact j5 (by decide) | exact i6 (by omega) | exact i6 (Int.ofNat_le.1 hrs)⟩) rfl) ?_
    refine zgo ?_
    refine c6 (d9 rfl rfl rfl rfl (a7 (b7 rfl ?_) (a7 (b7 rfl ?_) (a7 (b7 rfl ?_) (a7 (n7 rfl ?_) (a7 (c1 ?_) (a7 (c1 ?_) (a7 (c1 ?_) (a7 (c1 ?_) b9)))))))))
    all_goals (first | (rw [hO];done) | (rw [hO];rfl))
   try rw [A9 (by omega)] at hO
   have hrs:=h317
   refine zgo ?_
   refine a8 rfl ?_
   refine b6 rfl rfl (f6 rfl (ArgsOK.of rfl) (d5 x ⟨s,_⟩ hx ⟨by show s.size≤_;omega,by first | exact j5 (by decide) | exact i6 (by omega) | exact i6 (Int.ofNat_le.1 hrs)⟩) rfl) ?_
   refine zgo ?_
   refine c6 (d9 rfl rfl rfl rfl (a7 (b7 rfl ?_) (a7 (b7 rfl ?_) (a7 (b7 rfl ?_) (a7 (n7 rfl ?_) (a7 (c1 ?_) (a7 (c1 ?_) (a7 (c1 ?_) (a7 (c1 ?_) b9)))))))))
   all_goals (first | (rw [hO];done) | (rw [hO];rfl))
  have k205:¬ m3 (wrd s 0)=7:=mt b0V.mpr h205
  refine zgn ?_
  refine u4 (l4 8 [0,1,2,3,4,5,6,7,8,9,10,11] mixed (by kernel_rfl) rfl rfl (fun r0=>?_) (fun _ h=>h))
  refine zsa 0 ?_
  refine zsa 1 ?_
  refine zsa 2 ?_
  refine zsa 3 ?_
  refine zsa 4 ?_
  refine b5 (rs:=[5]) (by kernel_rfl) rfl (AllB.cons ?_ AllB.nil)
  refine i1 [0,1,2,3,4,5,6,7,8,9,10,11] rfl rfl (b6 rfl rfl (f6 rfl (ArgsOK.of rfl) (a9V m (wrd s 0) ((C7 s ((j2 s 32).length - 1)).getD ((0:Int)).toNat default) hs hM) rfl) (b4 ⟨rfl,?_⟩))
  refine b5 (rs:=[6]) (by kernel_rfl) rfl (AllB.cons ?_ AllB.nil)
  refine i1 [0,1,2,3,4,5,6,7,8,9,10,11] rfl rfl ?_
  refine zgo ?_
  refine ⟨rfl,?_⟩
  refine zsa 7 ?_
  refine l6 (by kernel_rfl) ?_
  refine znk ?_
  refine c6 ⟨.inr rfl,_,rfl,rfl,?_⟩
  have hE2:D2 m s=(m,a3v m (m3 (wrd s 0)) ((C7 s ((j2 s 32).length - 1)).getD ((0:Int)).toNat default)):=c3I hw hNK k201 k202 k203 k204 k205
  have hO:=F2 h1 h2 h3 hE2
  refine b4 ⟨rfl,?_⟩
  refine zsa 8 ?_
  refine zsa 9 ?_
  refine b5 (rs:=[10]) (by kernel_rfl) rfl (AllB.cons ?_ AllB.nil)
  refine i1 [0,1,2,3,4,5,6,7,9,10] rfl rfl ?_
  refine zgo ?_
  refine ⟨rfl,?_⟩
  refine zsa 11 ?_
  refine l6 (by kernel_rfl) ?_
  refine znk ?_
  refine c6 ⟨.inr rfl,_,rfl,rfl,?_⟩
  refine zgo ?_
  refine a8 rfl ?_
  refine d8 G 14 rfl rfl rfl rfl rfl ?_
  refine zgo ?_
  refine a8 rfl ?_
  refine d7 18 rfl rfl rfl (ArgsOK.of rfl) (o8 _ x (by first | assumption | exact hsm (by assumption)) hx) rfl rfl ?_
  refine zgo ?_
  refine a8 rfl ?_
  refine b6 rfl rfl (j9 G rfl rfl rfl) ?_
  refine zcd (fun h318=>?_) (fun h318=>?_)
  ·try rw [A8 (by omega)] at hO
   refine zgo ?_
   refine a8 rfl ?_
   refine b6 rfl rfl (f6 rfl (ArgsOK.of rfl) (d5 x ⟨s,_⟩ hx ⟨by show s.size≤_;omega,by first | exact j5 (by decide) | exact i6 (by omega) | exact i6 (Int.ofNat_le.1 hrs)⟩) rfl) ?_
   refine zgo ?_
   refine c6 (d9 rfl rfl rfl rfl (a7 (b7 rfl ?_) (a7 (b7 rfl ?_) (a7 (b7 rfl ?_) (a7 (n7 rfl ?_) (a7 (c1 ?_) (a7 (c1 ?_) (a7 (c1 ?_) (a7 (c1 ?_) b9)))))))))
   all_goals (first | (rw [hO];done) | (rw [hO];rfl))
  try rw [A9 (by omega)] at hO
  have hrs:=h318
  refine zgo ?_
  refine a8 rfl ?_
  refine b6 rfl rfl (f6 rfl (ArgsOK.of rfl) (d5 x ⟨s,_⟩ hx ⟨by show s.size≤_;omega,by first | exact j5 (by decide) | exact i6 (by omega) | exact i6 (Int.ofNat_le.1 hrs)⟩) rfl) ?_
  refine zgo ?_
  refine c6 (d9 rfl rfl rfl rfl (a7 (b7 rfl ?_) (a7 (b7 rfl ?_) (a7 (b7 rfl ?_) (a7 (n7 rfl ?_) (a7 (c1 ?_) (a7 (c1 ?_) (a7 (c1 ?_) (a7 (c1 ?_) b9)))))))))
  all_goals (first | (rw [hO];done) | (rw [hO];rfl))
 refine zcd (fun h105=>?_) (fun h105=>?_)
 ·have hw:wn s=3:=(by show (j2 s 32).length=3;omega)
  refine zgo ?_
  refine a8 rfl ?_
  first | refine b6 rfl rfl (b8 G rfl rfl rfl rfl rfl (by omega) (by rw [List.length_map];omega)) ?_ | refine b6 rfl rfl (b8 G rfl rfl rfl rfl rfl (by omega) (by omega)) ?_
  refine a8 rfl ?_
  first | refine b6 rfl rfl (j6 G rfl rfl rfl rfl rfl (b6i (by omega)) rfl) ?_ | refine b6 rfl rfl (j6 G rfl rfl rfl rfl rfl (B4 (by omega) (by omega)) rfl) ?_
  refine a8 rfl ?_
  refine b6 rfl rfl (z7 rfl rfl rfl rfl) ?_
  refine zcd (fun h106=>?_) (fun h106=>?_)
  ·have k106:m3 (wrd s 0)=12:=a61.mp h106
   have hE:D2 m s=N2 m ⟨5,0,(C7 s ((j2 s 32).length - 1)).getD ((0:Int)).toNat default,(C7 s ((j2 s 32).length - 1)).getD ((1:Int)).toNat default⟩:=c2r hw hNK k106
   have hir:=@a3u m ⟨5,0,(C7 s ((j2 s 32).length - 1)).getD ((0:Int)).toNat default,(C7 s ((j2 s 32).length - 1)).getD ((1:Int)).toNat default⟩
   have hsm:=@T3 m ⟨5,0,(C7 s ((j2 s 32).length - 1)).getD ((0:Int)).toNat default,(C7 s ((j2 s 32).length - 1)).getD ((1:Int)).toNat default⟩
   have hiq:=@a4N m ⟨5,0,(C7 s ((j2 s 32).length - 1)).getD ((0:Int)).toNat default,(C7 s ((j2 s 32).length - 1)).getD ((1:Int)).toNat default⟩
   have cS:=z6 m 5 0 ((C7 s ((j2 s 32).length - 1)).getD ((0:Int)).toNat default) ((C7 s ((j2 s 32).length - 1)).getD ((1:Int)).toNat default) hs
   unfold N2 at hE
   generalize smT m ⟨5,0,(C7 s ((j2 s 32).length - 1)).getD ((0:Int)).toNat default,(C7 s ((j2 s 32).length - 1)).getD ((1:Int)).toNat default⟩=sr at cS hE hir hsm hiq
   obtain ⟨m1,ir,ok⟩:=sr
   dsimp only at cS hE hir hsm hiq
   refine u4 (l4 13 [0,1,2,3,4,5,6,7,9,10] mixed (by kernel_rfl) rfl rfl (fun r0=>?_) (fun _ h=>h))
   refine zsa 0 ?_
   refine zsa 1 ?_
   first | refine e9 2 rfl (by kernel_rfl) (by kernel_rfl) rfl rfl rfl rfl (b8 G rfl rfl rfl rfl rfl (by omega) (by rw [List.length_map];omega)) ?_ | refine e9 2 rfl (by kernel_rfl) (by kernel_rfl) rfl rfl rfl rfl (b8 G rfl rfl rfl rfl rfl (by omega) (by omega)) ?_
   first | refine e9 3 rfl (by kernel_rfl) (by kernel_rfl) rfl rfl rfl rfl (j6 G rfl rfl rfl rfl rfl (b6i (by omega)) rfl) ?_ | refine e9 3 rfl (by kernel_rfl) (by kernel_rfl) rfl rfl rfl rfl (j6 G rfl rfl rfl rfl rfl (B4 (by omega) (by omega)) rfl) ?_
   refine zsa 4 ?_
   first | refine e9 5 rfl (by kernel_rfl) (by kernel_rfl) rfl rfl rfl rfl (b8 G rfl rfl rfl rfl rfl (by omega) (by rw [List.length_map];omega)) ?_ | refine e9 5 rfl (by kernel_rfl) (by kernel_rfl) rfl rfl rfl rfl (b8 G rfl rfl rfl rfl rfl (by omega) (by omega)) ?_
   first | refine e9 6 rfl (by kernel_rfl) (by kernel_rfl) rfl rfl rfl rfl (j6 G rfl rfl rfl rfl rfl (b6i (by omega)) rfl) ?_ | refine e9 6 rfl (by kernel_rfl) (by kernel_rfl) rfl rfl rfl rfl (j6 G rfl rfl rfl rfl rfl (B4 (by omega) (by omega)) rfl) ?_
   refine zsa 7 ?_
   refine b5 (rs:=[8]) (by kernel_rfl) rfl (AllB.cons ?_ AllB.nil)
   refine i1 [0,1,2,3,4,5,6,7,9,10] rfl rfl ?_
   refine U8 (n:=31) G rfl rfl rfl Tryz.func60 rfl (by kernel_rfl) rfl rfl rfl rfl ?_
   intro b hen hpin
   refine zgo ?_
   refine a8 rfl ?_
   refine B0 12 rfl rfl rfl rfl rfl rfl rfl ?_
   refine a8 rfl ?_
   refine B0 13 rfl rfl rfl rfl rfl rfl rfl ?_
   refine a8 rfl ?_
   refine d8 G 14 rfl rfl rfl rfl rfl ?_
   refine zgo ?_
   refine a8 rfl ?_
   refine d7 18 rfl rfl rfl (ArgsOK.of rfl) cS rfl rfl ?_
   refine zgo ?_
   refine a8 rfl ?_
   refine d8 G 19 rfl rfl rfl rfl rfl ?_
   refine zcd (fun h301=>?_) (fun h301=>?_)
   ·refine zgo ?_
    refine c6 ⟨.inr rfl,_,rfl,rfl,?_⟩
    have hE2:D2 m s=(m,qmB):=hE.trans (if_neg (by simp [h301]))
    have hO:=F2 h1 h2 h3 hE2
    refine b4 ⟨rfl,?_⟩
    refine zsa 9 ?_
    refine zsa 10 ?_
    refine b5 (rs:=[11]) (by kernel_rfl) rfl (AllB.cons ?_ AllB.nil)
    refine i1 [0,1,2,3,4,5,6,7,9,10] rfl rfl ?_
    refine zgo ?_
    refine ⟨rfl,?_⟩
    refine zsa 12 ?_
    refine l6 (by kernel_rfl) ?_
    refine znk ?_
    refine c6 ⟨.inr rfl,_,rfl,rfl,?_⟩
    refine zgo ?_
    refine a8 rfl ?_
    refine d8 G 20 rfl rfl rfl rfl rfl ?_
    refine zgo ?_
    refine a8 rfl ?_
    refine d7 24 rfl rfl rfl (ArgsOK.of rfl) (o8 _ x (by first | assumption | exact hsm (by assumption)) hx) rfl rfl ?_
    refine zgo ?_
    refine a8 rfl ?_
    refine b6 rfl rfl (j9 G rfl rfl rfl) ?_
    refine zcd (fun h319=>?_) (fun h319=>?_)
    ·try rw [A8 (by omega)] at hO
     refine zgo ?_
     refine a8 rfl ?_
     refine b6 rfl rfl (f6 rfl (ArgsOK.of rfl) (d5 x ⟨s,_⟩ hx ⟨by show s.size≤_;omega,by first | exact j5 (by decide) | exact i6 (by omega) | exact i6 (Int.ofNat_le.1 hrs)⟩) rfl) ?_
     refine zgo ?_
     refine c6 (d9 rfl rfl rfl rfl (a7 (b7 rfl ?_) (a7 (b7 rfl ?_) (a7 (b7 rfl ?_) (a7 (n7 rfl ?_) (a7 (c1 ?_) (a7 (c1 ?_) (a7 (c1 ?_) (a7 (c1 ?_) b9)))))))))
     all_goals (first | (rw [hO];done) | (rw [hO];rfl))
    try rw [A9 (by omega)] at hO
    have hrs:=h319
    refine zgo ?_
    refine a8 rfl ?_
    refine b6 rfl rfl (f6 rfl (ArgsOK.of rfl) (d5 x ⟨s,_⟩ hx ⟨by show s.size≤_;omega,by first | exact j5 (by decide) | exact i6 (by omega) | exact i6 (Int.ofNat_le.1 hrs)⟩) rfl) ?_
    refine zgo ?_
    refine c6 (d9 rfl rfl rfl rfl (a7 (b7 rfl ?_) (a7 (b7 rfl ?_) (a7 (b7 rfl ?_) (a7 (n7 rfl ?_) (a7 (c1 ?_) (a7 (c1 ?_) (a7 (c1 ?_) (a7 (c1 ?_) b9)))))))))
    all_goals (first | (rw [hO];done) | (rw [hO];rfl))
   refine zgo ?_
   refine a8 rfl ?_
   refine d8 G 20 rfl rfl rfl rfl rfl ?_
   refine zwf ?_
   refine zgo ?_
   refine c6 ⟨.inr rfl,_,rfl,rfl,?_⟩
   have hE2:D2 m s=(m1,if ir=-1 then okB else t7 ir):=hE.trans (if_pos h301)
   first | rw [if_neg ((hiq h301).mpr (by omega))] at hE2 | rw [if_pos (Decidable.byContradiction fun g=>absurd ((hiq h301).mp g) (by omega))] at hE2
   have hO:=F2 h1 h2 h3 hE2
   refine b4 ⟨rfl,?_⟩
   refine zsa 9 ?_
   refine zsa 10 ?_
   refine b5 (rs:=[11]) (by kernel_rfl) rfl (AllB.cons ?_ AllB.nil)
   refine i1 [0,1,2,3,4,5,6,7,9,10] rfl rfl ?_
   refine zgo ?_
   refine ⟨rfl,?_⟩
   refine zsa 12 ?_
   refine l6 (by kernel_rfl) ?_
   refine znk ?_
   refine c6 ⟨.inr rfl,_,rfl,rfl,?_⟩
   refine zgo ?_
   refine a8 rfl ?_
   refine d8 G 21 rfl rfl rfl rfl rfl ?_
   refine zgo ?_
   refine a8 rfl ?_
   refine d7 25 rfl rfl rfl (ArgsOK.of rfl) (o8 _ x (by first | assumption | exact hsm (by assumption)) hx) rfl rfl ?_
   refine zgo ?_
   refine a8 rfl ?_
   refine b6 rfl rfl (j9 G rfl rfl rfl) ?_
   refine zcd (fun h320=>?_) (fun h320=>?_)
   ·try rw [A8 (by omega)] at hO
    refine zgo ?_
    refine a8 rfl ?_
    refine b6 rfl rfl (f6 rfl (ArgsOK.of rfl) (d5 x ⟨s,_⟩ hx ⟨by show s.size≤_;omega,by first | exact j5 (by decide) | exact i6 (by omega) | exact i6 (Int.ofNat_le.1 hrs)⟩) rfl) ?_
    refine zgo ?_
    refine c6 (d9 rfl rfl rfl rfl (a7 (b7 rfl ?_) (a7 (b7 rfl ?_) (a7 (b7 rfl ?_) (a7 (n7 rfl ?_) (a7 (c1 ?_) (a7 (c1 ?_) (a7 (c1 ?_) (a7 (c1 ?_) b9)))))))))
    all_goals (first | (rw [hO];done) | (rw [hO];rfl))
   try rw [A9 (by omega)] at hO
   have hrs:=h320
   refine zgo ?_
   refine a8 rfl ?_
   refine b6 rfl rfl (f6 rfl (ArgsOK.of rfl) (d5 x ⟨s,_⟩ hx ⟨by show s.size≤_;omega,by first | exact j5 (by decide) | exact i6 (by omega) | exact i6 (Int.ofNat_le.1 hrs)⟩) rfl) ?_
   refine zgo ?_
   refine c6 (d9 rfl rfl rfl rfl (a7 (b7 rfl ?_) (a7 (b7 rfl ?_) (a7 (b7 rfl ?_) (a7 (n7 rfl ?_) (a7 (c1 ?_) (a7 (c1 ?_) (a7 (c1 ?_) (a7 (c1 ?_) b9)))))))))
   all_goals (first | (rw [hO];done) | (rw [hO];rfl))
  have hO:=F2 h1 h2 h3 (c3J hw (mt a61.mpr h106))
  refine zgo ?_
  refine c6 ⟨.inr rfl,_,rfl,rfl,?_⟩
  refine zgo ?_
  refine a8 rfl ?_
  refine d8 G 12 rfl rfl rfl rfl rfl ?_
  refine zgo ?_
  refine a8 rfl ?_
  refine d7 16 rfl rfl rfl (ArgsOK.of rfl) (o8 _ x (by first | assumption | exact hsm (by assumption)) hx) rfl rfl ?_
  refine zgo ?_
  refine a8 rfl ?_
  refine b6 rfl rfl (j9 G rfl rfl rfl) ?_
  refine zcd (fun h321=>?_) (fun h321=>?_)
  ·try rw [A8 (by omega)] at hO
   refine zgo ?_
   refine a8 rfl ?_
   refine b6 rfl rfl (f6 rfl (ArgsOK.of rfl) (d5 x ⟨s,_⟩ hx ⟨by show s.size≤_;omega,by first | exact j5 (by decide) | exact i6 (by omega) | exact i6 (Int.ofNat_le.1 hrs)⟩) rfl) ?_
   refine zgo ?_
   refine c6 (d9 rfl rfl rfl rfl (a7 (b7 rfl ?_) (a7 (b7 rfl ?_) (a7 (b7 rfl ?_) (a7 (n7 rfl ?_) (a7 (c1 ?_) (a7 (c1 ?_) (a7 (c1 ?_) (a7 (c1 ?_) b9)))))))))
   all_goals (first | (rw [hO];done) | (rw [hO];rfl))
  try rw [A9 (by omega)] at hO
  have hrs:=h321
  refine zgo ?_
  refine a8 rfl ?_
  refine b6 rfl rfl (f6 rfl (ArgsOK.of rfl) (d5 x ⟨s,_⟩ hx ⟨by show s.size≤_;omega,by first | exact j5 (by decide) | exact i6 (by omega) | exact i6 (Int.ofNat_le.1 hrs)⟩) rfl) ?_
  refine zgo ?_
  refine c6 (d9 rfl rfl rfl rfl (a7 (b7 rfl ?_) (a7 (b7 rfl ?_) (a7 (b7 rfl ?_) (a7 (n7 rfl ?_) (a7 (c1 ?_) (a7 (c1 ?_) (a7 (c1 ?_) (a7 (c1 ?_) b9)))))))))
  all_goals (first | (rw [hO];done) | (rw [hO];rfl))
 have hO:=F2 h1 h2 h3 (ct3 (m:=m) (s:=s) (by show 4≤(j2 s 32).length;omega))
 refine zgo ?_
 refine c6 ⟨.inr rfl,_,rfl,rfl,?_⟩
 refine zgo ?_
 refine a8 rfl ?_
 refine d8 G 12 rfl rfl rfl rfl rfl ?_
 refine zgo ?_
 refine a8 rfl ?_
 refine d7 16 rfl rfl rfl (ArgsOK.of rfl) (o8 _ x (by first | assumption | exact hsm (by assumption)) hx) rfl rfl ?_
 refine zgo ?_
 refine a8 rfl ?_
 refine b6 rfl rfl (j9 G rfl rfl rfl) ?_
 refine zcd (fun h322=>?_) (fun h322=>?_)
 ·try rw [A8 (by omega)] at hO
  refine zgo ?_
  refine a8 rfl ?_
  refine b6 rfl rfl (f6 rfl (ArgsOK.of rfl) (d5 x ⟨s,_⟩ hx ⟨by show s.size≤_;omega,by first | exact j5 (by decide) | exact i6 (by omega) | exact i6 (Int.ofNat_le.1 hrs)⟩) rfl) ?_
  refine zgo ?_
  refine c6 (d9 rfl rfl rfl rfl (a7 (b7 rfl ?_) (a7 (b7 rfl ?_) (a7 (b7 rfl ?_) (a7 (n7 rfl ?_) (a7 (c1 ?_) (a7 (c1 ?_) (a7 (c1 ?_) (a7 (c1 ?_) b9)))))))))
  all_goals (first | (rw [hO];done) | (rw [hO];rfl))
 try rw [A9 (by omega)] at hO
 have hrs:=h322
 refine zgo ?_
 refine a8 rfl ?_
 refine b6 rfl rfl (f6 rfl (ArgsOK.of rfl) (d5 x ⟨s,_⟩ hx ⟨by show s.size≤_;omega,by first | exact j5 (by decide) | exact i6 (by omega) | exact i6 (Int.ofNat_le.1 hrs)⟩) rfl) ?_
 refine zgo ?_
 refine c6 (d9 rfl rfl rfl rfl (a7 (b7 rfl ?_) (a7 (b7 rfl ?_) (a7 (b7 rfl ?_) (a7 (n7 rfl ?_) (a7 (c1 ?_) (a7 (c1 ?_) (a7 (c1 ?_) (a7 (c1 ?_) b9)))))))))
 all_goals (first | (rw [hO];done) | (rw [hO];rfl))
end Go.Proofs.YtpfhomblkgmkkaaGreatDoor
