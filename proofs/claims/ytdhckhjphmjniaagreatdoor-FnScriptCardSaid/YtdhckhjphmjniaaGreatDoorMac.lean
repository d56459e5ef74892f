/- Names for what is said again and again in walks. -/
import Derived.Test.YtdhckhjphmjniaaGreatDoorLibE
set_option linter.unusedSimpArgs false
set_option linter.unusedVariables false
namespace Go.Rf
variable {p q:Prop}
theorem b7z (h:p:=by (first | (rw [hS];done) | (rw [hS];(first | rfl | exact List.map_set.symm | (rw [T3];done) | exact c5W Z | (simp only [r6];done))))):p:=h
theorem b92 (h:p:=by (first | (rw [hO];done) | (rw [hO];rfl))):p:=h
theorem c6t (h:p:=by (first | (exact congrArg Value.bool (c5r j7).symm) | (exact congrArg Value.bool (c5s J).symm) | (exact congrArg Value.bool (b9a (k:=k) (c5u j7) J).symm) | (exact congrArg Value.bool (b9a (k:=k) (c5v j7) J).symm) | (exact congrArg Value.bool (c5t h1 J J hk.2 J).symm))):p:=h
theorem c6u (h:p:=by (first | (have e:a0L s=true:=a3i hinv.2 J;simp [e];done) | (have e:a0L s=false:=a1i (i:=i) (by simp only [a7X,Bool.and_eq_false_iff,decide_eq_false_iff_not,Bool.not_eq_false',beq_iff_eq];omega) J;simp [e];done))):p:=h
theorem c6v (h:p:=by (first | rfl | (unfold a2Q;rw [ho];done) | (unfold a2Q;rw [ho];rfl))):p:=h
theorem c6w (h:p:=by (first | rfl | (rw [List.take_length];done) | (rw [List.take_length];rfl) | simp)):p:=h
theorem c6x (h:p:=by (first | rfl | exact hc9.mono J | (dsimp only;rw [List.map_set];rfl) | (rw [List.map_append];rfl) | (show List.length _<=5;(try simp only [List.length_set,List.length_append,List.length_cons,List.length_nil]);omega))):p:=h
theorem c8q (h:p:=by (first | (exact congrArg Value.bool (b8x (q:=⟨sl,wa⟩) (i:=i) (b5U (λg=>by dsimp only at g;first | exact a0c j7 g.1 | exact a0c j7 g.2.1 | (have:=g.2.2.1;omega) | (have h9:=b40.mp (show 0<=P0 (λj=>decide ((wa.getD j default).q=(wa.getD i default).q)) i by omega);obtain ⟨j,hj,e⟩:=b0j.mp h9;exact g.2.2.2.1 j hj (of_decide_eq_true e)) | (rcases g.2.2.2.2 with g1 | g1<;>first | (exfalso;omega) | (rw [← ht J] at g1;first | (have:=a1N.mpr g1;omega) | (simp_all;done))) | exact g.2.2.2.1 _ J j7)) (show i < wa.length by omega)).symm) | (exact congrArg Value.bool (b8w (q:=⟨sl,wa⟩) j7).symm) | (exact congrArg Value.bool (b8z j7 hinv.2 J J)))):p:=h
theorem c8r (h:p:=by (first | (rw [S9 (i:=i) hinv.2 J j7];done) | (rw [a1k hinv.2 J];done))):p:=h
theorem c2V (h:p:=by (first | (exact congrArg Value.bool (b8w (q:=⟨sl,wa⟩) j7).symm) | (exact congrArg Value.bool (b8y (q:=⟨sl,wa⟩) j7 hinv.2 (show wa.length<=i by omega)).symm) | (exact congrArg Value.bool (b8x (q:=⟨sl,wa⟩) (i:=i) (b5U (λg=>by dsimp only at g;first | exact a0c j7 g.1 | exact a0c j7 g.2.1 | (have:=g.2.2.1;omega) | (have h9:=b40.mp (show 0<=P0 (λj=>decide ((wa.getD j default).q=(wa.getD i default).q)) i by omega);obtain ⟨j,hj,e⟩:=b0j.mp h9;exact g.2.2.2.1 j hj (of_decide_eq_true e)) | (rcases g.2.2.2.2 with g1 | g1<;>first | (exfalso;omega) | (rw [← ht J] at g1;first | (have:=a1N.mpr g1;omega) | (simp_all;done))) | exact g.2.2.2.1 _ J j7)) (show i < wa.length by omega)).symm))):p:=h
theorem c2W (h:p:=by (first | (exact congrArg Value.bool (b8u hinv.2 J)) | (rw [b45 J];done) | (exact congrArg Value.bool (b44 (i:=i) (b8t (λg=>by first | exact a0c j7 g.1 | exact a0c j7 g.2.1 | exact a0c j7 g.2.2)) J).symm) | (exact congrArg Value.bool (b44 (i:=i) (by first | exact c08 J J | exact c09 J J J) J).symm))):p:=h
theorem c2X (h:p:=by (first | (exact congrArg Value.bool (b45 J).symm) | (exact congrArg Value.bool (b8s J hinv.2 J).symm) | (exact congrArg Value.bool (b44 (i:=i) (by first | exact b8q j7 (λe=>c9y j7 (b0k.mp e)) | exact b8r j7 (b40.mp J) | exact b43 j7 (c5d j7) | exact b43 j7 (c5e j7) | exact b43 j7 (c5f j7)) J).symm))):p:=h
theorem c2Y (h:p:=by (first | (exact congrArg Value.bool (b9b h1).symm) | (exact congrArg Value.bool (b9c h2).symm) | (exact congrArg Value.bool (b0o (c1o (i:=i) J (λg=>b6c.mp h4 ((a7g 4).mpr g)))).symm) | (obtain ⟨k,hk,e⟩:=(b0q J).mp (b0p.mp h5);(exact congrArg Value.bool (b0o (b86 hSl hk J e)).symm)) | (exact congrArg Value.bool (b0o (b82 (i:=i) (c2y J b6B) J)).symm) | (have e:i=x.st.length:=J;subst e;rw [c5z h1 h2,hinv.2.fin hSl,c9A,a7h];done))):p:=h
theorem c2Z (h:p:=by (first | (exact congrArg Value.bool (b89 hi.2 J hj.2 J).symm) | (exact congrArg Value.bool (b88 (i:=i) (b87.mpr (λg=>by first | exact g.1 j7 | (rcases g.2 with g2 | ⟨g2,g3⟩<;>first | (exact absurd g2 j7) | (exact absurd g3 j7)))) J).symm) | (exact congrArg Value.bool (c5q (i:=j) (c5p.mpr (λg=>by first | exact absurd g.1 j7 | exact absurd g.2 j7)) J).symm))):p:=h
theorem c22 (h:p:=by (first | rfl | (have e:i=xs.length:=J;subst e;simp;done) | (have ht1:((i:Int)+1).toNat=i+1:=J;first | (rw [show List.take ((((xs.map j9).length:Nat):Int).toNat - ((i:Nat):Int).toNat) (List.drop ((i:Nat):Int).toNat (xs.map j9))=List.drop i (xs.map j9) from List.take_of_length_le (by rw [List.length_drop,Int.toNat_natCast,Int.toNat_natCast];exact Nat.le_refl _)];simp only [Int.toNat_natCast,ht1,Int.toNat_zero,List.length_drop,List.length_cons,List.length_nil,Nat.zero_add,List.map_append,List.map_take,List.map_drop,List.map_cons,List.map_nil,Nat.sub_zero];exact b8c (by rw [List.length_map];exact hi) (by rw [List.length_replicate,List.length_map])) | (rw [show xs.length+1=(xs.map j9).length+1 from by rw [List.length_map]];simp only [Int.toNat_natCast,ht1,Int.toNat_zero,List.length_drop,List.length_cons,List.length_nil,Nat.zero_add,List.map_append,List.map_take,List.map_drop,List.map_cons,List.map_nil,Nat.sub_zero];exact b3L (by rw [List.length_map];exact hi) J)))):p:=h
theorem c23 (h:p:=by (first | (exact congrArg Value.bool (b9b h1).symm) | (exact congrArg Value.bool (b9c h2).symm) | (exact congrArg Value.bool (b0o (b2P h3)).symm) | (exact congrArg Value.bool (b0o (b82 (i:=i) (c2y J b6B) J)).symm) | (exact congrArg Value.bool (c5y h1 h2 (b83 h3 hinv.2 J)).symm))):p:=h
theorem c24 (h:p:=by (first | (rw [c00 (i:=i) J (by simp only [b4W];try rw [← ftn];omega)];done) | (rw [c01 (i:=i) J (by simp only [b4W];try rw [← ftn];omega)];done))):p:=h
theorem c25 (h:p:=by (first | (have e:a18 rs.length (λi=>b0e c (rs.getD i default))=false:=a1i (i:=i) (by simp_all [b0e]) J;simp only [okRts,e,Bool.and_false];done) | (have e:a18 rs.length (λi=>b0e c (rs.getD i default))=true:=a3i hinv.2 J;first | (simp only [okRts,e,h4,c9x,Bool.and_true,Bool.true_and,Bool.false_and];done)))):p:=h
theorem c26 (h:p:=by (first | rfl | (rw [b9r (i:=i) J j7 j7];done) | (rw [c5M (k:=k) hinv.2 J J (by first | exact b6k J | exact c1y J J)];done) | (rw [c5N hinv.2 J J hk.2];done))):p:=h
theorem c27 (h:p:=by (first | (rw [b8A (a5d.mpr J)];done) | (rw [b8A (a5d.mpr J)];rfl) | (rw [b5V (L9.mpr J)];done) | (rw [b5V (L9.mpr J)];rfl))):p:=h
theorem c28 (h:p:=by (first | (have e:l≠r:=λe=>(by (subst e;omega));simp [e];done) | (have e:l=r:=b4G J hinv.2 J;simp [e];done) | (have e:l≠r:=b3v (i:=i) (λe=>(by simp_all));simp [e];done))):p:=h
theorem c29 (h:p:=by (first | (rw [b5T J];done) | (rw [c0Z J (show i=8 by omega)];done))):p:=h
theorem c3a (h:p:=by ((rw [c1m hk.2 hk.1 (by first | exact .inl J | exact .inr ⟨by omega,by omega⟩),a2x,b0m];simp [Rf.r7];done))):p:=h
theorem c3b (h:p:=by (first | (have e:m4 s b=true:=S5 (i:=i) (by simp only [beq_iff_eq];omega) J;simp [e];done) | (have e:m4 s b=false:=a19 (i:=i) (λj hj=>by simpa using hinv.2 j hj) J;simp [e];done))):p:=h
theorem c3c (h:p:=by (first | (rw [b8o hinv.2 J j7];done) | (rw [c2t hinv.2 J];done))):p:=h
theorem c3d (h:p:=by (first | (rw [p7,S9 (i:=i) hinv.2 J (by simp_all [fdP])];done) | (rw [p7,a1k hinv.2 J];done))):p:=h
theorem c3e (h:p:=by (first | (rw [freS,S9 (i:=i) hinv.2 J (by simp_all [emP])];done) | (rw [freS,a1k hinv.2 J];done))):p:=h
theorem c3f (h:p:=by (first | (rw [inW,S9 (i:=i) hinv.2 J (decide_eq_true j7)];done) | (rw [inW,a1k hinv.2 J];done))):p:=h
theorem c3g (h:p:=by (first | (rw [a67 hinv.2 hinv.1 b93];done) | (rw [a67 hinv.2 hinv.1 b93];rfl))):p:=h
theorem c3h (h:p:=by (first | (rw [a67 hinv.2 hinv.1 b93,a2x,b0m];simp [j9];done))):p:=h
theorem c3i (h:p:=by (first | rfl | (rw [ht];done) | (rw [ht];rfl) | (rw [ht,ht2];done) | (rw [ht,ht2];rfl))):p:=h
theorem c3j (h:p:=by (first | rfl | (rw [ht];done) | (rw [ht];rfl) | (rw [ht,ht2];done) | (rw [ht,ht2];rfl) | (rw [ht,ht2];simp [a3z,Rf.r7];done))):p:=h
theorem c3k (h:p:=by (first | (rw [S9 (i:=i) hinv.2 J b94];done) | (rw [a1k hinv.2 J];done))):p:=h
theorem c3l (h:p:=by (simp only [b0g];first | (rw [S5 (i:=i) b94 J];done) | (rw [a19 hinv.2 J];done))):p:=h
theorem c3m (h:p:=by (first | rfl | exact hc11.mono J | (dsimp only;rw [List.map_set];rfl) | (rw [List.map_append];rfl) | (refine ⟨?_,?_⟩<;>(show List.length _<=_;(try simp only [List.length_set,List.length_append,List.length_cons,List.length_nil]);omega)))):p:=h
theorem c3n (h:p:=by (first | (rw [hM];done) | (rw [hM];rfl) | (rw [hM];simp [b3Z];done) | (rw [hM];simp [noM];done) | (rw [hM];have e:k=n:=J;subst e;first | done | rfl | (simp [b3Z];done)))):p:=h
theorem c3o (h:p:=by (first | rfl | exact hc8.mono J | (dsimp only;rw [List.map_set];rfl) | (rw [List.map_append];rfl) | exact hV.dr | exact hV.dr.setR | exact hV.dr.addA hV.ra | exact hV.dr.setC j7 | exact hV.dr.addC hV.n.2 j7 | (exact congrArg (λz=>Row.nest _ _ z []) a4x))):p:=h
theorem c3p (h:p:=by (first | (exact congrArg Value.bool (b88 (i:=i) (b87.mpr (λg=>g.1 J)) J).symm) | (exact congrArg Value.bool (c7I hinv.2)))):p:=h
theorem c3q (h:p:=by (first | rfl | (rw [b9r (i:=i) J j7 j7];done) | (rw [b5r hinv.2 J];done))):p:=h
theorem a8 (h:p:=by kernel_rfl):p:=h
theorem w4 (h:p:=by (try simp only [List.length_take,List.length_append,List.length_map,List.length_drop,List.length_cons,List.length_nil,List.length_replicate,Int.toNat_natCast]);omega):p:=h
theorem M8 (h:p:=by first | (simp only [List.length_map,List.length_cons,List.length_nil];omega) | (simp;omega)):p:=h
theorem E0 (h:p:=by show x1.1 - (z.1:Int) - 1=x1.1 - ((z.1+1:Nat):Int);omega):p:=h
theorem a5D (h:p:=by first | (simp;omega) | (simp only [a2x,b0m,List.length_append,List.length_map,List.length_take,List.length_drop,List.length_cons,List.length_nil];omega)):p:=h
theorem j7 (h:p:=by assumption):p:=h
theorem N0 (h:p:=by simp only [List.length_set,List.length_map];omega):p:=h
theorem a7y (h:p:=by first | exact List.Mem.head _ | exact List.Mem.tail _ (List.Mem.head _) | exact List.Mem.tail _ (List.Mem.tail _ (List.Mem.head _)) | simp):p:=h
theorem m7 (h:p:=by simp;omega):p:=h
theorem T5 (h:p:=by rw [hbn];exact Nat.le_of_ble_eq_true Z):p:=h
theorem A4 (h:p:=by rw [hpin];decide):p:=h
theorem a8T (h:p:=by rw [List.length_set,List.length_set,List.length_map,a4r J];omega):p:=h
theorem X9 (h:p:=by exact Nat.le_of_ble_eq_true Z):p:=h
theorem T6 (h:p:=by rw [List.length_map];omega):p:=h
theorem a5E (h:p:=by simp only [tgM,List.set_set];rw [List.map_set];rfl):p:=h
theorem a8U (h:p:=by rw [List.length_set,List.length_map,a4r J];omega):p:=h
theorem a0H (h:p:=by rw [List.nil_append,c7B]):p:=h
theorem a1X (h:p:=by first | assumption | omega):p:=h
theorem a8V (h:p:=by rw [List.length_map,a4r J];omega):p:=h
theorem b6C (h:p:=by (try simp only [ByteArray.size_append,i8,List.size_toArray,List.length_cons,List.length_nil]);omega):p:=h
theorem a5F (h:p:=by first | (simp;done) | (simp;omega)):p:=h
theorem b94 (h:p:=by first | exact decide_eq_true j7 | exact decide_eq_true (Eq.symm j7) | exact decide_eq_false j7 | exact decide_eq_false (Ne.symm j7)):p:=h
theorem b93 (h:p:=by first | exact .inl J | exact .inr ⟨by omega,by first | assumption | (rw [← Bool.not_eq_true,← a1N];omega)⟩):p:=h
theorem b17 (h:p:=by first | omega | (simp;done) | (simp;omega)):p:=h
theorem a4x (h:p:=by rw [List.map_set];rfl):p:=h
theorem c3r (h:p:=by simp only [List.length_take,List.length_append,List.length_map,List.length_drop,List.length_cons,List.length_nil,Int.toNat_natCast,Nat.min_def];(repeat' split)<;>omega):p:=h
theorem c3s (h:p:=by first | exact ArgsOK.of Z | exact ArgsOK.of (congrArg some (congrArg (λz=>[AV.lst 1 z,.v (.int .i64 (x.st.getD i default))]) (a2x (xs:=x.st) (i:=i))))):p:=h
theorem b95 (h:p:=by show x6.1 - (v.1:Int) - 1=x6.1 - ((v.1+1:Nat):Int);omega):p:=h
theorem c3t (h:p:=by first | (simp;omega) | (simp only [List.length_map,List.length_cons,List.length_nil,List.length_replicate];omega)):p:=h
theorem c3u (h:p:=by first | exact .inl J | (right;rw [← ht J];first | exact a1N.mp J | assumption)):p:=h
theorem b6D (h:p:=by rw [a0g,List.map_set];rfl):p:=h
theorem b6B (h:p:=by rw [← hti J];omega):p:=h
theorem b96 (h:p:=by intro c hc;rw [List.mem_singleton.1 hc];rfl):p:=h
theorem b97 (h:p:=by rw [List.length_map,List.length_take];omega):p:=h
theorem b6E (h:p:=by rw [List.length_take];omega):p:=h
theorem c3v (h:p:=by first | (left;omega) | (right;rw [← Bool.not_eq_true,← a1N];omega)):p:=h
theorem vm1 (k:q) (h:Hd q→p:=by
 intro kk
 refine zgo ?_
 refine a7 Z ?_
 refine B3 1 Z Z Z Z Z Z Z ?_
 exact kk.o):p:=h ⟨k⟩
theorem vm2 (k:q) (h:Hd q→p:=by
 intro kk
 simp only [List.cons_append,List.nil_append]
 exact kk.o):p:=h ⟨k⟩
theorem vm3 (k:q) (h:Hd q→p:=by
 intro kk
 refine zgo ?_
 refine a7 Z ?_
 exact kk.o):p:=h ⟨k⟩
theorem vm4 (k:q) (h:Hd q→p:=by exact λkk=>l1 G np Z Z Z Z Z Z Z Z Z M8 Z Z kk.o):p:=h ⟨k⟩
theorem vm5 (k:q) (h:Hd q→p:=by
 intro kk
 refine vm3 ?_
 first | refine b5 Z Z (c7 G Z Z Z Z Z J m7) ?_ | refine b5 Z Z (c7 G Z Z Z Z Z J J) ?_
 refine a7 Z ?_
 exact kk.o):p:=h ⟨k⟩
theorem vm6 (k:q) (h:Hd q→p:=by
 intro kk
 refine a7 Z ?_
 refine b5 Z Z (a0v G Z Z Z Z Z Z w4 w4 w4 w4) ?_
 exact kk.o):p:=h ⟨k⟩
theorem vm7 (k:q) (h:Hd q→p:=by
 intro kk
 refine a7 Z ?_
 first | refine b5 Z Z (p5 Z Z Z Z J J) ?_ | refine b5 Z Z (s3 Z Z Z Z) ?_
 exact kk.o):p:=h ⟨k⟩
theorem vm8 (k:q) (h:Hd q→p:=by
 intro kk
 refine vm3 ?_
 first | refine b5 Z Z (u5 G Z Z Z Z Z J T6) ?_ | refine b5 Z Z (u5 G Z Z Z Z Z J N0) ?_ | refine b5 Z Z (u5 G Z Z Z Z Z J J) ?_
 refine a7 Z ?_
 exact kk.o):p:=h ⟨k⟩
theorem vm9 (k:q) (h:Hd q→p:=by
 intro kk
 refine a7 Z ?_
 refine d7 G 2 Z Z Z Z Z ?_
 exact kk.o):p:=h ⟨k⟩
theorem X0 (k:q) (h:Hd q→p:=by
 intro kk
 refine vm3 ?_
 refine b5 Z Z (w7 Z Z Z Z) ?_
 exact kk.o):p:=h ⟨k⟩
theorem c1Q (k:q) (h:Hd q→p:=by
 intro kk
 refine vm5 ?_
 first | refine l8 G Z Z Z Z Z (R1 J) Z Z Z Z Z (Nat.le_of_ble_eq_true Z) Z ?_ | refine l8 G Z Z Z Z Z (A1 J J) Z Z Z Z Z (Nat.le_of_ble_eq_true Z) Z ?_ | refine l8 G Z Z Z Z Z (A1 J m7) Z Z Z Z Z (Nat.le_of_ble_eq_true Z) Z ?_
 exact kk.o):p:=h ⟨k⟩
theorem c6y (k:q) (h:Hd q→p:=by
 intro kk
 refine a6i Z Z a8 ?_
 refine e9 G Z Z Z Z Z Z Z Z Z Z Z ?_
 refine b4 ?_
 refine c6c a8 ?_
 refine znk ?_
 exact kk.o):p:=h ⟨k⟩
theorem F3 (k:q) (h:Hd q→p:=by
 intro kk
 refine C3 a8 ?_
 refine znk ?_
 exact kk.o):p:=h ⟨k⟩
theorem N8 (k:q) (h:Hd q→p:=by
 intro kk
 refine zgo ?_
 refine ⟨Z,?_⟩
 exact kk.o):p:=h ⟨k⟩
theorem p6 (k:q) (h:Hd q→p:=by exact λkk=>a7 Z kk.o):p:=h ⟨k⟩
theorem c8s (k:q) (h:Hd q→p:=by
 intro kk
 refine g9 [1,2,5,6] Z Z ?_
 refine N8 ?_
 first | refine d5 5 Z a8 a8 Z Z Z Z (c7 G Z Z Z Z Z J J) ?_ | refine d5 5 Z a8 a8 Z Z Z Z (c7 G Z Z Z Z Z J m7) ?_
 first | refine d5 6 Z a8 a8 Z Z Z Z (f6 G Z Z Z Z (R1 J) Z) ?_ | refine d5 6 Z a8 a8 Z Z Z Z (f6 G Z Z Z Z (A7 J J) Z) ?_ | refine d5 6 Z a8 a8 Z Z Z Z (f6 G Z Z Z Z (A1 J J) Z) ?_ | refine d5 6 Z a8 a8 Z Z Z Z (f6 G Z Z Z Z (A1 J m7) Z) ?_
 exact kk.o):p:=h ⟨k⟩
theorem b5v (k:q) (h:Hd q→p:=by exact λkk=>b5 Z Z (s6 Z Z Z b6C) kk.o):p:=h ⟨k⟩
theorem b7A (k:q) (h:Hd q→p:=by
 intro kk
 refine c6 Z ?_
 refine g8 Z Z (s6 Z Z Z b6C) ?_
 exact kk.o):p:=h ⟨k⟩
theorem c1R (k:q) (h:Hd q→p:=by
 intro kk
 refine zsa 0 ?_
 refine zsa 1 ?_
 refine zsa 2 ?_
 refine zsa 3 ?_
 refine zsa 4 ?_
 first | refine d5 5 Z a8 a8 Z Z Z Z (p5 Z Z Z Z J J) ?_ | refine d5 5 Z a8 a8 Z Z Z Z (s3 Z Z Z Z) ?_
 exact kk.o):p:=h ⟨k⟩
theorem c8t (k:q) (h:Hd q→p:=by
 intro kk
 refine zgo ?_
 refine E9 Z Z Z ?_
 first | refine g8 Z Z (c7 G Z Z Z Z Z J a8V) ?_ | refine g8 Z Z (c7 G Z Z Z Z Z J a8U) ?_ | refine g8 Z Z (c7 G Z Z Z Z Z J a8T) ?_
 refine E9 Z Z Z ?_
 first | refine g8 Z Z (f6 G Z Z Z Z (a0y J) Z) ?_ | refine g8 Z Z (f6 G Z Z Z Z (a05 J J) Z) ?_ | refine g8 Z Z (f6 G Z Z Z Z (a1P J J) Z) ?_
 exact kk.o):p:=h ⟨k⟩
theorem c8u (k:q) (h:Hd q→p:=by
 intro kk
 refine zsa 1 ?_
 refine zsa 2 ?_
 first | refine d5 3 Z a8 a8 Z Z Z Z (N3 G Z Z Z Z Z J J J) ?_ | refine d5 3 Z a8 a8 Z Z Z Z (N3 G Z Z Z Z Z J a5F a5F) ?_
 refine zsa 5 ?_
 refine zsa 8 ?_
 refine zsa 9 ?_
 first | refine d5 10 Z a8 a8 Z Z Z Z (N3 G Z Z Z Z Z J J J) ?_ | refine d5 10 Z a8 a8 Z Z Z Z (N3 G Z Z Z Z Z J a5F a5F) ?_
 exact kk.o):p:=h ⟨k⟩
theorem a2m (k:q) (h:Hd q→p:=by
 intro kk
 refine b6 ?_
 iterate 3 refine zst ?_
 exact kk.o):p:=h ⟨k⟩
theorem c8v (k:q) (h:Hd q→p:=by
 intro kk
 refine vm3 ?_
 first | refine b5 Z Z (c7 G Z Z Z Z Z J J) ?_ | refine b5 Z Z (c7 G Z Z Z Z Z J m7) ?_
 refine p6 ?_
 first | refine l8 G Z Z Z Z Z (R1 J) Z Z Z Z Z (Nat.le_of_ble_eq_true Z) Z ?_ | refine l8 G Z Z Z Z Z (A7 J J) Z Z Z Z Z (Nat.le_of_ble_eq_true Z) Z ?_ | refine l8 G Z Z Z Z Z (A1 J J) Z Z Z Z Z (Nat.le_of_ble_eq_true Z) Z ?_ | refine l8 G Z Z Z Z Z (A1 J m7) Z Z Z Z Z (Nat.le_of_ble_eq_true Z) Z ?_
 exact kk.o):p:=h ⟨k⟩
theorem b98 (k:q) (h:Hd q→p:=by
 intro kk
 refine b6 ?_
 refine p6 ?_
 refine b5 Z Z (d3 G Z Z Z Z) ?_
 refine p6 ?_
 refine b5 Z Z (a1K (f7 G Z Z Z Z Z Z Z)) ?_
 refine p6 ?_
 refine b5 Z Z (b9 Z Z) ?_
 refine p6 ?_
 exact kk.o):p:=h ⟨k⟩
theorem c8w (k:q) (h:Hd q→p:=by
 intro kk
 refine vm8 ?_
 first | refine r8 G Z Z Z Z Z (A1 J J) Z Z (.v Z (.own Z (.own Z (.own Z .nil)))) Z Z Z (Nat.le_of_ble_eq_true Z) (λq h=>by cases h) Z ?_ | refine r8 G Z Z Z Z Z (A7 J J) Z Z (.v Z (.own Z (.own Z (.own Z .nil)))) Z Z Z (Nat.le_of_ble_eq_true Z) (λq h=>by cases h) Z ?_ | refine r8 G Z Z Z Z Z (a3x N0 Z) Z Z (.v Z (.own Z (.own Z (.own Z .nil)))) Z Z Z (Nat.le_of_ble_eq_true Z) (λq h=>by cases h) Z ?_
 exact kk.o):p:=h ⟨k⟩
theorem c6z (k:q) (h:Hd q→p:=by
 intro kk
 refine VStep.mk1 [0,1] 3 (.ptr 6 0) 6 (.box (avR [.slice none 0 0,.slice none 0 0,.slice none 0 0,.slice none 0 0] [])) [] Z Z Z Z Z (λb1 _ hbn=>e9 G Z Z Z Z Z Z Z Z Z Z Z (b4 Z)) a8 a8 a8 a8 ?_
 refine G0 ?_
 exact kk.o):p:=h ⟨k⟩
theorem c8x (k:q) (h:Hd q→p:=by
 intro kk
 refine zsa 1 ?_
 refine zsa 2 ?_
 first | refine d5 3 Z a8 a8 Z Z Z Z (c7 G Z Z Z Z Z J T6) ?_ | refine d5 3 Z a8 a8 Z Z Z Z (c7 G Z Z Z Z Z J J) ?_
 first | refine d5 4 Z a8 a8 Z Z Z Z (f8 G Z Z Z Z Z (R1 J) Z) ?_ | refine d5 4 Z a8 a8 Z Z Z Z (f8 G Z Z Z Z Z (A1 J J) Z) ?_
 exact kk.o):p:=h ⟨k⟩
theorem a4y (k:q) (h:Hd q→p:=by
 intro kk
 refine vm3 ?_
 refine d7 G 1 Z Z Z Z Z ?_
 exact kk.o):p:=h ⟨k⟩
theorem c6A (k:q) (h:Hd q→p:=by
 intro kk
 refine E9 Z Z Z ?_
 first | refine g8 Z Z (N3 G Z Z Z Z Z J J J) ?_ | refine g8 Z Z (N3 G Z Z Z Z Z J a5F a5F) ?_
 exact kk.o):p:=h ⟨k⟩
theorem a06 (k:q) (h:Hd q→p:=by
 intro kk
 refine zsa 0 ?_
 refine zsa 1 ?_
 refine zsa 2 ?_
 refine zsa 3 ?_
 exact kk.o):p:=h ⟨k⟩
theorem c6B (k:q) (h:Hd q→p:=by
 intro kk
 first | refine b5 Z Z (f8 G Z Z Z Z Z (R1 J) Z) ?_ | refine b5 Z Z (f8 G Z Z Z Z Z (A1 J J) Z) ?_
 exact kk.o):p:=h ⟨k⟩
theorem b5w (k:q) (h:Hd q→p:=by
 intro kk
 refine vm1 ?_
 refine p6 ?_
 refine B3 2 Z Z Z Z Z Z Z ?_
 refine p6 ?_
 refine d7 G 3 Z Z Z Z Z ?_
 exact kk.o):p:=h ⟨k⟩
theorem a4z (k:q) (h:Hd q→p:=by exact λkk=>b5 Z Z (r5 G Z Z Z) kk.o):p:=h ⟨k⟩
theorem c6C (k:q) (h:Hd q→p:=by
 intro kk
 first | refine b5 Z Z (b3S G Z Z Z Z (b8h J J)) ?_ | refine b5 Z Z (b3S G Z Z Z Z (c0X J J)) ?_ | refine b5 Z Z (a17 G Z Z Z Z) ?_
 exact kk.o):p:=h ⟨k⟩
theorem c8y (k:q) (h:Hd q→p:=by
 intro kk
 refine VStep.mk1 [0] 29 (.own 1) 1 (.row 76 2 []) [] Z Z Z Z Z (λb1 _ hbn=>l1 G T5 Z Z Z Z Z Z Z Z Z a5D Z Z (b4 Z)) a8 a8 a8 a8 ?_
 refine G0 ?_
 exact kk.o):p:=h ⟨k⟩
theorem c1S (k:q) (h:Hd q→p:=by
 intro kk
 first | refine g8 Z Z (p5 Z Z Z Z J J) ?_ | refine g8 Z Z (s3 Z Z Z Z) ?_
 iterate 2 refine zst ?_
 exact kk.o):p:=h ⟨k⟩
theorem c8z (k:q) (h:Hd q→p:=by
 intro kk
 refine VStep.mk1 [] 33 (.own 0) 0 (.row 3 1 []) [] Z Z Z Z Z (λb1 _ hbn=>l1 G T5 Z Z Z Z Z Z Z Z Z a5D Z Z (b4 Z)) a8 a8 a8 a8 ?_
 refine G0 ?_
 exact kk.o):p:=h ⟨k⟩
theorem c6D (k:q) (h:Hd q→p:=by
 intro kk
 refine b6 ?_
 refine p6 ?_
 refine b5 Z Z (b9 Z Z) ?_
 refine p6 ?_
 refine b5 Z Z (d3 G Z Z Z Z) ?_
 refine p6 ?_
 refine b5 Z Z (f7 G Z Z Z Z Z Z Z) ?_
 refine p6 ?_
 refine b5 Z Z (w9 G Z Z Z Z) ?_
 refine p6 ?_
 exact kk.o):p:=h ⟨k⟩
theorem c6E (k:q) (h:Hd q→p:=by
 intro kk
 refine b5 Z Z (b9 Z Z) ?_
 refine p6 ?_
 refine b5 Z Z (i1 Z Z Z) ?_
 refine p6 ?_
 refine b5 Z Z (i1 Z Z Z) ?_
 refine p6 ?_
 refine b5 Z Z (b8 Z Z) ?_
 refine p6 ?_
 refine b5 Z Z (b8 Z Z) ?_
 refine b4 ?_
 exact kk.o):p:=h ⟨k⟩
theorem b01 (k:q) (h:Hd q→p:=by
 intro kk
 refine vm3 ?_
 refine m5 G 1 Z Z Z Z Z Z Z Z ?_
 exact kk.o):p:=h ⟨k⟩
theorem b7B (k:q) (h:Hd q→p:=by exact λkk=>b5 Z Z (O9 G Z Z Z Z J J) kk.o):p:=h ⟨k⟩
theorem c1T (k:q) (h:Hd q→p:=by exact λkk=>b5 Z Z (c7 G Z Z Z Z Z J T6) kk.o):p:=h ⟨k⟩
theorem a2n (k:q) (h:Hd q→p:=by
 intro kk
 iterate 2 refine zst ?_
 exact kk.o):p:=h ⟨k⟩
theorem c6F (k:q) (h:Hd q→p:=by
 intro kk
 refine zgn ?_
 refine J6 (Gh.close (id:=6) (id':=9) (i:=(tgM m i)) (k:=1) Z Z (a3x N0 Z) (λq h=>by cases h) Z) ?_
 refine zgo ?_
 exact kk.o):p:=h ⟨k⟩
theorem b4n (k:q) (h:Hd q→p:=by
 intro kk
 refine b6 ?_
 refine p6 ?_
 refine B3 1 Z Z Z Z Z Z Z ?_
 exact kk.o):p:=h ⟨k⟩
theorem a0k (k:q) (h:Hd q→p:=by exact λkk=>o9 Z Z Z kk.o):p:=h ⟨k⟩
theorem b3a (k:q) (h:Hd q→p:=by exact λkk=>b5 Z Z (a0Y G Z Z Z Z) kk.o):p:=h ⟨k⟩
theorem c6G (k:q) (h:Hd q→p:=by exact λkk=>b5 Z Z (a4W G Z Z Z Z Z Z J b17 b17) kk.o):p:=h ⟨k⟩
theorem c1U (k:q) (h:Hd q→p:=by
 intro kk
 refine vm3 ?_
 refine d4 2 Z Z Z (ArgsOK.of Z) (N5 sl _ ⟨_,_,_⟩ J J) Z Z ?_
 exact kk.o):p:=h ⟨k⟩
theorem c8A (k:q) (h:Hd q→p:=by
 intro kk
 refine VStep.mk1 [0,1,2,3,4] 6 (.ptr 5 0) 5 (.box (avR [.int .i64 0,.slice none 0 0,.slice none 0 0,.slice none 0 0] [])) [] Z Z Z Z Z (λb1 _ hbn=>e9 G Z Z Z Z Z Z Z Z Z Z Z (b4 Z)) a8 a8 a8 a8 ?_
 refine G0 ?_
 exact kk.o):p:=h ⟨k⟩
theorem b4o (k:q) (h:Hd q→p:=by
 intro kk
 refine vm3 ?_
 refine m5 G 3 Z Z Z Z Z Z Z Z ?_
 exact kk.o):p:=h ⟨k⟩
theorem b3b (k:q) (h:Hd q→p:=by exact λkk=>m5 G 2 Z Z Z Z Z Z Z Z kk.o):p:=h ⟨k⟩
theorem c8B (k:q) (h:Hd q→p:=by
 intro kk
 refine VStep.mk1 [0] 21 (.own 1) 1 (.row 76 2 []) [] Z Z Z Z Z (λb1 _ hbn=>l1 G T5 Z Z Z Z Z Z Z Z Z m7 Z Z (b4 Z)) a8 a8 a8 a8 ?_
 refine G0 ?_
 exact kk.o):p:=h ⟨k⟩
theorem c6H (k:q) (h:Hd q→p:=by
 intro kk
 refine w6 6 a8 ?_
 refine a6i Z Z a8 ?_
 refine b5 Z Z (d3 G Z Z Z Z) ?_
 refine b4 ?_
 refine w6 7 a8 ?_
 refine c6y ?_
 refine zgo ?_
 exact kk.o):p:=h ⟨k⟩
theorem c8C (k:q) (h:Hd q→p:=by
 intro kk
 refine VStep.mk1 [0,1] 5 (.ptr 2 0) 2 (.box (avR [.slice none 0 0,.slice none 0 0] [])) [] Z Z Z Z Z (λb1 _ hbn=>e9 G Z Z Z Z Z Z Z Z Z Z Z (b4 Z)) a8 a8 a8 a8 ?_
 refine G0 ?_
 exact kk.o):p:=h ⟨k⟩
theorem c8D (k:q) (h:Hd q→p:=by
 intro kk
 refine VStep.mk1 [0,1] 4 (.ptr 2 0) 2 (.box (avR [.slice none 0 0,.slice none 0 0] [])) [] Z Z Z Z Z (λb1 _ hbn=>e9 G Z Z Z Z Z Z Z Z Z Z Z (b4 Z)) a8 a8 a8 a8 ?_
 refine G0 ?_
 exact kk.o):p:=h ⟨k⟩
theorem c8E (k:q) (h:Hd q→p:=by
 intro kk
 refine vm5 ?_
 first | refine l8 G Z Z Z Z Z (R1 J) Z Z Z Z Z (Nat.le_of_ble_eq_true Z) Z ?_ | refine l8 G Z Z Z Z Z (A1 J J) Z Z Z Z Z (Nat.le_of_ble_eq_true Z) Z ?_
 refine zgn ?_
 exact kk.o):p:=h ⟨k⟩
theorem c8F (k:q) (h:Hd q→p:=by
 intro kk
 refine zsa 0 ?_
 refine zsa 1 ?_
 refine zsa 2 ?_
 first | refine d5 3 Z a8 a8 Z Z Z Z (p5 Z Z Z Z J J) ?_ | refine d5 3 Z a8 a8 Z Z Z Z (s3 Z Z Z Z) ?_
 refine zsa 5 ?_
 refine zsa 6 ?_
 exact kk.o):p:=h ⟨k⟩
theorem c8G (k:q) (h:Hd q→p:=by
 intro kk
 refine zsa 8 ?_
 refine zsa 10 ?_
 refine zsa 11 ?_
 refine zsa 12 ?_
 first | refine d5 13 Z a8 a8 Z Z Z Z (p5 Z Z Z Z J J) ?_ | refine d5 13 Z a8 a8 Z Z Z Z (s3 Z Z Z Z) ?_
 exact kk.o):p:=h ⟨k⟩
theorem c8H (k:q) (h:Hd q→p:=by
 intro kk
 refine zgn ?_
 refine s9 ?_
 refine b6 ?_
 refine zst ?_
 refine p6 ?_
 first | refine b5 Z Z (E1 G Z Z Z Z (show List.length [_]=1 from rfl)) ?_ | refine b5 Z Z (E1 G Z Z Z Z (List.length_map _)) ?_ | refine b5 Z Z (K0 G Z Z Z Z) ?_
 refine zgn ?_
 refine zgn ?_
 exact kk.o):p:=h ⟨k⟩
theorem b4p (k:q) (h:Hd q→p:=by
 intro kk
 refine vm3 ?_
 refine d7 G 2 Z Z Z Z Z ?_
 exact kk.o):p:=h ⟨k⟩
theorem c1V (k:q) (h:Hd q→p:=by
 intro kk
 refine vm3 ?_
 refine b5 Z Z (z6 G Z Z Z Z Z J J J) ?_
 exact kk.o):p:=h ⟨k⟩
theorem c1W (k:q) (h:Hd q→p:=by exact λkk=>l1 G np Z Z Z Z Z Z Z Z Z m7 Z Z kk.o):p:=h ⟨k⟩
theorem c8I (k:q) (h:Hd q→p:=by
 intro kk
 refine vm3 ?_
 first | refine b5 Z Z (c7 G Z Z Z Z Z J T6) ?_ | refine b5 Z Z (c7 G Z Z Z Z Z J J) ?_
 refine p6 ?_
 refine c6B ?_
 refine vm3 ?_
 exact kk.o):p:=h ⟨k⟩
theorem c6I (k:q) (h:Hd q→p:=by
 intro kk
 refine vm3 ?_
 refine d4 1 Z Z Z (ArgsOK.of Z) (N5 sl _ ⟨_,_,_⟩ J J) Z Z ?_
 exact kk.o):p:=h ⟨k⟩
theorem b4q (k:q) (h:Hd q→p:=by exact λkk=>d7 G 8 Z Z Z Z Z kk.o):p:=h ⟨k⟩
theorem b7C (k:q) (h:Hd q→p:=by exact λkk=>b5 Z Z (V3 G Z Z Z Z) kk.o):p:=h ⟨k⟩
theorem b4r (k:q) (h:Hd q→p:=by
 intro kk
 refine g9 [0,2,3,4] Z Z ?_
 refine N8 ?_
 exact kk.o):p:=h ⟨k⟩
theorem c8J (k:q) (h:Hd q→p:=by
 intro kk
 refine p6 ?_
 refine l1 G A4 Z Z Z Z Z Z Z Z Z M8 Z Z ?_
 refine zgo ?_
 exact kk.o):p:=h ⟨k⟩
theorem a8r (k:q) (h:Hd q→p:=by
 intro kk
 refine zsa 4 ?_
 refine zsa 5 ?_
 refine zsa 6 ?_
 exact kk.o):p:=h ⟨k⟩
theorem b4s (k:q) (h:Hd q→p:=by
 intro kk
 refine zgn ?_
 refine d8 ?_
 refine O3 Z ?_
 refine j8 ?_
 exact kk.o):p:=h ⟨k⟩
theorem c1X (k:q) (h:Hd q→p:=by
 intro kk
 refine p6 ?_
 refine e9 G Z Z Z Z Z Z Z Z Z Z Z ?_
 exact kk.o):p:=h ⟨k⟩
theorem c6J (k:q) (h:Hd q→p:=by exact λkk=>b5 Z Z (f8 G Z Z Z Z Z (A1 J m7) Z) kk.o):p:=h ⟨k⟩
theorem c6K (k:q) (h:Hd q→p:=by
 intro kk
 refine a3P (Gh.nest (id:=5) (yss:=[]) Z Z (by intro _ _ _ h;simp at h)) ?_
 refine F3 ?_
 refine zgo ?_
 exact kk.o):p:=h ⟨k⟩
theorem b7D (k:q) (h:Hd q→p:=by
 intro kk
 refine w6 6 a8 ?_
 refine c6y ?_
 refine a2m ?_
 exact kk.o):p:=h ⟨k⟩
theorem b3c (k:q) (h:Hd q→p:=by
 intro kk
 refine g9 [0] Z Z ?_
 refine N8 ?_
 exact kk.o):p:=h ⟨k⟩
theorem c8K (k:q) (h:Hd q→p:=by
 intro kk
 refine vm3 ?_
 refine b7B ?_
 refine p6 ?_
 first | refine b5 Z Z (a7W G Z Z Z Z J J) ?_ | refine b5 Z Z (a17 G Z Z Z Z) ?_
 exact kk.o):p:=h ⟨k⟩
theorem b7E (k:q) (h:Hd q→p:=by exact λkk=>d7 G 5 Z Z Z Z Z kk.o):p:=h ⟨k⟩
theorem b3d (k:q) (h:Hd q→p:=by exact λkk=>zcl (a0I _ _ _) kk.o):p:=h ⟨k⟩
theorem a5p (k:q) (h:Hd q→p:=by
 intro kk
 refine s9 ?_
 refine b6 ?_
 exact kk.o):p:=h ⟨k⟩
theorem c8L (k:q) (h:Hd q→p:=by
 intro kk
 refine vm3 ?_
 first | refine b5 Z Z (a7O Z Z Z J J) ?_ | refine b5 Z Z (b5z Z Z Z J) ?_
 exact kk.o):p:=h ⟨k⟩
theorem c8M (k:q) (h:Hd q→p:=by
 intro kk
 refine vm3 ?_
 refine c1T ?_
 refine p6 ?_
 refine l8 G Z Z Z Z Z (A7 J J) Z Z Z Z Z (Nat.le_of_ble_eq_true Z) Z ?_
 refine zgo ?_
 exact kk.o):p:=h ⟨k⟩
theorem c1Y (k:q) (h:Hd q→p:=by
 intro kk
 refine vm1 ?_
 refine p6 ?_
 refine B3 2 Z Z Z Z Z Z Z ?_
 exact kk.o):p:=h ⟨k⟩
theorem c1Z (k:q) (h:Hd q→p:=by
 intro kk
 refine p6 ?_
 refine b5 Z Z (b8 Z Z) ?_
 refine b4 ?_
 exact kk.o):p:=h ⟨k⟩
theorem b99 (k:q) (h:Hd q→p:=by
 intro kk
 refine s9 ?_
 refine I2 mixed a8 ?_
 exact kk.o):p:=h ⟨k⟩
theorem c0a (k:q) (h:Hd q→p:=by exact λkk=>d7 G 12 Z Z Z Z Z kk.o):p:=h ⟨k⟩
theorem c10 (k:q) (h:Hd q→p:=by exact λkk=>b5 Z Z (a34 G Z Z Z Z) kk.o):p:=h ⟨k⟩
theorem b7F (k:q) (h:Hd q→p:=by
 intro kk
 refine zsa 0 ?_
 refine zsa 1 ?_
 refine zsa 2 ?_
 refine zsa 4 ?_
 exact kk.o):p:=h ⟨k⟩
theorem b02 (k:q) (h:Hd q→p:=by exact λkk=>E9 Z Z Z kk.o):p:=h ⟨k⟩
theorem c11 (k:q) (h:Hd q→p:=by exact λkk=>m5 G 4 Z Z Z Z Z Z Z Z kk.o):p:=h ⟨k⟩
end Go.Rf
