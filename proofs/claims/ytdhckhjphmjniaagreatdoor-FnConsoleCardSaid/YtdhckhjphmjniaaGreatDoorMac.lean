/- Names for what is said again and again in walks. -/
import Derived.Test.YtdhckhjphmjniaaGreatDoorLibE
set_option linter.unusedSimpArgs false
set_option linter.unusedVariables false
namespace Go.Rf
variable {p q:Prop}
theorem b70 (h:p:=by (first | (rw [hS];done) | (rw [hS];(first | rfl | exact List.map_set.symm | (rw [H7];done) | exact c6m Z | (simp only [r4];done))))):p:=h
theorem c6V (h:p:=by (first | (exact congrArg Value.bool (c5P j5).symm) | (exact congrArg Value.bool (c5Q J).symm) | (exact congrArg Value.bool (b9A (k:=k) (c5S j5) J).symm) | (exact congrArg Value.bool (b9A (k:=k) (c5T j5) J).symm) | (exact congrArg Value.bool (c5R h1 J J hk.2 J).symm))):p:=h
theorem c6W (h:p:=by (first | (have e:X3 s=true:=a3o hinv.2 J;simp [e];done) | (have e:X3 s=false:=a1h (i:=i) (by simp only [a4p,Bool.and_eq_false_iff,decide_eq_false_iff_not,Bool.not_eq_false',beq_iff_eq];omega) J;simp [e];done))):p:=h
theorem c6X (h:p:=by (first | rfl | (unfold a1s;rw [ho];done) | (unfold a1s;rw [ho];rfl))):p:=h
theorem c6Y (h:p:=by (first | rfl | (rw [List.take_length];done) | (rw [List.take_length];rfl) | simp)):p:=h
theorem c6Z (h:p:=by (first | rfl | exact hc9.mono J | (dsimp only;rw [List.map_set];rfl) | (rw [List.map_append];rfl) | (show List.length _<=5;(try simp only [List.length_set,List.length_append,List.length_cons,List.length_nil]);omega))):p:=h
theorem c8L (h:p:=by (first | (exact congrArg Value.bool (b8Z (q:=⟨sl,wa⟩) (i:=i) (b6m (λg=>by dsimp only at g;first | exact a0g j5 g.1 | exact a0g j5 g.2.1 | (have:=g.2.2.1;omega) | (have h9:=b5n.mp (show 0<=P3 (λj=>decide ((wa.getD j default).q=(wa.getD i default).q)) i by omega);obtain ⟨j,hj,e⟩:=b0p.mp h9;exact g.2.2.2.1 j hj (of_decide_eq_true e)) | (rcases g.2.2.2.2 with g1 | g1<;>first | (exfalso;omega) | (rw [← ht J] at g1;first | (have:=a1Z.mpr g1;omega) | (simp_all;done))) | exact g.2.2.2.1 _ J j5)) (show i < wa.length by omega)).symm) | (exact congrArg Value.bool (b8Y (q:=⟨sl,wa⟩) j5).symm) | (exact congrArg Value.bool (b81 j5 hinv.2 J J)))):p:=h
theorem c8M (h:p:=by (first | (rw [S3 (i:=i) hinv.2 J j5];done) | (rw [a1j hinv.2 J];done))):p:=h
theorem c8N (h:p:=by (first | (exact congrArg Value.bool (b8Y (q:=⟨sl,wa⟩) j5).symm) | (exact congrArg Value.bool (b80 (q:=⟨sl,wa⟩) j5 hinv.2 (show wa.length<=i by omega)).symm) | (exact congrArg Value.bool (b8Z (q:=⟨sl,wa⟩) (i:=i) (b6m (λg=>by dsimp only at g;first | exact a0g j5 g.1 | exact a0g j5 g.2.1 | (have:=g.2.2.1;omega) | (have h9:=b5n.mp (show 0<=P3 (λj=>decide ((wa.getD j default).q=(wa.getD i default).q)) i by omega);obtain ⟨j,hj,e⟩:=b0p.mp h9;exact g.2.2.2.1 j hj (of_decide_eq_true e)) | (rcases g.2.2.2.2 with g1 | g1<;>first | (exfalso;omega) | (rw [← ht J] at g1;first | (have:=a1Z.mpr g1;omega) | (simp_all;done))) | exact g.2.2.2.1 _ J j5)) (show i < wa.length by omega)).symm))):p:=h
theorem c8O (h:p:=by (first | (exact congrArg Value.bool (b8W hinv.2 J)) | (rw [b5s J];done) | (exact congrArg Value.bool (b5r (i:=i) (b8V (λg=>by first | exact a0g j5 g.1 | exact a0g j5 g.2.1 | exact a0g j5 g.2.2)) J).symm) | (exact congrArg Value.bool (b5r (i:=i) (by first | exact c1x J J | exact c1y J J J) J).symm))):p:=h
theorem c3q (h:p:=by (first | (exact congrArg Value.bool (b5s J).symm) | (exact congrArg Value.bool (b8U J hinv.2 J).symm) | (exact congrArg Value.bool (b5r (i:=i) (by first | exact b8S j5 (λe=>c9W j5 (b0q.mp e)) | exact b8T j5 (b5n.mp J) | exact b5q j5 (c5B j5) | exact b5q j5 (c5C j5) | exact b5q j5 (c5D j5)) J).symm))):p:=h
theorem c3r (h:p:=by (first | (exact congrArg Value.bool (b9B h1).symm) | (exact congrArg Value.bool (b9C h2).symm) | (exact congrArg Value.bool (b0w (c1N (i:=i) J (λg=>b28.mp h4 ((a7m 4).mpr g)))).symm) | (obtain ⟨k,hk,e⟩:=(a7q J).mp (b0x.mp h5);(exact congrArg Value.bool (b0w (b9w hSl hk J e)).symm)) | (exact congrArg Value.bool (b0w (b9s (i:=i) (c24 J b67) J)).symm) | (have e:i=x.st.length:=J;subst e;rw [c5X h1 h2,hinv.2.fin hSl,c9Y,a7n];done))):p:=h
theorem c3s (h:p:=by (first | (exact congrArg Value.bool (b9z hi.2 J hj.2 J).symm) | (exact congrArg Value.bool (b9y (i:=i) (b9x.mpr (λg=>by first | exact g.1 j5 | (rcases g.2 with g2 | ⟨g2,g3⟩<;>first | (exact absurd g2 j5) | (exact absurd g3 j5)))) J).symm) | (exact congrArg Value.bool (c5O (i:=j) (c5N.mpr (λg=>by first | exact absurd g.1 j5 | exact absurd g.2 j5)) J).symm))):p:=h
theorem c3t (h:p:=by (first | rfl | (have e:i=xs.length:=J;subst e;simp;done) | (have ht1:((i:Int)+1).toNat=i+1:=J;first | (rw [show List.take ((((xs.map j6).length:Nat):Int).toNat - ((i:Nat):Int).toNat) (List.drop ((i:Nat):Int).toNat (xs.map j6))=List.drop i (xs.map j6) from List.take_of_length_le (by rw [List.length_drop,Int.toNat_natCast,Int.toNat_natCast];exact Nat.le_refl _)];simp only [Int.toNat_natCast,ht1,Int.toNat_zero,List.length_drop,List.length_cons,List.length_nil,Nat.zero_add,List.map_append,List.map_take,List.map_drop,List.map_cons,List.map_nil,Nat.sub_zero];exact b8D (by rw [List.length_map];exact hi) (by rw [List.length_replicate,List.length_map])) | (rw [show xs.length+1=(xs.map j6).length+1 from by rw [List.length_map]];simp only [Int.toNat_natCast,ht1,Int.toNat_zero,List.length_drop,List.length_cons,List.length_nil,Nat.zero_add,List.map_append,List.map_take,List.map_drop,List.map_cons,List.map_nil,Nat.sub_zero];exact b34 (by rw [List.length_map];exact hi) J)))):p:=h
theorem c3u (h:p:=by (first | (exact congrArg Value.bool (b9B h1).symm) | (exact congrArg Value.bool (b9C h2).symm) | (exact congrArg Value.bool (b0w (b24 h3)).symm) | (exact congrArg Value.bool (b0w (b9s (i:=i) (c24 J b67) J)).symm) | (exact congrArg Value.bool (c5W h1 h2 (b9t h3 hinv.2 J)).symm))):p:=h
theorem c3v (h:p:=by (first | (rw [c1m (i:=i) J (by simp only [b5j];try rw [← ftn];omega)];done) | (rw [c1n (i:=i) J (by simp only [b5j];try rw [← ftn];omega)];done))):p:=h
theorem c3w (h:p:=by (first | (have e:a2h rs.length (λi=>b0l c (rs.getD i default))=false:=a1h (i:=i) (by simp_all [b0l]) J;simp only [okRts,e,Bool.and_false];done) | (have e:a2h rs.length (λi=>b0l c (rs.getD i default))=true:=a3o hinv.2 J;first | (simp only [okRts,e,h4,c9T,Bool.and_true,Bool.true_and,Bool.false_and];done)))):p:=h
theorem c3x (h:p:=by (first | rfl | (rw [b9P (i:=i) J j5 j5];done) | (rw [c6b (k:=k) hinv.2 J J (by first | exact b6L J | exact c1X J J)];done) | (rw [c6c hinv.2 J J hk.2];done))):p:=h
theorem c3y (h:p:=by (first | (rw [b82 (a5r.mpr J)];done) | (rw [b82 (a5r.mpr J)];rfl) | (rw [b6n (I8.mpr J)];done) | (rw [b6n (I8.mpr J)];rfl))):p:=h
theorem c3z (h:p:=by (first | (have e:l≠r:=λe=>(by (subst e;omega));simp [e];done) | (have e:l=r:=a90 J hinv.2 J;simp [e];done) | (have e:l≠r:=b3O (i:=i) (λe=>(by simp_all));simp [e];done))):p:=h
theorem c3A (h:p:=by (first | (rw [b6l J];done) | (rw [c1l J (show i=8 by omega)];done))):p:=h
theorem c3B (h:p:=by ((rw [c1L hk.2 hk.1 (by first | exact .inl J | exact .inr ⟨by omega,by omega⟩),a2F,b0s];simp [Rf.r5];done))):p:=h
theorem c3C (h:p:=by (first | (have e:m5 s b=true:=U1 (i:=i) (by simp only [beq_iff_eq];omega) J;simp [e];done) | (have e:m5 s b=false:=a2i (i:=i) (λj hj=>by simpa using hinv.2 j hj) J;simp [e];done))):p:=h
theorem c3D (h:p:=by (first | (rw [b8Q hinv.2 J j5];done) | (rw [c2X hinv.2 J];done))):p:=h
theorem c3E (h:p:=by (first | (rw [o9,S3 (i:=i) hinv.2 J (by simp_all [fdP])];done) | (rw [o9,a1j hinv.2 J];done))):p:=h
theorem c3F (h:p:=by (first | (rw [freS,S3 (i:=i) hinv.2 J (by simp_all [emP])];done) | (rw [freS,a1j hinv.2 J];done))):p:=h
theorem c3G (h:p:=by (first | (rw [inW,S3 (i:=i) hinv.2 J (decide_eq_true j5)];done) | (rw [inW,a1j hinv.2 J];done))):p:=h
theorem c3H (h:p:=by (first | (rw [a7c hinv.2 hinv.1 c0p];done) | (rw [a7c hinv.2 hinv.1 c0p];rfl))):p:=h
theorem c3I (h:p:=by (first | (rw [a7c hinv.2 hinv.1 c0p,a2F,b0s];simp [j6];done))):p:=h
theorem c3J (h:p:=by (first | rfl | (rw [ht];done) | (rw [ht];rfl) | (rw [ht,ht2];done) | (rw [ht,ht2];rfl))):p:=h
theorem c3K (h:p:=by (first | rfl | (rw [ht];done) | (rw [ht];rfl) | (rw [ht,ht2];done) | (rw [ht,ht2];rfl) | (rw [ht,ht2];simp [a2Z,Rf.r5];done))):p:=h
theorem c3L (h:p:=by (first | (rw [S3 (i:=i) hinv.2 J c0q];done) | (rw [a1j hinv.2 J];done))):p:=h
theorem c3M (h:p:=by (simp only [a83];first | (rw [U1 (i:=i) c0q J];done) | (rw [a2i hinv.2 J];done))):p:=h
theorem c3N (h:p:=by (first | rfl | exact hc11.mono J | (dsimp only;rw [List.map_set];rfl) | (rw [List.map_append];rfl) | (refine ⟨?_,?_⟩<;>(show List.length _<=_;(try simp only [List.length_set,List.length_append,List.length_cons,List.length_nil]);omega)))):p:=h
theorem c3O (h:p:=by (first | (rw [hM];done) | (rw [hM];rfl) | (rw [hM];simp [b4h];done) | (rw [hM];simp [noM];done) | (rw [hM];have e:k=n:=J;subst e;first | done | rfl | (simp [b4h];done)))):p:=h
theorem c3P (h:p:=by (first | rfl | exact hc8.mono J | (dsimp only;rw [List.map_set];rfl) | (rw [List.map_append];rfl) | exact hV.dr | exact hV.dr.setR | exact hV.dr.addA hV.ra | exact hV.dr.setC j5 | exact hV.dr.addC hV.n.2 j5 | (exact congrArg (λz=>Row.nest _ _ z []) a4P))):p:=h
theorem c3Q (h:p:=by (first | (exact congrArg Value.bool (b9y (i:=i) (b9x.mpr (λg=>g.1 J)) J).symm) | (exact congrArg Value.bool (c74 hinv.2)))):p:=h
theorem c3R (h:p:=by (first | rfl | (rw [b9P (i:=i) J j5 j5];done) | (rw [b5L hinv.2 J];done))):p:=h
theorem a8 (h:p:=by kernel_rfl):p:=h
theorem w7 (h:p:=by (try simp only [List.length_take,List.length_append,List.length_map,List.length_drop,List.length_cons,List.length_nil,List.length_replicate,Int.toNat_natCast]);omega):p:=h
theorem J9 (h:p:=by first | (simp only [List.length_map,List.length_cons,List.length_nil];omega) | (simp;omega)):p:=h
theorem E4 (h:p:=by show x1.1 - (z.1:Int) - 1=x1.1 - ((z.1+1:Nat):Int);omega):p:=h
theorem a5N (h:p:=by first | (simp;omega) | (simp only [a2F,b0s,List.length_append,List.length_map,List.length_take,List.length_drop,List.length_cons,List.length_nil];omega)):p:=h
theorem j5 (h:p:=by assumption):p:=h
theorem K0 (h:p:=by simp only [List.length_set,List.length_map];omega):p:=h
theorem a7I (h:p:=by first | exact List.Mem.head _ | exact List.Mem.tail _ (List.Mem.head _) | exact List.Mem.tail _ (List.Mem.tail _ (List.Mem.head _)) | simp):p:=h
theorem m8 (h:p:=by simp;omega):p:=h
theorem S8 (h:p:=by rw [hbn];exact Nat.le_of_ble_eq_true Z):p:=h
theorem A3 (h:p:=by rw [hpin];decide):p:=h
theorem a8V (h:p:=by rw [List.length_set,List.length_set,List.length_map,a4F J];omega):p:=h
theorem X9 (h:p:=by exact Nat.le_of_ble_eq_true Z):p:=h
theorem Y0 (h:p:=by rw [List.length_map];omega):p:=h
theorem a5O (h:p:=by simp only [tgM,List.set_set];rw [List.map_set];rfl):p:=h
theorem a8W (h:p:=by rw [List.length_set,List.length_map,a4F J];omega):p:=h
theorem a0I (h:p:=by rw [List.nil_append,c7X]):p:=h
theorem a1A (h:p:=by first | assumption | omega):p:=h
theorem a8X (h:p:=by rw [List.length_map,a4F J];omega):p:=h
theorem b68 (h:p:=by (try simp only [ByteArray.size_append,n9,List.size_toArray,List.length_cons,List.length_nil]);omega):p:=h
theorem a5P (h:p:=by first | (simp;done) | (simp;omega)):p:=h
theorem c0q (h:p:=by first | exact decide_eq_true j5 | exact decide_eq_true (Eq.symm j5) | exact decide_eq_false j5 | exact decide_eq_false (Ne.symm j5)):p:=h
theorem c0p (h:p:=by first | exact .inl J | exact .inr ⟨by omega,by first | assumption | (rw [← Bool.not_eq_true,← a1Z];omega)⟩):p:=h
theorem b2k (h:p:=by first | omega | (simp;done) | (simp;omega)):p:=h
theorem a4P (h:p:=by rw [List.map_set];rfl):p:=h
theorem b4H (h:p:=by first | (simp;done) | (simp [B3,X2];done)):p:=h
theorem c3S (h:p:=by simp only [List.length_take,List.length_append,List.length_map,List.length_drop,List.length_cons,List.length_nil,Int.toNat_natCast,Nat.min_def];(repeat' split)<;>omega):p:=h
theorem c3T (h:p:=by first | exact ArgsOK.of Z | exact ArgsOK.of (congrArg some (congrArg (λz=>[AV.lst 1 z,.v (.int .i64 (x.st.getD i default))]) (a2F (xs:=x.st) (i:=i))))):p:=h
theorem c0r (h:p:=by show x6.1 - (v.1:Int) - 1=x6.1 - ((v.1+1:Nat):Int);omega):p:=h
theorem c3U (h:p:=by first | (simp;omega) | (simp only [List.length_map,List.length_cons,List.length_nil,List.length_replicate];omega)):p:=h
theorem c0s (h:p:=by first | rfl | (simp;done) | (simp [B3,X2];done)):p:=h
theorem c3V (h:p:=by first | exact .inl J | (right;rw [← ht J];first | exact a1Z.mp J | assumption)):p:=h
theorem b69 (h:p:=by rw [a0k,List.map_set];rfl):p:=h
theorem b67 (h:p:=by rw [← hti J];omega):p:=h
theorem c0t (h:p:=by intro c hc;rw [List.mem_singleton.1 hc];rfl):p:=h
theorem c0u (h:p:=by rw [List.length_map,List.length_take];omega):p:=h
theorem b7a (h:p:=by rw [List.length_take];omega):p:=h
theorem c3W (h:p:=by first | (left;omega) | (right;rw [← Bool.not_eq_true,← a1Z];omega)):p:=h
theorem vm1 (k:q) (h:Hd q→p:=by
 intro kk
 refine zgo ?_
 refine a7 Z ?_
 refine B1 1 Z Z Z Z Z Z Z ?_
 exact kk.o):p:=h ⟨k⟩
theorem vm2 (k:q) (h:Hd q→p:=by
 intro kk
 simp only [List.cons_append,List.nil_append]
 exact kk.o):p:=h ⟨k⟩
theorem vm3 (k:q) (h:Hd q→p:=by
 intro kk
 refine zgo ?_
 refine a7 Z ?_
 exact kk.o):p:=h ⟨k⟩
theorem vm4 (k:q) (h:Hd q→p:=by
 intro kk
 refine vm3 ?_
 first | refine b5 Z Z (c8 G Z Z Z Z Z J m8) ?_ | refine b5 Z Z (c8 G Z Z Z Z Z J J) ?_
 refine a7 Z ?_
 exact kk.o):p:=h ⟨k⟩
theorem vm5 (k:q) (h:Hd q→p:=by
 intro kk
 refine a7 Z ?_
 refine b5 Z Z (a0y G Z Z Z Z Z Z w7 w7 w7 w7) ?_
 exact kk.o):p:=h ⟨k⟩
theorem vm6 (k:q) (h:Hd q→p:=by exact λkk=>j8 G np Z Z Z Z Z Z Z Z Z J9 Z Z kk.o):p:=h ⟨k⟩
theorem vm7 (k:q) (h:Hd q→p:=by
 intro kk
 refine a7 Z ?_
 first | refine b5 Z Z (r3 Z Z Z Z J J) ?_ | refine b5 Z Z (t7 Z Z Z Z) ?_
 exact kk.o):p:=h ⟨k⟩
theorem vm8 (k:q) (h:Hd q→p:=by
 intro kk
 refine vm3 ?_
 first | refine b5 Z Z (u7 G Z Z Z Z Z J Y0) ?_ | refine b5 Z Z (u7 G Z Z Z Z Z J K0) ?_ | refine b5 Z Z (u7 G Z Z Z Z Z J J) ?_
 refine a7 Z ?_
 exact kk.o):p:=h ⟨k⟩
theorem vm9 (k:q) (h:Hd q→p:=by
 intro kk
 refine a7 Z ?_
 refine d6 G 2 Z Z Z Z Z ?_
 exact kk.o):p:=h ⟨k⟩
theorem W3 (k:q) (h:Hd q→p:=by
 intro kk
 refine vm3 ?_
 refine b5 Z Z (w5 Z Z Z Z) ?_
 exact kk.o):p:=h ⟨k⟩
theorem c2n (k:q) (h:Hd q→p:=by
 intro kk
 refine vm4 ?_
 first | refine l8 G Z Z Z Z Z (a2D J) Z Z Z Z Z (Nat.le_of_ble_eq_true Z) Z ?_ | refine l8 G Z Z Z Z Z (B6 J J) Z Z Z Z Z (Nat.le_of_ble_eq_true Z) Z ?_ | refine l8 G Z Z Z Z Z (B6 J m8) Z Z Z Z Z (Nat.le_of_ble_eq_true Z) Z ?_
 exact kk.o):p:=h ⟨k⟩
theorem c60 (k:q) (h:Hd q→p:=by
 intro kk
 refine a6n Z Z a8 ?_
 refine e9 G Z Z Z Z Z Z Z Z Z Z Z ?_
 refine b4 ?_
 refine c6y a8 ?_
 refine znk ?_
 exact kk.o):p:=h ⟨k⟩
theorem G9 (k:q) (h:Hd q→p:=by
 intro kk
 refine E5 a8 ?_
 refine znk ?_
 exact kk.o):p:=h ⟨k⟩
theorem p6 (k:q) (h:Hd q→p:=by exact λkk=>a7 Z kk.o):p:=h ⟨k⟩
theorem b4I (k:q) (h:Hd q→p:=by exact λkk=>b5 Z Z (B5 Z Z Z b68) kk.o):p:=h ⟨k⟩
theorem R9 (k:q) (h:Hd q→p:=by
 intro kk
 refine zgo ?_
 refine ⟨Z,?_⟩
 exact kk.o):p:=h ⟨k⟩
theorem c8P (k:q) (h:Hd q→p:=by
 intro kk
 refine f8 [1,2,5,6] Z Z ?_
 refine R9 ?_
 first | refine d7 5 Z a8 a8 Z Z Z Z (c8 G Z Z Z Z Z J J) ?_ | refine d7 5 Z a8 a8 Z Z Z Z (c8 G Z Z Z Z Z J m8) ?_
 first | refine d7 6 Z a8 a8 Z Z Z Z (f6 G Z Z Z Z (a2D J) Z) ?_ | refine d7 6 Z a8 a8 Z Z Z Z (f6 G Z Z Z Z (F9 J J) Z) ?_ | refine d7 6 Z a8 a8 Z Z Z Z (f6 G Z Z Z Z (B6 J J) Z) ?_ | refine d7 6 Z a8 a8 Z Z Z Z (f6 G Z Z Z Z (B6 J m8) Z) ?_
 exact kk.o):p:=h ⟨k⟩
theorem c0v (k:q) (h:Hd q→p:=by
 intro kk
 refine zgn ?_
 refine s5 ?_
 refine s5 ?_
 refine b7 ?_
 iterate 4 refine zst ?_
 refine p6 ?_
 refine b5 Z Z (a2C (v':=.bool false) (w4 Z Z Z Z) c0s) ?_
 refine zgn ?_
 refine a0Y Z ?_
 refine zgn ?_
 exact kk.o):p:=h ⟨k⟩
theorem b71 (k:q) (h:Hd q→p:=by
 intro kk
 refine d4 Z ?_
 refine l2 Z Z (B5 Z Z Z b68) ?_
 exact kk.o):p:=h ⟨k⟩
theorem c2o (k:q) (h:Hd q→p:=by
 intro kk
 refine zsa 0 ?_
 refine zsa 1 ?_
 refine zsa 2 ?_
 refine zsa 3 ?_
 refine zsa 4 ?_
 first | refine d7 5 Z a8 a8 Z Z Z Z (r3 Z Z Z Z J J) ?_ | refine d7 5 Z a8 a8 Z Z Z Z (t7 Z Z Z Z) ?_
 exact kk.o):p:=h ⟨k⟩
theorem c8Q (k:q) (h:Hd q→p:=by
 intro kk
 refine zgo ?_
 refine O8 Z Z Z ?_
 first | refine l2 Z Z (c8 G Z Z Z Z Z J a8X) ?_ | refine l2 Z Z (c8 G Z Z Z Z Z J a8W) ?_ | refine l2 Z Z (c8 G Z Z Z Z Z J a8V) ?_
 refine O8 Z Z Z ?_
 first | refine l2 Z Z (f6 G Z Z Z Z (a0B J) Z) ?_ | refine l2 Z Z (f6 G Z Z Z Z (a05 J J) Z) ?_ | refine l2 Z Z (f6 G Z Z Z Z (a11 J J) Z) ?_
 exact kk.o):p:=h ⟨k⟩
theorem c8R (k:q) (h:Hd q→p:=by
 intro kk
 refine zsa 1 ?_
 refine zsa 2 ?_
 first | refine d7 3 Z a8 a8 Z Z Z Z (M7 G Z Z Z Z Z J J J) ?_ | refine d7 3 Z a8 a8 Z Z Z Z (M7 G Z Z Z Z Z J a5P a5P) ?_
 refine zsa 5 ?_
 refine zsa 8 ?_
 refine zsa 9 ?_
 first | refine d7 10 Z a8 a8 Z Z Z Z (M7 G Z Z Z Z Z J J J) ?_ | refine d7 10 Z a8 a8 Z Z Z Z (M7 G Z Z Z Z Z J a5P a5P) ?_
 exact kk.o):p:=h ⟨k⟩
theorem c8S (k:q) (h:Hd q→p:=by
 intro kk
 refine vm3 ?_
 first | refine b5 Z Z (c8 G Z Z Z Z Z J J) ?_ | refine b5 Z Z (c8 G Z Z Z Z Z J m8) ?_
 refine p6 ?_
 first | refine l8 G Z Z Z Z Z (a2D J) Z Z Z Z Z (Nat.le_of_ble_eq_true Z) Z ?_ | refine l8 G Z Z Z Z Z (F9 J J) Z Z Z Z Z (Nat.le_of_ble_eq_true Z) Z ?_ | refine l8 G Z Z Z Z Z (B6 J J) Z Z Z Z Z (Nat.le_of_ble_eq_true Z) Z ?_ | refine l8 G Z Z Z Z Z (B6 J m8) Z Z Z Z Z (Nat.le_of_ble_eq_true Z) Z ?_
 exact kk.o):p:=h ⟨k⟩
theorem c0w (k:q) (h:Hd q→p:=by
 intro kk
 refine b7 ?_
 refine p6 ?_
 refine b5 Z Z (d5 G Z Z Z Z) ?_
 refine p6 ?_
 refine b5 Z Z (a62 (i8 G Z Z Z Z Z Z Z)) ?_
 refine p6 ?_
 refine b5 Z Z (b8 Z Z) ?_
 refine p6 ?_
 exact kk.o):p:=h ⟨k⟩
theorem c8T (k:q) (h:Hd q→p:=by
 intro kk
 refine vm8 ?_
 first | refine r7 G Z Z Z Z Z (B6 J J) Z Z (.v Z (.own Z (.own Z (.own Z .nil)))) Z Z Z (Nat.le_of_ble_eq_true Z) (λq h=>by cases h) Z ?_ | refine r7 G Z Z Z Z Z (F9 J J) Z Z (.v Z (.own Z (.own Z (.own Z .nil)))) Z Z Z (Nat.le_of_ble_eq_true Z) (λq h=>by cases h) Z ?_ | refine r7 G Z Z Z Z Z (a3B K0 Z) Z Z (.v Z (.own Z (.own Z (.own Z .nil)))) Z Z Z (Nat.le_of_ble_eq_true Z) (λq h=>by cases h) Z ?_
 exact kk.o):p:=h ⟨k⟩
theorem a3K (k:q) (h:Hd q→p:=by
 intro kk
 refine b7 ?_
 iterate 3 refine zst ?_
 exact kk.o):p:=h ⟨k⟩
theorem c61 (k:q) (h:Hd q→p:=by
 intro kk
 refine VStep.mk1 [0,1] 3 (.ptr 6 0) 6 (.box (avR [.slice none 0 0,.slice none 0 0,.slice none 0 0,.slice none 0 0] [])) [] Z Z Z Z Z (λb1 _ hbn=>e9 G Z Z Z Z Z Z Z Z Z Z Z (b4 Z)) a8 a8 a8 a8 ?_
 refine G7 ?_
 exact kk.o):p:=h ⟨k⟩
theorem a4Q (k:q) (h:Hd q→p:=by
 intro kk
 refine vm3 ?_
 refine d6 G 1 Z Z Z Z Z ?_
 exact kk.o):p:=h ⟨k⟩
theorem c62 (k:q) (h:Hd q→p:=by
 intro kk
 refine O8 Z Z Z ?_
 first | refine l2 Z Z (M7 G Z Z Z Z Z J J J) ?_ | refine l2 Z Z (M7 G Z Z Z Z Z J a5P a5P) ?_
 exact kk.o):p:=h ⟨k⟩
theorem a06 (k:q) (h:Hd q→p:=by
 intro kk
 refine zsa 0 ?_
 refine zsa 1 ?_
 refine zsa 2 ?_
 refine zsa 3 ?_
 exact kk.o):p:=h ⟨k⟩
theorem b5V (k:q) (h:Hd q→p:=by
 intro kk
 refine vm1 ?_
 refine p6 ?_
 refine B1 2 Z Z Z Z Z Z Z ?_
 refine p6 ?_
 refine d6 G 3 Z Z Z Z Z ?_
 exact kk.o):p:=h ⟨k⟩
theorem a8s (k:q) (h:Hd q→p:=by
 intro kk
 refine vm3 ?_
 refine b5 Z Z (q9 G Z Z Z) ?_
 exact kk.o):p:=h ⟨k⟩
theorem b72 (k:q) (h:Hd q→p:=by
 intro kk
 refine zgn ?_
 refine s5 ?_
 refine r9 ?_
 refine s5 ?_
 refine O0 mixed a8 ?_
 iterate 8 refine zst ?_
 refine d4 Z ?_
 exact kk.o):p:=h ⟨k⟩
theorem c63 (k:q) (h:Hd q→p:=by
 intro kk
 first | refine b5 Z Z (b4b G Z Z Z Z (b8J J J)) ?_ | refine b5 Z Z (b4b G Z Z Z Z (c1j J J)) ?_ | refine b5 Z Z (a2g G Z Z Z Z) ?_
 exact kk.o):p:=h ⟨k⟩
theorem c8U (k:q) (h:Hd q→p:=by
 intro kk
 refine VStep.mk1 [0] 29 (.own 1) 1 (.row 76 2 []) [] Z Z Z Z Z (λb1 _ hbn=>j8 G S8 Z Z Z Z Z Z Z Z Z a5N Z Z (b4 Z)) a8 a8 a8 a8 ?_
 refine G7 ?_
 exact kk.o):p:=h ⟨k⟩
theorem c2p (k:q) (h:Hd q→p:=by
 intro kk
 first | refine l2 Z Z (r3 Z Z Z Z J J) ?_ | refine l2 Z Z (t7 Z Z Z Z) ?_
 iterate 2 refine zst ?_
 exact kk.o):p:=h ⟨k⟩
theorem c8V (k:q) (h:Hd q→p:=by
 intro kk
 refine VStep.mk1 [] 33 (.own 0) 0 (.row 3 1 []) [] Z Z Z Z Z (λb1 _ hbn=>j8 G S8 Z Z Z Z Z Z Z Z Z a5N Z Z (b4 Z)) a8 a8 a8 a8 ?_
 refine G7 ?_
 exact kk.o):p:=h ⟨k⟩
theorem b1b (k:q) (h:Hd q→p:=by
 intro kk
 refine b7 ?_
 refine p6 ?_
 refine B1 1 Z Z Z Z Z Z Z ?_
 exact kk.o):p:=h ⟨k⟩
theorem c64 (k:q) (h:Hd q→p:=by
 intro kk
 refine b7 ?_
 refine p6 ?_
 refine b5 Z Z (b8 Z Z) ?_
 refine p6 ?_
 refine b5 Z Z (d5 G Z Z Z Z) ?_
 refine p6 ?_
 refine b5 Z Z (i8 G Z Z Z Z Z Z Z) ?_
 refine p6 ?_
 refine b5 Z Z (w3 G Z Z Z Z) ?_
 refine p6 ?_
 exact kk.o):p:=h ⟨k⟩
theorem c65 (k:q) (h:Hd q→p:=by
 intro kk
 refine b5 Z Z (b8 Z Z) ?_
 refine p6 ?_
 refine b5 Z Z (f9 Z Z Z) ?_
 refine p6 ?_
 refine b5 Z Z (f9 Z Z Z) ?_
 refine p6 ?_
 refine b5 Z Z (b9 Z Z) ?_
 refine p6 ?_
 refine b5 Z Z (b9 Z Z) ?_
 refine b4 ?_
 exact kk.o):p:=h ⟨k⟩
theorem b1c (k:q) (h:Hd q→p:=by
 intro kk
 refine vm3 ?_
 refine o8 G 1 Z Z Z Z Z Z Z Z ?_
 exact kk.o):p:=h ⟨k⟩
theorem b73 (k:q) (h:Hd q→p:=by exact λkk=>b5 Z Z (U8 G Z Z Z Z J J) kk.o):p:=h ⟨k⟩
theorem a6o (k:q) (h:Hd q→p:=by
 intro kk
 refine zgn ?_
 refine d8 ?_
 refine O2 Z ?_
 refine j4 ?_
 exact kk.o):p:=h ⟨k⟩
theorem W8 (k:q) (h:Hd q→p:=by exact λkk=>l7 Z Z Z kk.o):p:=h ⟨k⟩
theorem c2q (k:q) (h:Hd q→p:=by exact λkk=>b5 Z Z (c8 G Z Z Z Z Z J Y0) kk.o):p:=h ⟨k⟩
theorem c66 (k:q) (h:Hd q→p:=by
 intro kk
 refine zgn ?_
 refine N4 (Gh.close (id:=6) (id':=9) (i:=(tgM m i)) (k:=1) Z Z (a3B K0 Z) (λq h=>by cases h) Z) ?_
 refine zgo ?_
 exact kk.o):p:=h ⟨k⟩
theorem b3q (k:q) (h:Hd q→p:=by exact λkk=>b5 Z Z (a0Z G Z Z Z Z) kk.o):p:=h ⟨k⟩
theorem c67 (k:q) (h:Hd q→p:=by exact λkk=>b5 Z Z (a5a G Z Z Z Z Z Z J b2k b2k) kk.o):p:=h ⟨k⟩
theorem a3L (k:q) (h:Hd q→p:=by
 intro kk
 iterate 2 refine zst ?_
 exact kk.o):p:=h ⟨k⟩
theorem c2r (k:q) (h:Hd q→p:=by
 intro kk
 refine vm3 ?_
 refine d3 2 Z Z Z (ArgsOK.of Z) (N0 sl _ ⟨_,_,_⟩ J J) Z Z ?_
 exact kk.o):p:=h ⟨k⟩
theorem c8W (k:q) (h:Hd q→p:=by
 intro kk
 refine VStep.mk1 [0,1,2,3,4] 6 (.ptr 5 0) 5 (.box (avR [.int .i64 0,.slice none 0 0,.slice none 0 0,.slice none 0 0] [])) [] Z Z Z Z Z (λb1 _ hbn=>e9 G Z Z Z Z Z Z Z Z Z Z Z (b4 Z)) a8 a8 a8 a8 ?_
 refine G7 ?_
 exact kk.o):p:=h ⟨k⟩
theorem c8X (k:q) (h:Hd q→p:=by
 intro kk
 refine VStep.mk1 [0] 21 (.own 1) 1 (.row 76 2 []) [] Z Z Z Z Z (λb1 _ hbn=>j8 G S8 Z Z Z Z Z Z Z Z Z m8 Z Z (b4 Z)) a8 a8 a8 a8 ?_
 refine G7 ?_
 exact kk.o):p:=h ⟨k⟩
theorem c68 (k:q) (h:Hd q→p:=by
 intro kk
 refine w8 6 a8 ?_
 refine a6n Z Z a8 ?_
 refine b5 Z Z (d5 G Z Z Z Z) ?_
 refine b4 ?_
 refine w8 7 a8 ?_
 refine c60 ?_
 refine zgo ?_
 exact kk.o):p:=h ⟨k⟩
theorem c8Y (k:q) (h:Hd q→p:=by
 intro kk
 refine VStep.mk1 [0,1] 5 (.ptr 2 0) 2 (.box (avR [.slice none 0 0,.slice none 0 0] [])) [] Z Z Z Z Z (λb1 _ hbn=>e9 G Z Z Z Z Z Z Z Z Z Z Z (b4 Z)) a8 a8 a8 a8 ?_
 refine G7 ?_
 exact kk.o):p:=h ⟨k⟩
theorem c8Z (k:q) (h:Hd q→p:=by
 intro kk
 refine VStep.mk1 [0,1] 4 (.ptr 2 0) 2 (.box (avR [.slice none 0 0,.slice none 0 0] [])) [] Z Z Z Z Z (λb1 _ hbn=>e9 G Z Z Z Z Z Z Z Z Z Z Z (b4 Z)) a8 a8 a8 a8 ?_
 refine G7 ?_
 exact kk.o):p:=h ⟨k⟩
theorem b4J (k:q) (h:Hd q→p:=by exact λkk=>o8 G 2 Z Z Z Z Z Z Z Z kk.o):p:=h ⟨k⟩
theorem b4K (k:q) (h:Hd q→p:=by exact λkk=>o8 G 3 Z Z Z Z Z Z Z Z kk.o):p:=h ⟨k⟩
theorem c81 (k:q) (h:Hd q→p:=by
 intro kk
 refine vm4 ?_
 first | refine l8 G Z Z Z Z Z (a2D J) Z Z Z Z Z (Nat.le_of_ble_eq_true Z) Z ?_ | refine l8 G Z Z Z Z Z (B6 J J) Z Z Z Z Z (Nat.le_of_ble_eq_true Z) Z ?_
 refine zgn ?_
 exact kk.o):p:=h ⟨k⟩
theorem c82 (k:q) (h:Hd q→p:=by
 intro kk
 refine zsa 0 ?_
 refine zsa 1 ?_
 refine zsa 2 ?_
 first | refine d7 3 Z a8 a8 Z Z Z Z (r3 Z Z Z Z J J) ?_ | refine d7 3 Z a8 a8 Z Z Z Z (t7 Z Z Z Z) ?_
 refine zsa 5 ?_
 refine zsa 6 ?_
 exact kk.o):p:=h ⟨k⟩
theorem c83 (k:q) (h:Hd q→p:=by
 intro kk
 refine zsa 8 ?_
 refine zsa 10 ?_
 refine zsa 11 ?_
 refine zsa 12 ?_
 first | refine d7 13 Z a8 a8 Z Z Z Z (r3 Z Z Z Z J J) ?_ | refine d7 13 Z a8 a8 Z Z Z Z (t7 Z Z Z Z) ?_
 exact kk.o):p:=h ⟨k⟩
theorem c84 (k:q) (h:Hd q→p:=by
 intro kk
 refine zgn ?_
 refine s5 ?_
 refine b7 ?_
 refine zst ?_
 refine p6 ?_
 first | refine b5 Z Z (R6 G Z Z Z Z (show List.length [_]=1 from rfl)) ?_ | refine b5 Z Z (R6 G Z Z Z Z (List.length_map _)) ?_ | refine b5 Z Z (a0T G Z Z Z Z) ?_
 refine zgn ?_
 refine zgn ?_
 exact kk.o):p:=h ⟨k⟩
theorem b4L (k:q) (h:Hd q→p:=by
 intro kk
 refine vm3 ?_
 refine d6 G 2 Z Z Z Z Z ?_
 exact kk.o):p:=h ⟨k⟩
theorem c2s (k:q) (h:Hd q→p:=by
 intro kk
 refine vm3 ?_
 refine b5 Z Z (z6 G Z Z Z Z Z J J J) ?_
 exact kk.o):p:=h ⟨k⟩
theorem b5W (k:q) (h:Hd q→p:=by
 intro kk
 refine p6 ?_
 refine B1 2 Z Z Z Z Z Z Z ?_
 exact kk.o):p:=h ⟨k⟩
theorem c2t (k:q) (h:Hd q→p:=by exact λkk=>j8 G np Z Z Z Z Z Z Z Z Z m8 Z Z kk.o):p:=h ⟨k⟩
theorem c69 (k:q) (h:Hd q→p:=by
 intro kk
 refine vm3 ?_
 refine d3 1 Z Z Z (ArgsOK.of Z) (N0 sl _ ⟨_,_,_⟩ J J) Z Z ?_
 exact kk.o):p:=h ⟨k⟩
theorem b4M (k:q) (h:Hd q→p:=by exact λkk=>d6 G 8 Z Z Z Z Z kk.o):p:=h ⟨k⟩
theorem b74 (k:q) (h:Hd q→p:=by exact λkk=>b5 Z Z (U7 G Z Z Z Z) kk.o):p:=h ⟨k⟩
theorem b4N (k:q) (h:Hd q→p:=by
 intro kk
 refine f8 [0,2,3,4] Z Z ?_
 refine R9 ?_
 exact kk.o):p:=h ⟨k⟩
theorem c86 (k:q) (h:Hd q→p:=by
 intro kk
 refine p6 ?_
 refine j8 G A3 Z Z Z Z Z Z Z Z Z J9 Z Z ?_
 refine zgo ?_
 exact kk.o):p:=h ⟨k⟩
theorem a8t (k:q) (h:Hd q→p:=by
 intro kk
 refine zsa 4 ?_
 refine zsa 5 ?_
 refine zsa 6 ?_
 exact kk.o):p:=h ⟨k⟩
theorem c87 (k:q) (h:Hd q→p:=by
 intro kk
 first | refine b5 Z Z (j9 G Z Z Z Z Z (a2D J) Z) ?_ | refine b5 Z Z (j9 G Z Z Z Z Z (B6 J J) Z) ?_
 exact kk.o):p:=h ⟨k⟩
theorem c2u (k:q) (h:Hd q→p:=by
 intro kk
 refine p6 ?_
 refine e9 G Z Z Z Z Z Z Z Z Z Z Z ?_
 exact kk.o):p:=h ⟨k⟩
theorem c7a (k:q) (h:Hd q→p:=by exact λkk=>b5 Z Z (j9 G Z Z Z Z Z (B6 J m8) Z) kk.o):p:=h ⟨k⟩
theorem c7b (k:q) (h:Hd q→p:=by
 intro kk
 refine a3T (Gh.nest (id:=5) (yss:=[]) Z Z (by intro _ _ _ h;simp at h)) ?_
 refine G9 ?_
 refine zgo ?_
 exact kk.o):p:=h ⟨k⟩
theorem b75 (k:q) (h:Hd q→p:=by
 intro kk
 refine w8 6 a8 ?_
 refine c60 ?_
 refine a3K ?_
 exact kk.o):p:=h ⟨k⟩
theorem a33 (k:q) (h:Hd q→p:=by
 intro kk
 refine s5 ?_
 refine b7 ?_
 exact kk.o):p:=h ⟨k⟩
theorem b3r (k:q) (h:Hd q→p:=by
 intro kk
 refine f8 [0] Z Z ?_
 refine R9 ?_
 exact kk.o):p:=h ⟨k⟩
theorem c88 (k:q) (h:Hd q→p:=by
 intro kk
 refine vm3 ?_
 refine b73 ?_
 refine p6 ?_
 first | refine b5 Z Z (a8a G Z Z Z Z J J) ?_ | refine b5 Z Z (a2g G Z Z Z Z) ?_
 exact kk.o):p:=h ⟨k⟩
theorem b76 (k:q) (h:Hd q→p:=by exact λkk=>d6 G 5 Z Z Z Z Z kk.o):p:=h ⟨k⟩
theorem b3s (k:q) (h:Hd q→p:=by exact λkk=>zcl (a0J _ _ _) kk.o):p:=h ⟨k⟩
theorem c89 (k:q) (h:Hd q→p:=by
 intro kk
 refine vm3 ?_
 first | refine b5 Z Z (a7Y Z Z Z J J) ?_ | refine b5 Z Z (b51 Z Z Z J) ?_
 exact kk.o):p:=h ⟨k⟩
theorem c9a (k:q) (h:Hd q→p:=by
 intro kk
 refine vm3 ?_
 refine c2q ?_
 refine p6 ?_
 refine l8 G Z Z Z Z Z (F9 J J) Z Z Z Z Z (Nat.le_of_ble_eq_true Z) Z ?_
 refine zgo ?_
 exact kk.o):p:=h ⟨k⟩
theorem c2v (k:q) (h:Hd q→p:=by
 intro kk
 refine p6 ?_
 refine b5 Z Z (b9 Z Z) ?_
 refine b4 ?_
 exact kk.o):p:=h ⟨k⟩
theorem c0x (k:q) (h:Hd q→p:=by
 intro kk
 refine s5 ?_
 refine O0 mixed a8 ?_
 exact kk.o):p:=h ⟨k⟩
theorem c2w (k:q) (h:Hd q→p:=by exact λkk=>b5 Z Z (a4d G Z Z Z Z) kk.o):p:=h ⟨k⟩
theorem b77 (k:q) (h:Hd q→p:=by
 intro kk
 refine zsa 0 ?_
 refine zsa 1 ?_
 refine zsa 2 ?_
 refine zsa 4 ?_
 exact kk.o):p:=h ⟨k⟩
theorem b1d (k:q) (h:Hd q→p:=by exact λkk=>O8 Z Z Z kk.o):p:=h ⟨k⟩
theorem c2x (k:q) (h:Hd q→p:=by exact λkk=>o8 G 4 Z Z Z Z Z Z Z Z kk.o):p:=h ⟨k⟩
end Go.Rf
