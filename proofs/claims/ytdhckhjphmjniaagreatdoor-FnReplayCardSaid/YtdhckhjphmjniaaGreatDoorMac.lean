/- Names for what is said again and again in walks. -/
import Derived.Test.YtdhckhjphmjniaaGreatDoorLibE
set_option linter.unusedSimpArgs false
set_option linter.unusedVariables false
namespace Go.Rf
variable {p q:Prop}
theorem b8M (h:p:=by (first | (rw [hS];done) | (rw [hS];(first | rfl | exact List.map_set.symm | (rw [I8];done) | exact c7n Z | (simp only [s2];done))))):p:=h
theorem c3i (h:p:=by (first | (rw [hO];done) | (rw [hO];rfl))):p:=h
theorem c73 (h:p:=by (first | (exact congrArg Value.bool (c6R j6).symm) | (exact congrArg Value.bool (c6S J).symm) | (exact congrArg Value.bool (c0n (k:=k) (c6U j6) J).symm) | (exact congrArg Value.bool (c0n (k:=k) (c6V j6) J).symm) | (exact congrArg Value.bool (c6T h1 J J hk.2 J).symm))):p:=h
theorem c74 (h:p:=by (first | (have e:Z0 s=true:=a3I hinv.2 J;simp [e];done) | (have e:Z0 s=false:=a1D (i:=i) (by simp only [a4C,Bool.and_eq_false_iff,decide_eq_false_iff_not,Bool.not_eq_false',beq_iff_eq];omega) J;simp [e];done))):p:=h
theorem c77 (h:p:=by (first | rfl | (unfold a1L;rw [ho];done) | (unfold a1L;rw [ho];rfl))):p:=h
theorem c78 (h:p:=by (first | rfl | (rw [List.take_length];done) | (rw [List.take_length];rfl) | simp)):p:=h
theorem c79 (h:p:=by (first | rfl | exact hc9.mono J | (dsimp only;rw [List.map_set];rfl) | (rw [List.map_append];rfl) | (show List.length _<=5;(try simp only [List.length_set,List.length_append,List.length_cons,List.length_nil]);omega))):p:=h
theorem c9Z (h:p:=by (first | (exact congrArg Value.bool (b9N (q:=⟨sl,wa⟩) (i:=i) (b63 (λg=>by dsimp only at g;first | exact a0t j6 g.1 | exact a0t j6 g.2.1 | (have:=g.2.2.1;omega) | (have h9:=b53.mp (show 0<=O4 (λj=>decide ((wa.getD j default).q=(wa.getD i default).q)) i by omega);obtain ⟨j,hj,e⟩:=b0U.mp h9;exact g.2.2.2.1 j hj (of_decide_eq_true e)) | (rcases g.2.2.2.2 with g1 | g1<;>first | (exfalso;omega) | (rw [← ht J] at g1;first | (have:=a2g.mpr g1;omega) | (simp_all;done))) | exact g.2.2.2.1 _ J j6)) (show i < wa.length by omega)).symm) | (exact congrArg Value.bool (b9M (q:=⟨sl,wa⟩) j6).symm) | (exact congrArg Value.bool (b9P j6 hinv.2 J J)))):p:=h
theorem c4l (h:p:=by (first | (rw [R3 (i:=i) hinv.2 J j6];done) | (rw [a0N hinv.2 J];done))):p:=h
theorem c4m (h:p:=by (first | (exact congrArg Value.bool (b9M (q:=⟨sl,wa⟩) j6).symm) | (exact congrArg Value.bool (b9O (q:=⟨sl,wa⟩) j6 hinv.2 (show wa.length<=i by omega)).symm) | (exact congrArg Value.bool (b9N (q:=⟨sl,wa⟩) (i:=i) (b63 (λg=>by dsimp only at g;first | exact a0t j6 g.1 | exact a0t j6 g.2.1 | (have:=g.2.2.1;omega) | (have h9:=b53.mp (show 0<=O4 (λj=>decide ((wa.getD j default).q=(wa.getD i default).q)) i by omega);obtain ⟨j,hj,e⟩:=b0U.mp h9;exact g.2.2.2.1 j hj (of_decide_eq_true e)) | (rcases g.2.2.2.2 with g1 | g1<;>first | (exfalso;omega) | (rw [← ht J] at g1;first | (have:=a2g.mpr g1;omega) | (simp_all;done))) | exact g.2.2.2.1 _ J j6)) (show i < wa.length by omega)).symm))):p:=h
theorem c4n (h:p:=by (first | (exact congrArg Value.bool (b9K hinv.2 J)) | (rw [b58 J];done) | (exact congrArg Value.bool (b57 (i:=i) (b9J (λg=>by first | exact a0t j6 g.1 | exact a0t j6 g.2.1 | exact a0t j6 g.2.2)) J).symm) | (exact congrArg Value.bool (b57 (i:=i) (by first | exact c2s J J | exact c2t J J J) J).symm))):p:=h
theorem c4o (h:p:=by (first | (exact congrArg Value.bool (b58 J).symm) | (exact congrArg Value.bool (b9I J hinv.2 J).symm) | (exact congrArg Value.bool (b57 (i:=i) (by first | exact b9G j6 (λe=>d06 j6 (b0V.mp e)) | exact b9H j6 (b53.mp J) | exact b56 j6 (c6D j6) | exact b56 j6 (c6E j6) | exact b56 j6 (c6F j6)) J).symm))):p:=h
theorem c4p (h:p:=by (first | (exact congrArg Value.bool (c0o h1).symm) | (exact congrArg Value.bool (c0p h2).symm) | (exact congrArg Value.bool (b01 (c2H (i:=i) J (λg=>b3I.mp h4 ((a7G 4).mpr g)))).symm) | (obtain ⟨k,hk,e⟩:=(a7K J).mp (b02.mp h5);(exact congrArg Value.bool (b01 (c0j hSl hk J e)).symm)) | (exact congrArg Value.bool (b01 (c0f (i:=i) (c3Y J b7R) J)).symm) | (have e:i=x.st.length:=J;subst e;rw [c6Z h1 h2,hinv.2.fin hSl,d08,a7H];done))):p:=h
theorem c4q (h:p:=by (first | (exact congrArg Value.bool (c0m hi.2 J hj.2 J).symm) | (exact congrArg Value.bool (c0l (i:=i) (c0k.mpr (λg=>by first | exact g.1 j6 | (rcases g.2 with g2 | ⟨g2,g3⟩<;>first | (exact absurd g2 j6) | (exact absurd g3 j6)))) J).symm) | (exact congrArg Value.bool (c6Q (i:=j) (c6P.mpr (λg=>by first | exact absurd g.1 j6 | exact absurd g.2 j6)) J).symm))):p:=h
theorem c4r (h:p:=by (first | rfl | (have e:i=xs.length:=J;subst e;simp;done) | (have ht1:((i:Int)+1).toNat=i+1:=J;first | (rw [show List.take ((((xs.map j8).length:Nat):Int).toNat - ((i:Nat):Int).toNat) (List.drop ((i:Nat):Int).toNat (xs.map j8))=List.drop i (xs.map j8) from List.take_of_length_le (by rw [List.length_drop,Int.toNat_natCast,Int.toNat_natCast];exact Nat.le_refl _)];simp only [Int.toNat_natCast,ht1,Int.toNat_zero,List.length_drop,List.length_cons,List.length_nil,Nat.zero_add,List.map_append,List.map_take,List.map_drop,List.map_cons,List.map_nil,Nat.sub_zero];exact b9r (by rw [List.length_map];exact hi) (by rw [List.length_replicate,List.length_map])) | (rw [show xs.length+1=(xs.map j8).length+1 from by rw [List.length_map]];simp only [Int.toNat_natCast,ht1,Int.toNat_zero,List.length_drop,List.length_cons,List.length_nil,Nat.zero_add,List.map_append,List.map_take,List.map_drop,List.map_cons,List.map_nil,Nat.sub_zero];exact b4K (by rw [List.length_map];exact hi) J)))):p:=h
theorem c4s (h:p:=by (first | (exact congrArg Value.bool (c0o h1).symm) | (exact congrArg Value.bool (c0p h2).symm) | (exact congrArg Value.bool (b01 (b3E h3)).symm) | (exact congrArg Value.bool (b01 (c0f (i:=i) (c3Y J b7R) J)).symm) | (exact congrArg Value.bool (c6Y h1 h2 (c0g h3 hinv.2 J)).symm))):p:=h
theorem c4t (h:p:=by (first | (rw [c2h (i:=i) J (by simp only [b5Z];try rw [← ftn];omega)];done) | (rw [c2i (i:=i) J (by simp only [b5Z];try rw [← ftn];omega)];done))):p:=h
theorem c4u (h:p:=by (first | (have e:a2A rs.length (λi=>b0Q c (rs.getD i default))=false:=a1D (i:=i) (by simp_all [b0Q]) J;simp only [okRts,e,Bool.and_false];done) | (have e:a2A rs.length (λi=>b0Q c (rs.getD i default))=true:=a3I hinv.2 J;first | (simp only [okRts,e,h4,d03,Bool.and_true,Bool.true_and,Bool.false_and];done)))):p:=h
theorem c4v (h:p:=by (first | rfl | (rw [c0A (i:=i) J j6 j6];done) | (rw [c7c (k:=k) hinv.2 J J (by first | exact b7r J | exact c2R J J)];done) | (rw [c7d hinv.2 J J hk.2];done))):p:=h
theorem c4w (h:p:=by (first | (rw [b9Q (a5G.mpr J)];done) | (rw [b9Q (a5G.mpr J)];rfl) | (rw [b64 (J7.mpr J)];done) | (rw [b64 (J7.mpr J)];rfl))):p:=h
theorem c4x (h:p:=by (first | (have e:l≠r:=λe=>(by (subst e;omega));simp [e];done) | (have e:l=r:=b0u J hinv.2 J;simp [e];done) | (have e:l≠r:=b4u (i:=i) (λe=>(by simp_all));simp [e];done))):p:=h
theorem c4y (h:p:=by (first | (rw [b62 J];done) | (rw [c2g J (show i=8 by omega)];done))):p:=h
theorem c4z (h:p:=by ((rw [c2F hk.2 hk.1 (by first | exact .inl J | exact .inr ⟨by omega,by omega⟩),a2W,b0X];simp [Rf.s3];done))):p:=h
theorem c4A (h:p:=by (first | (have e:n7 s b=true:=V7 (i:=i) (by simp only [beq_iff_eq];omega) J;simp [e];done) | (have e:n7 s b=false:=a2B (i:=i) (λj hj=>by simpa using hinv.2 j hj) J;simp [e];done))):p:=h
theorem c4B (h:p:=by (first | (rw [b9E hinv.2 J j6];done) | (rw [c3T hinv.2 J];done))):p:=h
theorem c4C (h:p:=by (first | (rw [r5,R3 (i:=i) hinv.2 J (by simp_all [fdP])];done) | (rw [r5,a0N hinv.2 J];done))):p:=h
theorem c4D (h:p:=by (first | (rw [freS,R3 (i:=i) hinv.2 J (by simp_all [emP])];done) | (rw [freS,a0N hinv.2 J];done))):p:=h
theorem c4E (h:p:=by (first | (rw [inW,R3 (i:=i) hinv.2 J (decide_eq_true j6)];done) | (rw [inW,a0N hinv.2 J];done))):p:=h
theorem c4F (h:p:=by (first | (rw [a7v hinv.2 hinv.1 c1k];done) | (rw [a7v hinv.2 hinv.1 c1k];rfl))):p:=h
theorem c4G (h:p:=by (first | (rw [a7v hinv.2 hinv.1 c1k,a2W,b0X];simp [j8];done))):p:=h
theorem c4H (h:p:=by (first | rfl | (rw [ht];done) | (rw [ht];rfl) | (rw [ht,ht2];done) | (rw [ht,ht2];rfl))):p:=h
theorem c4I (h:p:=by (first | rfl | (rw [ht];done) | (rw [ht];rfl) | (rw [ht,ht2];done) | (rw [ht,ht2];rfl) | (rw [ht,ht2];simp [a3j,Rf.s3];done))):p:=h
theorem c4J (h:p:=by (first | (rw [R3 (i:=i) hinv.2 J c1l];done) | (rw [a0N hinv.2 J];done))):p:=h
theorem c4K (h:p:=by (simp only [a9v];first | (rw [V7 (i:=i) c1l J];done) | (rw [a2B hinv.2 J];done))):p:=h
theorem c4L (h:p:=by (first | rfl | exact hc11.mono J | (dsimp only;rw [List.map_set];rfl) | (rw [List.map_append];rfl) | (refine ⟨?_,?_⟩<;>(show List.length _<=_;(try simp only [List.length_set,List.length_append,List.length_cons,List.length_nil]);omega)))):p:=h
theorem c4M (h:p:=by (first | (rw [hM];done) | (rw [hM];rfl) | (rw [hM];simp [a7z];done) | (rw [hM];simp [noM];done) | (rw [hM];have e:k=n:=J;subst e;first | done | rfl | (simp [a7z];done)))):p:=h
theorem c4N (h:p:=by (first | rfl | exact hc8.mono J | (dsimp only;rw [List.map_set];rfl) | (rw [List.map_append];rfl) | exact hV.dr | exact hV.dr.setR | exact hV.dr.addA hV.ra | exact hV.dr.setC j6 | exact hV.dr.addC hV.n.2 j6 | (exact congrArg (λz=>Row.nest _ _ z []) a43))):p:=h
theorem c4O (h:p:=by (first | (exact congrArg Value.bool (c0l (i:=i) (c0k.mpr (λg=>g.1 J)) J).symm) | (exact congrArg Value.bool (c9e hinv.2)))):p:=h
theorem c4P (h:p:=by (first | rfl | (rw [c0A (i:=i) J j6 j6];done) | (rw [b6s hinv.2 J];done))):p:=h
theorem a8 (h:p:=by kernel_rfl):p:=h
theorem w9 (h:p:=by (try simp only [List.length_take,List.length_append,List.length_map,List.length_drop,List.length_cons,List.length_nil,List.length_replicate,Int.toNat_natCast]);omega):p:=h
theorem N6 (h:p:=by first | (simp only [List.length_map,List.length_cons,List.length_nil];omega) | (simp;omega)):p:=h
theorem F4 (h:p:=by show x1.1 - (z.1:Int) - 1=x1.1 - ((z.1+1:Nat):Int);omega):p:=h
theorem a57 (h:p:=by first | (simp;omega) | (simp only [a2W,b0X,List.length_append,List.length_map,List.length_take,List.length_drop,List.length_cons,List.length_nil];omega)):p:=h
theorem j6 (h:p:=by assumption):p:=h
theorem N7 (h:p:=by simp only [List.length_set,List.length_map];omega):p:=h
theorem a77 (h:p:=by first | exact List.Mem.head _ | exact List.Mem.tail _ (List.Mem.head _) | exact List.Mem.tail _ (List.Mem.tail _ (List.Mem.head _)) | simp):p:=h
theorem n8 (h:p:=by simp;omega):p:=h
theorem U5 (h:p:=by rw [hbn];exact Nat.le_of_ble_eq_true Z):p:=h
theorem B6 (h:p:=by rw [hpin];decide):p:=h
theorem a9o (h:p:=by rw [List.length_set,List.length_set,List.length_map,a4T J];omega):p:=h
theorem Z6 (h:p:=by exact Nat.le_of_ble_eq_true Z):p:=h
theorem Y4 (h:p:=by rw [List.length_map];omega):p:=h
theorem a58 (h:p:=by simp only [tgM,List.set_set];rw [List.map_set];rfl):p:=h
theorem Z7 (h:p:=by first | assumption | omega):p:=h
theorem a9p (h:p:=by rw [List.length_set,List.length_map,a4T J];omega):p:=h
theorem a00 (h:p:=by rw [List.nil_append,c87]):p:=h
theorem a9q (h:p:=by rw [List.length_map,a4T J];omega):p:=h
theorem b7S (h:p:=by (try simp only [ByteArray.size_append,n6,List.size_toArray,List.length_cons,List.length_nil]);omega):p:=h
theorem a6a (h:p:=by first | (simp;done) | (simp;omega)):p:=h
theorem c1l (h:p:=by first | exact decide_eq_true j6 | exact decide_eq_true (Eq.symm j6) | exact decide_eq_false j6 | exact decide_eq_false (Ne.symm j6)):p:=h
theorem c1k (h:p:=by first | exact .inl J | exact .inr ⟨by omega,by first | assumption | (rw [← Bool.not_eq_true,← a2g];omega)⟩):p:=h
theorem b2S (h:p:=by first | omega | (simp;done) | (simp;omega)):p:=h
theorem a43 (h:p:=by rw [List.map_set];rfl):p:=h
theorem b5o (h:p:=by first | (simp;done) | (simp [E0,Y9];done)):p:=h
theorem c4Q (h:p:=by simp only [List.length_take,List.length_append,List.length_map,List.length_drop,List.length_cons,List.length_nil,Int.toNat_natCast,Nat.min_def];(repeat' split)<;>omega):p:=h
theorem c4R (h:p:=by first | exact ArgsOK.of Z | exact ArgsOK.of (congrArg some (congrArg (λz=>[AV.lst 1 z,.v (.int .i64 (x.st.getD i default))]) (a2W (xs:=x.st) (i:=i))))):p:=h
theorem c1m (h:p:=by show x6.1 - (v.1:Int) - 1=x6.1 - ((v.1+1:Nat):Int);omega):p:=h
theorem c4S (h:p:=by first | (simp;omega) | (simp only [List.length_map,List.length_cons,List.length_nil,List.length_replicate];omega)):p:=h
theorem c1n (h:p:=by first | rfl | (simp;done) | (simp [E0,Y9];done)):p:=h
theorem c4T (h:p:=by first | exact .inl J | (right;rw [← ht J];first | exact a2g.mp J | assumption)):p:=h
theorem b7T (h:p:=by rw [a0x,List.map_set];rfl):p:=h
theorem b7R (h:p:=by rw [← hti J];omega):p:=h
theorem c1o (h:p:=by intro c hc;rw [List.mem_singleton.1 hc];rfl):p:=h
theorem c1p (h:p:=by rw [List.length_map,List.length_take];omega):p:=h
theorem b7U (h:p:=by rw [List.length_take];omega):p:=h
theorem c4U (h:p:=by first | (left;omega) | (right;rw [← Bool.not_eq_true,← a2g];omega)):p:=h
theorem vm1 (k:q) (h:Hd q→p:=by
 intro kk
 refine zgo ?_
 refine a7 Z ?_
 refine B4 1 Z Z Z Z Z Z Z ?_
 exact kk.o):p:=h ⟨k⟩
theorem vm2 (k:q) (h:Hd q→p:=by
 intro kk
 simp only [List.cons_append,List.nil_append]
 exact kk.o):p:=h ⟨k⟩
theorem vm3 (k:q) (h:Hd q→p:=by
 intro kk
 refine zgo ?_
 refine a7 Z ?_
 exact kk.o):p:=h ⟨k⟩
theorem vm4 (k:q) (h:Hd q→p:=by
 intro kk
 refine vm3 ?_
 first | refine b5 Z Z (d1 G Z Z Z Z Z J n8) ?_ | refine b5 Z Z (d1 G Z Z Z Z Z J J) ?_
 refine a7 Z ?_
 exact kk.o):p:=h ⟨k⟩
theorem vm5 (k:q) (h:Hd q→p:=by
 intro kk
 refine a7 Z ?_
 refine b5 Z Z (a0P G Z Z Z Z Z Z w9 w9 w9 w9) ?_
 exact kk.o):p:=h ⟨k⟩
theorem vm6 (k:q) (h:Hd q→p:=by exact λkk=>l2 G np Z Z Z Z Z Z Z Z Z N6 Z Z kk.o):p:=h ⟨k⟩
theorem vm7 (k:q) (h:Hd q→p:=by
 intro kk
 refine a7 Z ?_
 first | refine b5 Z Z (q9 Z Z Z Z J J) ?_ | refine b5 Z Z (s6 Z Z Z Z) ?_
 exact kk.o):p:=h ⟨k⟩
theorem vm8 (k:q) (h:Hd q→p:=by
 intro kk
 refine vm3 ?_
 first | refine b5 Z Z (v7 G Z Z Z Z Z J Y4) ?_ | refine b5 Z Z (v7 G Z Z Z Z Z J N7) ?_ | refine b5 Z Z (v7 G Z Z Z Z Z J J) ?_
 refine a7 Z ?_
 exact kk.o):p:=h ⟨k⟩
theorem vm9 (k:q) (h:Hd q→p:=by
 intro kk
 refine a7 Z ?_
 refine d6 G 2 Z Z Z Z Z ?_
 exact kk.o):p:=h ⟨k⟩
theorem W8 (k:q) (h:Hd q→p:=by
 intro kk
 refine vm3 ?_
 refine b5 Z Z (A5 Z Z Z Z) ?_
 exact kk.o):p:=h ⟨k⟩
theorem c3j (k:q) (h:Hd q→p:=by
 intro kk
 refine vm4 ?_
 first | refine l6 G Z Z Z Z Z (a2z J) Z Z Z Z Z (Nat.le_of_ble_eq_true Z) Z ?_ | refine l6 G Z Z Z Z Z (C3 J J) Z Z Z Z Z (Nat.le_of_ble_eq_true Z) Z ?_ | refine l6 G Z Z Z Z Z (C3 J n8) Z Z Z Z Z (Nat.le_of_ble_eq_true Z) Z ?_
 exact kk.o):p:=h ⟨k⟩
theorem b33 (k:q) (h:Hd q→p:=by exact λkk=>b5 Z Z (B0 Z Z Z b7S) kk.o):p:=h ⟨k⟩
theorem c8a (k:q) (h:Hd q→p:=by
 intro kk
 refine a6D Z Z a8 ?_
 refine f6 G Z Z Z Z Z Z Z Z Z Z Z ?_
 refine b4 ?_
 refine c7D a8 ?_
 refine znk ?_
 exact kk.o):p:=h ⟨k⟩
theorem H8 (k:q) (h:Hd q→p:=by
 intro kk
 refine z7 a8 ?_
 refine znk ?_
 exact kk.o):p:=h ⟨k⟩
theorem r6 (k:q) (h:Hd q→p:=by exact λkk=>a7 Z kk.o):p:=h ⟨k⟩
theorem R9 (k:q) (h:Hd q→p:=by
 intro kk
 refine zgo ?_
 refine ⟨Z,?_⟩
 exact kk.o):p:=h ⟨k⟩
theorem c90 (k:q) (h:Hd q→p:=by
 intro kk
 refine g9 [1,2,5,6] Z Z ?_
 refine R9 ?_
 first | refine c8 5 Z a8 a8 Z Z Z Z (d1 G Z Z Z Z Z J J) ?_ | refine c8 5 Z a8 a8 Z Z Z Z (d1 G Z Z Z Z Z J n8) ?_
 first | refine c8 6 Z a8 a8 Z Z Z Z (f8 G Z Z Z Z (a2z J) Z) ?_ | refine c8 6 Z a8 a8 Z Z Z Z (f8 G Z Z Z Z (H1 J J) Z) ?_ | refine c8 6 Z a8 a8 Z Z Z Z (f8 G Z Z Z Z (C3 J J) Z) ?_ | refine c8 6 Z a8 a8 Z Z Z Z (f8 G Z Z Z Z (C3 J n8) Z) ?_
 exact kk.o):p:=h ⟨k⟩
theorem c1q (k:q) (h:Hd q→p:=by
 intro kk
 refine zgn ?_
 refine t8 ?_
 refine t8 ?_
 refine b6 ?_
 iterate 4 refine zst ?_
 refine r6 ?_
 refine b5 Z Z (a1B (v':=.bool false) (u4 Z Z Z Z) c1n) ?_
 refine zgn ?_
 refine Y6 Z ?_
 refine zgn ?_
 exact kk.o):p:=h ⟨k⟩
theorem b8N (k:q) (h:Hd q→p:=by
 intro kk
 refine d8 Z ?_
 refine l8 Z Z (B0 Z Z Z b7S) ?_
 exact kk.o):p:=h ⟨k⟩
theorem c3k (k:q) (h:Hd q→p:=by
 intro kk
 refine zsa 0 ?_
 refine zsa 1 ?_
 refine zsa 2 ?_
 refine zsa 3 ?_
 refine zsa 4 ?_
 first | refine c8 5 Z a8 a8 Z Z Z Z (q9 Z Z Z Z J J) ?_ | refine c8 5 Z a8 a8 Z Z Z Z (s6 Z Z Z Z) ?_
 exact kk.o):p:=h ⟨k⟩
theorem c91 (k:q) (h:Hd q→p:=by
 intro kk
 refine zgo ?_
 refine a4p Z Z Z ?_
 first | refine l8 Z Z (d1 G Z Z Z Z Z J a9q) ?_ | refine l8 Z Z (d1 G Z Z Z Z Z J a9p) ?_ | refine l8 Z Z (d1 G Z Z Z Z Z J a9o) ?_
 refine a4p Z Z Z ?_
 first | refine l8 Z Z (f8 G Z Z Z Z (a0T J) Z) ?_ | refine l8 Z Z (f8 G Z Z Z Z (a1p J J) Z) ?_ | refine l8 Z Z (f8 G Z Z Z Z (a2i J J) Z) ?_
 exact kk.o):p:=h ⟨k⟩
theorem c92 (k:q) (h:Hd q→p:=by
 intro kk
 refine zsa 1 ?_
 refine zsa 2 ?_
 first | refine c8 3 Z a8 a8 Z Z Z Z (O0 G Z Z Z Z Z J J J) ?_ | refine c8 3 Z a8 a8 Z Z Z Z (O0 G Z Z Z Z Z J a6a a6a) ?_
 refine zsa 5 ?_
 refine zsa 8 ?_
 refine zsa 9 ?_
 first | refine c8 10 Z a8 a8 Z Z Z Z (O0 G Z Z Z Z Z J J J) ?_ | refine c8 10 Z a8 a8 Z Z Z Z (O0 G Z Z Z Z Z J a6a a6a) ?_
 exact kk.o):p:=h ⟨k⟩
theorem c93 (k:q) (h:Hd q→p:=by
 intro kk
 refine vm3 ?_
 first | refine b5 Z Z (d1 G Z Z Z Z Z J J) ?_ | refine b5 Z Z (d1 G Z Z Z Z Z J n8) ?_
 refine r6 ?_
 first | refine l6 G Z Z Z Z Z (a2z J) Z Z Z Z Z (Nat.le_of_ble_eq_true Z) Z ?_ | refine l6 G Z Z Z Z Z (H1 J J) Z Z Z Z Z (Nat.le_of_ble_eq_true Z) Z ?_ | refine l6 G Z Z Z Z Z (C3 J J) Z Z Z Z Z (Nat.le_of_ble_eq_true Z) Z ?_ | refine l6 G Z Z Z Z Z (C3 J n8) Z Z Z Z Z (Nat.le_of_ble_eq_true Z) Z ?_
 exact kk.o):p:=h ⟨k⟩
theorem c1r (k:q) (h:Hd q→p:=by
 intro kk
 refine b6 ?_
 refine r6 ?_
 refine b5 Z Z (d5 G Z Z Z Z) ?_
 refine r6 ?_
 refine b5 Z Z (a7l (f9 G Z Z Z Z Z Z Z)) ?_
 refine r6 ?_
 refine b5 Z Z (b8 Z Z) ?_
 refine r6 ?_
 exact kk.o):p:=h ⟨k⟩
theorem a3o (k:q) (h:Hd q→p:=by
 intro kk
 refine b6 ?_
 iterate 3 refine zst ?_
 exact kk.o):p:=h ⟨k⟩
theorem a3p (k:q) (h:Hd q→p:=by
 intro kk
 refine vm3 ?_
 refine d6 G 1 Z Z Z Z Z ?_
 exact kk.o):p:=h ⟨k⟩
theorem c94 (k:q) (h:Hd q→p:=by
 intro kk
 refine vm8 ?_
 first | refine s5 G Z Z Z Z Z (C3 J J) Z Z (.v Z (.own Z (.own Z (.own Z .nil)))) Z Z Z (Nat.le_of_ble_eq_true Z) (λq h=>by cases h) Z ?_ | refine s5 G Z Z Z Z Z (H1 J J) Z Z (.v Z (.own Z (.own Z (.own Z .nil)))) Z Z Z (Nat.le_of_ble_eq_true Z) (λq h=>by cases h) Z ?_ | refine s5 G Z Z Z Z Z (a3T N7 Z) Z Z (.v Z (.own Z (.own Z (.own Z .nil)))) Z Z Z (Nat.le_of_ble_eq_true Z) (λq h=>by cases h) Z ?_
 exact kk.o):p:=h ⟨k⟩
theorem c8b (k:q) (h:Hd q→p:=by
 intro kk
 refine VStep.mk1 [0,1] 3 (.ptr 6 0) 6 (.box (avR [.slice none 0 0,.slice none 0 0,.slice none 0 0,.slice none 0 0] [])) [] Z Z Z Z Z (λb1 _ hbn=>f6 G Z Z Z Z Z Z Z Z Z Z Z (b4 Z)) a8 a8 a8 a8 ?_
 refine E1 ?_
 exact kk.o):p:=h ⟨k⟩
theorem c8c (k:q) (h:Hd q→p:=by
 intro kk
 refine a4p Z Z Z ?_
 first | refine l8 Z Z (O0 G Z Z Z Z Z J J J) ?_ | refine l8 Z Z (O0 G Z Z Z Z Z J a6a a6a) ?_
 exact kk.o):p:=h ⟨k⟩
theorem a1q (k:q) (h:Hd q→p:=by
 intro kk
 refine zsa 0 ?_
 refine zsa 1 ?_
 refine zsa 2 ?_
 refine zsa 3 ?_
 exact kk.o):p:=h ⟨k⟩
theorem b8O (k:q) (h:Hd q→p:=by exact λkk=>b5 Z Z (d1 G Z Z Z Z Z J Y4) kk.o):p:=h ⟨k⟩
theorem b6E (k:q) (h:Hd q→p:=by
 intro kk
 refine vm1 ?_
 refine r6 ?_
 refine B4 2 Z Z Z Z Z Z Z ?_
 refine r6 ?_
 refine d6 G 3 Z Z Z Z Z ?_
 exact kk.o):p:=h ⟨k⟩
theorem a78 (k:q) (h:Hd q→p:=by
 intro kk
 refine vm3 ?_
 refine b5 Z Z (p9 G Z Z Z) ?_
 exact kk.o):p:=h ⟨k⟩
theorem b8P (k:q) (h:Hd q→p:=by
 intro kk
 refine zgn ?_
 refine t8 ?_
 refine p8 ?_
 refine t8 ?_
 refine S5 mixed a8 ?_
 iterate 8 refine zst ?_
 refine d8 Z ?_
 exact kk.o):p:=h ⟨k⟩
theorem c8d (k:q) (h:Hd q→p:=by
 intro kk
 first | refine b5 Z Z (b4R G Z Z Z Z (b9x J J)) ?_ | refine b5 Z Z (b4R G Z Z Z Z (c2e J J)) ?_ | refine b5 Z Z (a2y G Z Z Z Z) ?_
 exact kk.o):p:=h ⟨k⟩
theorem c95 (k:q) (h:Hd q→p:=by
 intro kk
 refine VStep.mk1 [0] 29 (.own 1) 1 (.row 76 2 []) [] Z Z Z Z Z (λb1 _ hbn=>l2 G U5 Z Z Z Z Z Z Z Z Z a57 Z Z (b4 Z)) a8 a8 a8 a8 ?_
 refine E1 ?_
 exact kk.o):p:=h ⟨k⟩
theorem c3l (k:q) (h:Hd q→p:=by
 intro kk
 first | refine l8 Z Z (q9 Z Z Z Z J J) ?_ | refine l8 Z Z (s6 Z Z Z Z) ?_
 iterate 2 refine zst ?_
 exact kk.o):p:=h ⟨k⟩
theorem c96 (k:q) (h:Hd q→p:=by
 intro kk
 refine VStep.mk1 [] 33 (.own 0) 0 (.row 3 1 []) [] Z Z Z Z Z (λb1 _ hbn=>l2 G U5 Z Z Z Z Z Z Z Z Z a57 Z Z (b4 Z)) a8 a8 a8 a8 ?_
 refine E1 ?_
 exact kk.o):p:=h ⟨k⟩
theorem b1K (k:q) (h:Hd q→p:=by
 intro kk
 refine b6 ?_
 refine r6 ?_
 refine B4 1 Z Z Z Z Z Z Z ?_
 exact kk.o):p:=h ⟨k⟩
theorem c8e (k:q) (h:Hd q→p:=by
 intro kk
 refine b6 ?_
 refine r6 ?_
 refine b5 Z Z (b8 Z Z) ?_
 refine r6 ?_
 refine b5 Z Z (d5 G Z Z Z Z) ?_
 refine r6 ?_
 refine b5 Z Z (f9 G Z Z Z Z Z Z Z) ?_
 refine r6 ?_
 refine b5 Z Z (u3 G Z Z Z Z) ?_
 refine r6 ?_
 exact kk.o):p:=h ⟨k⟩
theorem c8f (k:q) (h:Hd q→p:=by
 intro kk
 refine b5 Z Z (b8 Z Z) ?_
 refine r6 ?_
 refine b5 Z Z (e7 Z Z Z) ?_
 refine r6 ?_
 refine b5 Z Z (e7 Z Z Z) ?_
 refine r6 ?_
 refine b5 Z Z (b9 Z Z) ?_
 refine r6 ?_
 refine b5 Z Z (b9 Z Z) ?_
 refine b4 ?_
 exact kk.o):p:=h ⟨k⟩
theorem b1L (k:q) (h:Hd q→p:=by
 intro kk
 refine vm3 ?_
 refine p6 G 1 Z Z Z Z Z Z Z Z ?_
 exact kk.o):p:=h ⟨k⟩
theorem b8Q (k:q) (h:Hd q→p:=by exact λkk=>b5 Z Z (Q9 G Z Z Z Z J J) kk.o):p:=h ⟨k⟩
theorem Y5 (k:q) (h:Hd q→p:=by exact λkk=>m7 Z Z Z kk.o):p:=h ⟨k⟩
theorem c8g (k:q) (h:Hd q→p:=by
 intro kk
 first | refine b5 Z Z (j9 G Z Z Z Z Z (a2z J) Z) ?_ | refine b5 Z Z (j9 G Z Z Z Z Z (C3 J J) Z) ?_
 exact kk.o):p:=h ⟨k⟩
theorem c8h (k:q) (h:Hd q→p:=by
 intro kk
 refine zgn ?_
 refine O6 (Gh.close (id:=6) (id':=9) (i:=(tgM m i)) (k:=1) Z Z (a3T N7 Z) (λq h=>by cases h) Z) ?_
 refine zgo ?_
 exact kk.o):p:=h ⟨k⟩
theorem a79 (k:q) (h:Hd q→p:=by
 intro kk
 refine zgn ?_
 refine d7 ?_
 refine P3 Z ?_
 refine i8 ?_
 exact kk.o):p:=h ⟨k⟩
theorem a3q (k:q) (h:Hd q→p:=by
 intro kk
 iterate 2 refine zst ?_
 exact kk.o):p:=h ⟨k⟩
theorem c1s (k:q) (h:Hd q→p:=by
 intro kk
 refine vm3 ?_
 refine b5 Z Z (z8 G Z Z Z Z Z J J J) ?_
 exact kk.o):p:=h ⟨k⟩
theorem b34 (k:q) (h:Hd q→p:=by exact λkk=>b5 Z Z (a1j G Z Z Z Z) kk.o):p:=h ⟨k⟩
theorem c8i (k:q) (h:Hd q→p:=by exact λkk=>b5 Z Z (a2U G Z Z Z Z Z Z J b2S b2S) kk.o):p:=h ⟨k⟩
theorem c3m (k:q) (h:Hd q→p:=by
 intro kk
 refine vm3 ?_
 refine d3 2 Z Z Z (ArgsOK.of Z) (O2 sl _ ⟨_,_,_⟩ J J) Z Z ?_
 exact kk.o):p:=h ⟨k⟩
theorem c97 (k:q) (h:Hd q→p:=by
 intro kk
 refine VStep.mk1 [0,1,2,3,4] 6 (.ptr 5 0) 5 (.box (avR [.int .i64 0,.slice none 0 0,.slice none 0 0,.slice none 0 0] [])) [] Z Z Z Z Z (λb1 _ hbn=>f6 G Z Z Z Z Z Z Z Z Z Z Z (b4 Z)) a8 a8 a8 a8 ?_
 refine E1 ?_
 exact kk.o):p:=h ⟨k⟩
theorem b35 (k:q) (h:Hd q→p:=by exact λkk=>p6 G 2 Z Z Z Z Z Z Z Z kk.o):p:=h ⟨k⟩
theorem c98 (k:q) (h:Hd q→p:=by
 intro kk
 refine VStep.mk1 [0] 21 (.own 1) 1 (.row 76 2 []) [] Z Z Z Z Z (λb1 _ hbn=>l2 G U5 Z Z Z Z Z Z Z Z Z n8 Z Z (b4 Z)) a8 a8 a8 a8 ?_
 refine E1 ?_
 exact kk.o):p:=h ⟨k⟩
theorem c8j (k:q) (h:Hd q→p:=by
 intro kk
 refine y8 6 a8 ?_
 refine a6D Z Z a8 ?_
 refine b5 Z Z (d5 G Z Z Z Z) ?_
 refine b4 ?_
 refine y8 7 a8 ?_
 refine c8a ?_
 refine zgo ?_
 exact kk.o):p:=h ⟨k⟩
theorem c99 (k:q) (h:Hd q→p:=by
 intro kk
 refine VStep.mk1 [0,1] 5 (.ptr 2 0) 2 (.box (avR [.slice none 0 0,.slice none 0 0] [])) [] Z Z Z Z Z (λb1 _ hbn=>f6 G Z Z Z Z Z Z Z Z Z Z Z (b4 Z)) a8 a8 a8 a8 ?_
 refine E1 ?_
 exact kk.o):p:=h ⟨k⟩
theorem d0a (k:q) (h:Hd q→p:=by
 intro kk
 refine VStep.mk1 [0,1] 4 (.ptr 2 0) 2 (.box (avR [.slice none 0 0,.slice none 0 0] [])) [] Z Z Z Z Z (λb1 _ hbn=>f6 G Z Z Z Z Z Z Z Z Z Z Z (b4 Z)) a8 a8 a8 a8 ?_
 refine E1 ?_
 exact kk.o):p:=h ⟨k⟩
theorem b5p (k:q) (h:Hd q→p:=by exact λkk=>p6 G 3 Z Z Z Z Z Z Z Z kk.o):p:=h ⟨k⟩
theorem d0b (k:q) (h:Hd q→p:=by
 intro kk
 refine vm4 ?_
 first | refine l6 G Z Z Z Z Z (a2z J) Z Z Z Z Z (Nat.le_of_ble_eq_true Z) Z ?_ | refine l6 G Z Z Z Z Z (C3 J J) Z Z Z Z Z (Nat.le_of_ble_eq_true Z) Z ?_
 refine zgn ?_
 exact kk.o):p:=h ⟨k⟩
theorem d0c (k:q) (h:Hd q→p:=by
 intro kk
 refine zsa 0 ?_
 refine zsa 1 ?_
 refine zsa 2 ?_
 first | refine c8 3 Z a8 a8 Z Z Z Z (q9 Z Z Z Z J J) ?_ | refine c8 3 Z a8 a8 Z Z Z Z (s6 Z Z Z Z) ?_
 refine zsa 5 ?_
 refine zsa 6 ?_
 exact kk.o):p:=h ⟨k⟩
theorem d0d (k:q) (h:Hd q→p:=by
 intro kk
 refine zsa 8 ?_
 refine zsa 10 ?_
 refine zsa 11 ?_
 refine zsa 12 ?_
 first | refine c8 13 Z a8 a8 Z Z Z Z (q9 Z Z Z Z J J) ?_ | refine c8 13 Z a8 a8 Z Z Z Z (s6 Z Z Z Z) ?_
 exact kk.o):p:=h ⟨k⟩
theorem d0e (k:q) (h:Hd q→p:=by
 intro kk
 refine zgn ?_
 refine t8 ?_
 refine b6 ?_
 refine zst ?_
 refine r6 ?_
 first | refine b5 Z Z (V6 G Z Z Z Z (show List.length [_]=1 from rfl)) ?_ | refine b5 Z Z (V6 G Z Z Z Z (List.length_map _)) ?_ | refine b5 Z Z (a1y G Z Z Z Z) ?_
 refine zgn ?_
 refine zgn ?_
 exact kk.o):p:=h ⟨k⟩
theorem c3n (k:q) (h:Hd q→p:=by exact λkk=>b5 Z Z (j9 G Z Z Z Z Z (C3 J n8) Z) kk.o):p:=h ⟨k⟩
theorem b5q (k:q) (h:Hd q→p:=by
 intro kk
 refine vm3 ?_
 refine d6 G 2 Z Z Z Z Z ?_
 exact kk.o):p:=h ⟨k⟩
theorem b36 (k:q) (h:Hd q→p:=by exact λkk=>d6 G 8 Z Z Z Z Z kk.o):p:=h ⟨k⟩
theorem b6F (k:q) (h:Hd q→p:=by
 intro kk
 refine r6 ?_
 refine B4 2 Z Z Z Z Z Z Z ?_
 exact kk.o):p:=h ⟨k⟩
theorem c3o (k:q) (h:Hd q→p:=by exact λkk=>l2 G np Z Z Z Z Z Z Z Z Z n8 Z Z kk.o):p:=h ⟨k⟩
theorem c8k (k:q) (h:Hd q→p:=by
 intro kk
 refine vm3 ?_
 refine d3 1 Z Z Z (ArgsOK.of Z) (O2 sl _ ⟨_,_,_⟩ J J) Z Z ?_
 exact kk.o):p:=h ⟨k⟩
theorem b8R (k:q) (h:Hd q→p:=by exact λkk=>b5 Z Z (X2 G Z Z Z Z) kk.o):p:=h ⟨k⟩
theorem b5r (k:q) (h:Hd q→p:=by
 intro kk
 refine g9 [0,2,3,4] Z Z ?_
 refine R9 ?_
 exact kk.o):p:=h ⟨k⟩
theorem d0f (k:q) (h:Hd q→p:=by
 intro kk
 first | refine b5 Z Z (f8 G Z Z Z Z (a2z J) Z) ?_ | refine b5 Z Z (f8 G Z Z Z Z (C3 J J) Z) ?_
 refine r6 ?_
 exact kk.o):p:=h ⟨k⟩
theorem d0g (k:q) (h:Hd q→p:=by
 intro kk
 refine r6 ?_
 refine l2 G B6 Z Z Z Z Z Z Z Z Z N6 Z Z ?_
 refine zgo ?_
 exact kk.o):p:=h ⟨k⟩
theorem a8V (k:q) (h:Hd q→p:=by
 intro kk
 refine zsa 4 ?_
 refine zsa 5 ?_
 refine zsa 6 ?_
 exact kk.o):p:=h ⟨k⟩
theorem b6G (k:q) (h:Hd q→p:=by exact λkk=>d6 G 6 Z Z Z Z Z kk.o):p:=h ⟨k⟩
theorem c3p (k:q) (h:Hd q→p:=by
 intro kk
 refine r6 ?_
 refine f6 G Z Z Z Z Z Z Z Z Z Z Z ?_
 exact kk.o):p:=h ⟨k⟩
theorem c8l (k:q) (h:Hd q→p:=by
 intro kk
 refine a3a (Gh.nest (id:=5) (yss:=[]) Z Z (by intro _ _ _ h;simp at h)) ?_
 refine H8 ?_
 refine zgo ?_
 exact kk.o):p:=h ⟨k⟩
theorem b8S (k:q) (h:Hd q→p:=by
 intro kk
 refine y8 6 a8 ?_
 refine c8a ?_
 refine a3o ?_
 exact kk.o):p:=h ⟨k⟩
theorem c1t (k:q) (h:Hd q→p:=by exact λkk=>b5 Z Z (a17 G Z Z Z Z) kk.o):p:=h ⟨k⟩
theorem a4j (k:q) (h:Hd q→p:=by
 intro kk
 refine t8 ?_
 refine b6 ?_
 exact kk.o):p:=h ⟨k⟩
theorem b37 (k:q) (h:Hd q→p:=by
 intro kk
 refine g9 [0] Z Z ?_
 refine R9 ?_
 exact kk.o):p:=h ⟨k⟩
theorem d0h (k:q) (h:Hd q→p:=by
 intro kk
 refine vm3 ?_
 refine b8Q ?_
 refine r6 ?_
 first | refine b5 Z Z (a8z G Z Z Z Z J J) ?_ | refine b5 Z Z (a2y G Z Z Z Z) ?_
 exact kk.o):p:=h ⟨k⟩
theorem b8T (k:q) (h:Hd q→p:=by exact λkk=>d6 G 5 Z Z Z Z Z kk.o):p:=h ⟨k⟩
theorem b38 (k:q) (h:Hd q→p:=by exact λkk=>zcl (a01 _ _ _) kk.o):p:=h ⟨k⟩
theorem d0i (k:q) (h:Hd q→p:=by
 intro kk
 refine vm3 ?_
 first | refine b5 Z Z (a5n Z Z Z J J) ?_ | refine b5 Z Z (b4i Z Z Z J) ?_
 exact kk.o):p:=h ⟨k⟩
theorem d0j (k:q) (h:Hd q→p:=by
 intro kk
 refine vm3 ?_
 refine b8O ?_
 refine r6 ?_
 refine l6 G Z Z Z Z Z (H1 J J) Z Z Z Z Z (Nat.le_of_ble_eq_true Z) Z ?_
 refine zgo ?_
 exact kk.o):p:=h ⟨k⟩
theorem c3q (k:q) (h:Hd q→p:=by
 intro kk
 refine r6 ?_
 refine b5 Z Z (b9 Z Z) ?_
 refine b4 ?_
 exact kk.o):p:=h ⟨k⟩
theorem c1u (k:q) (h:Hd q→p:=by
 intro kk
 refine t8 ?_
 refine S5 mixed a8 ?_
 exact kk.o):p:=h ⟨k⟩
theorem b8U (k:q) (h:Hd q→p:=by
 intro kk
 refine zsa 0 ?_
 refine zsa 1 ?_
 refine zsa 2 ?_
 refine zsa 4 ?_
 exact kk.o):p:=h ⟨k⟩
theorem b1M (k:q) (h:Hd q→p:=by exact λkk=>a4p Z Z Z kk.o):p:=h ⟨k⟩
theorem c3r (k:q) (h:Hd q→p:=by exact λkk=>p6 G 4 Z Z Z Z Z Z Z Z kk.o):p:=h ⟨k⟩
end Go.Rf
