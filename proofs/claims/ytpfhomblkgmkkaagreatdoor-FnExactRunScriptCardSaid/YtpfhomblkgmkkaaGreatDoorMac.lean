/- Names for what is said again and again in walks. -/
import Derived.Test.YtpfhomblkgmkkaaGreatDoorLibE
set_option linter.unusedSimpArgs false
set_option linter.unusedVariables false
namespace Go.Rf
variable {p q:Prop}
theorem b60 (h:p:=by (first | (rw [hO];done) | (rw [hO];rfl))):p:=h
theorem b61 (h:p:=by (first | (rw [hS];done) | (rw [hS];(first | rfl | exact List.map_set.symm | (rw [J3];done) | exact c5i Z | (simp only [l6];done))))):p:=h
theorem b9q (h:p:=by (exact b7r J J)):p:=h
theorem c1k (h:p:=by (first | (have e:xs≠ys:=λe=>(by (subst e;simp_all;done));simp [e];done) | (have e:xs=ys:=T9 J hinv.2 J;simp [e];done) | (have e:xs≠ys:=O0 (i:=i) (λe=>a4q);simp [e];done))):p:=h
theorem c5F (h:p:=by (first | (exact congrArg Value.bool (c4M i1).symm) | (exact congrArg Value.bool (c4N J).symm) | (exact congrArg Value.bool (b8Q (k:=k) (c4P i1) J).symm) | (exact congrArg Value.bool (b8Q (k:=k) (c4Q i1) J).symm) | (exact congrArg Value.bool (c4O h1 J J hk.2 J).symm))):p:=h
theorem c5G (h:p:=by (first | (have e:Y3 s=true:=a17 hinv.2 J;simp [e];done) | (have e:Y3 s=false:=a0r (i:=i) (by simp only [a6P,Bool.and_eq_false_iff,decide_eq_false_iff_not,Bool.not_eq_false',beq_iff_eq];omega) J;simp [e];done))):p:=h
theorem c5H (h:p:=by (first | rfl | (unfold a3j;rw [ho];done) | (unfold a3j;rw [ho];rfl))):p:=h
theorem c5I (h:p:=by (first | rfl | (rw [List.take_length];done) | (rw [List.take_length];rfl) | simp)):p:=h
theorem c7s (h:p:=by (first | (exact congrArg Value.bool (b77 (q:=⟨sl,wa⟩) (i:=i) (b5l (λg=>by dsimp only at g;first | exact U4 i1 g.1 | exact U4 i1 g.2.1 | (have:=g.2.2.1;omega) | (have h9:=b4x.mp (show 0<=G3 (λj=>decide ((wa.getD j default).q=(wa.getD i default).q)) i by omega);obtain ⟨j,hj,e⟩:=a9B.mp h9;exact g.2.2.2.1 j hj (of_decide_eq_true e)) | (rcases g.2.2.2.2 with g1 | g1<;>first | (exfalso;omega) | (rw [← ht J] at g1;first | (have:=a0V.mpr g1;omega) | (simp_all;done))) | exact g.2.2.2.1 _ J i1)) (show i < wa.length by omega)).symm) | (exact congrArg Value.bool (b76 (q:=⟨sl,wa⟩) i1).symm) | (exact congrArg Value.bool (b8d i1 hinv.2 J J)))):p:=h
theorem c7t (h:p:=by (first | (rw [I9 (i:=i) hinv.2 J i1];done) | (rw [a0s hinv.2 J];done))):p:=h
theorem c7u (h:p:=by (first | (exact congrArg Value.bool (b76 (q:=⟨sl,wa⟩) i1).symm) | (exact congrArg Value.bool (b78 (q:=⟨sl,wa⟩) i1 hinv.2 (show wa.length<=i by omega)).symm) | (exact congrArg Value.bool (b77 (q:=⟨sl,wa⟩) (i:=i) (b5l (λg=>by dsimp only at g;first | exact U4 i1 g.1 | exact U4 i1 g.2.1 | (have:=g.2.2.1;omega) | (have h9:=b4x.mp (show 0<=G3 (λj=>decide ((wa.getD j default).q=(wa.getD i default).q)) i by omega);obtain ⟨j,hj,e⟩:=a9B.mp h9;exact g.2.2.2.1 j hj (of_decide_eq_true e)) | (rcases g.2.2.2.2 with g1 | g1<;>first | (exfalso;omega) | (rw [← ht J] at g1;first | (have:=a0V.mpr g1;omega) | (simp_all;done))) | exact g.2.2.2.1 _ J i1)) (show i < wa.length by omega)).symm))):p:=h
theorem c2i (h:p:=by (first | (exact congrArg Value.bool (b74 hinv.2 J)) | (rw [b4B J];done) | (exact congrArg Value.bool (b4A (i:=i) (b73 (λg=>by first | exact U4 i1 g.1 | exact U4 i1 g.2.1 | exact U4 i1 g.2.2)) J).symm) | (exact congrArg Value.bool (b4A (i:=i) (by first | exact c0B J J | exact c0C J J J) J).symm))):p:=h
theorem c2j (h:p:=by (first | (exact congrArg Value.bool (b4B J).symm) | (exact congrArg Value.bool (b72 J hinv.2 J).symm) | (exact congrArg Value.bool (b4A (i:=i) (by first | exact b70 i1 (λe=>c8r i1 (a9C.mp e)) | exact b71 i1 (b4x.mp J) | exact b4z i1 (c4u i1) | exact b4z i1 (c4v i1) | exact b4z i1 (c4w i1)) J).symm))):p:=h
theorem c2k (h:p:=by (first | (exact congrArg Value.bool (b8R h1).symm) | (exact congrArg Value.bool (b8S h2).symm) | (exact congrArg Value.bool (a9I (c0W (i:=i) J (λg=>b5C.mp h4 ((a6a 4).mpr g)))).symm) | (obtain ⟨k,hk,e⟩:=(a9K J).mp (a9J.mp h5);(exact congrArg Value.bool (a9I (b8M hSl hk J e)).symm)) | (exact congrArg Value.bool (a9I (b8K (i:=i) (c12 J b5U) J)).symm) | (have e:i=x.st.length:=J;subst e;rw [c4U h1 h2,hinv.2.fin hSl,c8t,a6b];done))):p:=h
theorem c2l (h:p:=by (first | (exact congrArg Value.bool (b8P hi.2 J hj.2 J).symm) | (exact congrArg Value.bool (b8O (i:=i) (b8N.mpr (λg=>by first | exact g.1 i1 | (rcases g.2 with g2 | ⟨g2,g3⟩<;>first | (exact absurd g2 i1) | (exact absurd g3 i1)))) J).symm) | (exact congrArg Value.bool (c4L (i:=j) (c4K.mpr (λg=>by first | exact absurd g.1 i1 | exact absurd g.2 i1)) J).symm))):p:=h
theorem c2m (h:p:=by (first | rfl | (have e:i=xs.length:=J;subst e;simp;done) | (have ht1:((i:Int)+1).toNat=i+1:=J;first | (rw [show List.take ((((xs.map f7).length:Nat):Int).toNat - ((i:Nat):Int).toNat) (List.drop ((i:Nat):Int).toNat (xs.map f7))=List.drop i (xs.map f7) from List.take_of_length_le (by rw [List.length_drop,Int.toNat_natCast,Int.toNat_natCast];exact Nat.le_refl _)];simp only [Int.toNat_natCast,ht1,Int.toNat_zero,List.length_drop,List.length_cons,List.length_nil,Nat.zero_add,List.map_append,List.map_take,List.map_drop,List.map_cons,List.map_nil,Nat.sub_zero];exact b7K (by rw [List.length_map];exact hi) (by rw [List.length_replicate,List.length_map])) | (rw [show xs.length+1=(xs.map f7).length+1 from by rw [List.length_map]];simp only [Int.toNat_natCast,ht1,Int.toNat_zero,List.length_drop,List.length_cons,List.length_nil,Nat.zero_add,List.map_append,List.map_take,List.map_drop,List.map_cons,List.map_nil,Nat.sub_zero];exact b3i (by rw [List.length_map];exact hi) J)))):p:=h
theorem c2n (h:p:=by (first | (exact congrArg Value.bool (b8R h1).symm) | (exact congrArg Value.bool (b8S h2).symm) | (exact congrArg Value.bool (a9I (b2l h3)).symm) | (exact congrArg Value.bool (a9I (b8K (i:=i) (c12 J b5U) J)).symm) | (exact congrArg Value.bool (c4T h1 h2 (b8L h3 hinv.2 J)).symm))):p:=h
theorem c2o (h:p:=by (first | (rw [c0s (i:=i) J (by simp only [b6J];try rw [← ftn];omega)];done) | (rw [c0t (i:=i) J (by simp only [b6J];try rw [← ftn];omega)];done))):p:=h
theorem c2p (h:p:=by (first | (have e:a09 rs.length (λi=>a9x c (rs.getD i default))=false:=a0r (i:=i) (by simp_all [a9x]) J;simp only [okRts,e,Bool.and_false];done) | (have e:a09 rs.length (λi=>a9x c (rs.getD i default))=true:=a17 hinv.2 J;first | (simp only [okRts,e,h4,c8q,Bool.and_true,Bool.true_and,Bool.false_and];done)))):p:=h
theorem c2q (h:p:=by (first | rfl | (rw [b86 (i:=i) J i1 i1];done) | (rw [c5a (k:=k) hinv.2 J J (by first | exact b5L J | exact c08 J J)];done) | (rw [c5b hinv.2 J J hk.2];done))):p:=h
theorem c2r (h:p:=by (first | (simp only [b0s];rw [if_pos];have hq:=@a30 xs xs.length;omega) | (have e:i=xs.length:=J;subst e;simp only [b0s];rw [if_neg J];done) | (have hq:=a63 (xs:=xs) (show i+1<=xs.length by omega);rw [I2] at hq;simp only [b0s];rw [if_pos];split at h3<;>omega))):p:=h
theorem c2s (h:p:=by (first | (rw [b8e (b19.mpr J)];done) | (rw [b8e (b19.mpr J)];rfl) | (rw [b5m (X2.mpr J)];done) | (rw [b5m (X2.mpr J)];rfl))):p:=h
theorem c2t (h:p:=by (first | (have e:xs≠ys:=λe=>(by (subst e;simp_all [b4r];done));simp [e];done) | (have e:xs=ys:=T9 J hinv.2 J;simp [e];done) | (have e:xs≠ys:=O0 (i:=i) (λe=>(by simp_all [b4r]));simp [e];done))):p:=h
theorem c2u (h:p:=by (first | (have e:xs≠ys:=λe=>(by (subst e;simp_all [b4u];done));simp [e];done) | (have e:xs=ys:=T9 J hinv.2 J;simp [e];done) | (have e:xs≠ys:=O0 (i:=i) (λe=>(by simp_all [b4u]));simp [e];done))):p:=h
theorem c2v (h:p:=by (first | (have e:xs≠ys:=λe=>(by (subst e;simp_all [b4v];done));simp [e];done) | (have e:xs=ys:=T9 J hinv.2 J;simp [e];done) | (have e:xs≠ys:=O0 (i:=i) (λe=>(by simp_all [b4v]));simp [e];done))):p:=h
theorem c2w (h:p:=by (first | (have e:xs≠ys:=λe=>(by (subst e;omega));simp [e];done) | (have e:xs=ys:=T9 J hinv.2 J;simp [e];done) | (have e:xs≠ys:=O0 (i:=i) (λe=>(by have:=b3A.mpr e;simp_all));simp [e];done))):p:=h
theorem c2x (h:p:=by (first | (have e:l≠r:=λe=>(by (subst e;omega));simp [e];done) | (have e:l=r:=T9 J hinv.2 J;simp [e];done) | (have e:l≠r:=O0 (i:=i) (λe=>a4q);simp [e];done))):p:=h
theorem c2y (h:p:=by (first | (rw [c0q J];done) | (rw [c0r J (show i=8 by omega)];done))):p:=h
theorem c2z (h:p:=by ((rw [c0U hk.2 hk.1 (by first | exact .inl J | exact .inr ⟨by omega,by omega⟩),a1s,a9E];simp [Rf.n8];done))):p:=h
theorem c2A (h:p:=by (first | (rw [b7X hinv.2 J i1];done) | (rw [c1T hinv.2 J];done))):p:=h
theorem c2B (h:p:=by (first | (rw [r9,I9 (i:=i) hinv.2 J (by simp_all [fdP])];done) | (rw [r9,a0s hinv.2 J];done))):p:=h
theorem c2C (h:p:=by (first | (rw [freS,I9 (i:=i) hinv.2 J (by simp_all [emP])];done) | (rw [freS,a0s hinv.2 J];done))):p:=h
theorem c2D (h:p:=by (first | (rw [inW,I9 (i:=i) hinv.2 J (decide_eq_true i1)];done) | (rw [inW,a0s hinv.2 J];done))):p:=h
theorem c2E (h:p:=by (first | (rw [a5X hinv.2 hinv.1 b9r];done) | (rw [a5X hinv.2 hinv.1 b9r];rfl))):p:=h
theorem c2F (h:p:=by (first | (rw [a5X hinv.2 hinv.1 b9r,a1s,a9E];simp [f7];done))):p:=h
theorem c2G (h:p:=by (first | rfl | (rw [ht];done) | (rw [ht];rfl) | (rw [ht,ht2];done) | (rw [ht,ht2];rfl))):p:=h
theorem c2H (h:p:=by (first | rfl | (rw [ht];done) | (rw [ht];rfl) | (rw [ht,ht2];done) | (rw [ht,ht2];rfl) | (rw [ht,ht2];simp [a4U,Rf.n8];done))):p:=h
theorem c2I (h:p:=by (first | (rw [I9 (i:=i) hinv.2 J b9s];done) | (rw [a0s hinv.2 J];done))):p:=h
theorem c2J (h:p:=by (simp only [a9z];first | (rw [M6 (i:=i) b9s J];done) | (rw [a19 hinv.2 J];done))):p:=h
theorem c2K (h:p:=by (first | (exact congrArg Value.bool (b8O (i:=i) (b8N.mpr (λg=>g.1 J)) J).symm) | (exact congrArg Value.bool (c6P hinv.2)))):p:=h
theorem c2L (h:p:=by (first | rfl | (rw [b86 (i:=i) J i1 i1];done) | (rw [b4S hinv.2 J];done))):p:=h
theorem c2M (h:p:=by (first | (have e:l8 s b=true:=M6 (i:=i) (by simp only [beq_iff_eq];omega) J;simp [e];done) | (have e:l8 s b=false:=a19 (i:=i) (λj hj=>by simpa using hinv.2 j hj) J;simp [e];done))):p:=h
theorem c2N (h:p:=by (first | (simp only [mtT];rw [if_pos h1];done) | (obtain ⟨hf0,f,hf1,hf2⟩:=hinv;have e:n=0:=J;subst e;rw [b7v] at hf2;simp only [mtT];rw [if_neg J,hf2];rfl))):p:=h
theorem c2O (h:p:=by (first | (have e:i=xs.length:=J;subst e;rfl) | (exfalso;omega) | (exfalso;simp_all [mkW,mkI,mkO];done))):p:=h
theorem a8 (h:p:=by kernel_rfl):p:=h
theorem s6 (h:p:=by (try simp only [List.length_take,List.length_append,List.length_map,List.length_drop,List.length_cons,List.length_nil,List.length_replicate,Int.toNat_natCast]);omega):p:=h
theorem R2 (h:p:=by first | (simp only [List.length_map,List.length_cons,List.length_nil];omega) | (simp;omega)):p:=h
theorem a4r (h:p:=by first | (simp;omega) | (simp only [a1s,a9E,List.length_append,List.length_map,List.length_take,List.length_drop,List.length_cons,List.length_nil];omega)):p:=h
theorem i1 (h:p:=by assumption):p:=h
theorem F8 (h:p:=by simp only [List.length_set,List.length_map];omega):p:=h
theorem a6p (h:p:=by first | exact List.Mem.head _ | exact List.Mem.tail _ (List.Mem.head _) | exact List.Mem.tail _ (List.Mem.tail _ (List.Mem.head _)) | simp):p:=h
theorem O8 (h:p:=by rw [hbn];exact Nat.le_of_ble_eq_true Z):p:=h
theorem a7S (h:p:=by rw [List.length_set,List.length_set,List.length_map,a3m J];omega):p:=h
theorem a4s (h:p:=by simp only [tgM,List.set_set];rw [List.map_set];rfl):p:=h
theorem a7T (h:p:=by simp only [List.length_set,List.length_map];rw [a3k];omega):p:=h
theorem a7U (h:p:=by rw [List.length_set,List.length_map,a3m J];omega):p:=h
theorem a0B (h:p:=by exact Nat.le_of_ble_eq_true Z):p:=h
theorem X9 (h:p:=by rw [List.nil_append,c6H]):p:=h
theorem a7V (h:p:=by rw [List.length_map,a3m J];omega):p:=h
theorem B1 (h:p:=by simp;omega):p:=h
theorem b5V (h:p:=by (try simp only [ByteArray.size_append,r8,List.size_toArray,List.length_cons,List.length_nil]);omega):p:=h
theorem a4t (h:p:=by first | (simp;done) | (simp;omega)):p:=h
theorem a1Q (h:p:=by first | assumption | omega):p:=h
theorem b9s (h:p:=by first | exact decide_eq_true i1 | exact decide_eq_true (Eq.symm i1) | exact decide_eq_false i1 | exact decide_eq_false (Ne.symm i1)):p:=h
theorem a3w (h:p:=by rw [List.length_map];omega):p:=h
theorem b9r (h:p:=by first | exact .inl J | exact .inr ⟨by omega,by first | assumption | (rw [← Bool.not_eq_true,← a0V];omega)⟩):p:=h
theorem b5W (h:p:=by simp only [List.length_set,List.length_map];rw [a1v J];omega):p:=h
theorem c2P (h:p:=by simp only [List.length_take,List.length_append,List.length_map,List.length_drop,List.length_cons,List.length_nil,Int.toNat_natCast,Nat.min_def];(repeat' split)<;>omega):p:=h
theorem c2Q (h:p:=by first | exact ArgsOK.of Z | exact ArgsOK.of (congrArg some (congrArg (λz=>[AV.lst 1 z,.v (.int .i64 (x.st.getD i default))]) (a1s (xs:=x.st) (i:=i))))):p:=h
theorem b5X (h:p:=by rw [List.length_map,a1v J];omega):p:=h
theorem b5Y (h:p:=by first | omega | (simp;done) | (simp;omega)):p:=h
theorem c2R (h:p:=by first | exact .inl J | (right;rw [← ht J];first | exact a0V.mp J | assumption)):p:=h
theorem b5Z (h:p:=by rw [a0m,List.map_set];rfl):p:=h
theorem b5U (h:p:=by rw [← hti J];omega):p:=h
theorem b9t (h:p:=by intro c hc;rw [List.mem_singleton.1 hc];rfl):p:=h
theorem b9u (h:p:=by rw [List.length_map,List.length_take];omega):p:=h
theorem c2S (h:p:=by first | (left;omega) | (right;rw [← Bool.not_eq_true,← a0V];omega)):p:=h
theorem c2T (h:p:=by rw [Int.tdiv_eq_ediv_of_nonneg J,a10 J J];rfl):p:=h
theorem a4q (h:p:=by simp_all):p:=h
theorem vm1 (k:q) (h:Hd q→p:=by
 intro kk
 refine p6 ?_
 refine b8 ?_
 iterate 3 refine zst ?_
 refine a7 Z ?_
 first | refine b5 Z Z (b9 G Z Z Z Z Z J b5X) ?_ | refine b5 Z Z (b9 G Z Z Z Z Z J (by rw [List.length_set,List.length_map,a1v J];omega)) ?_ | refine b5 Z Z (b9 G Z Z Z Z Z J b5W) ?_
 refine a7 Z ?_
 refine b5 Z Z (V7 G Z Z Z Z) ?_
 refine a7 Z ?_
 first | refine l2 G Z Z Z Z Z (b27 J) Z Z Z Z Z (Nat.le_of_ble_eq_true Z) Z ?_ | refine l2 G Z Z Z Z Z (a8F b5X) Z Z Z Z Z (Nat.le_of_ble_eq_true Z) Z ?_ | refine l2 G Z Z Z Z Z (a8F b5W) Z Z Z Z Z (Nat.le_of_ble_eq_true Z) Z ?_
 refine zgn ?_
 exact kk.o):p:=h ⟨k⟩
theorem vm2 (k:q) (h:Hd q→p:=by
 intro kk
 refine a7 Z ?_
 first | refine b5 Z Z (v6 Z Z Z Z J J) ?_ | refine b5 Z Z (A4 Z Z Z Z) ?_
 exact kk.o):p:=h ⟨k⟩
theorem vm3 (k:q) (h:Hd q→p:=by
 intro kk
 refine zgo ?_
 refine a7 Z ?_
 refine y9 1 Z Z Z Z Z Z Z ?_
 exact kk.o):p:=h ⟨k⟩
theorem vm4 (k:q) (h:Hd q→p:=by
 intro kk
 simp only [List.cons_append,List.nil_append]
 exact kk.o):p:=h ⟨k⟩
theorem vm5 (k:q) (h:Hd q→p:=by exact λkk=>a7 Z kk.o):p:=h ⟨k⟩
theorem vm6 (k:q) (h:Hd q→p:=by
 intro kk
 refine vm5 ?_
 refine j3 G np Z Z Z Z Z Z Z Z Z R2 Z Z ?_
 exact kk.o):p:=h ⟨k⟩
theorem vm7 (k:q) (h:Hd q→p:=by
 intro kk
 refine zgo ?_
 refine vm5 ?_
 first | refine b5 Z Z (b9 G Z Z Z Z Z J B1) ?_ | refine b5 Z Z (b9 G Z Z Z Z Z J J) ?_
 refine vm5 ?_
 exact kk.o):p:=h ⟨k⟩
theorem vm8 (k:q) (h:Hd q→p:=by
 intro kk
 refine vm5 ?_
 first | refine b5 Z Z (b9 G Z Z Z Z Z J b5X) ?_ | refine b5 Z Z (b9 G Z Z Z Z Z J (by rw [List.length_set,List.length_map,a1v J];omega)) ?_ | refine b5 Z Z (b9 G Z Z Z Z Z J b5W) ?_
 refine vm5 ?_
 first | refine l2 G Z Z Z Z Z (b27 J) Z Z Z Z Z (Nat.le_of_ble_eq_true Z) Z ?_ | refine l2 G Z Z Z Z Z (a8F b5X) Z Z Z Z Z (Nat.le_of_ble_eq_true Z) Z ?_ | refine l2 G Z Z Z Z Z (a8F b5W) Z Z Z Z Z (Nat.le_of_ble_eq_true Z) Z ?_
 refine zgn ?_
 refine b8 ?_
 refine zst ?_
 refine vm2 ?_
 refine zgn ?_
 refine b8 ?_
 exact kk.o):p:=h ⟨k⟩
theorem vm9 (k:q) (h:Hd q→p:=by
 intro kk
 refine vm5 ?_
 refine b5 Z Z (W9 G Z Z Z Z Z Z s6 s6 s6 s6) ?_
 exact kk.o):p:=h ⟨k⟩
theorem J4 (k:q) (h:Hd q→p:=by
 intro kk
 refine zgo ?_
 refine vm5 ?_
 refine b5 Z Z (u4 Z Z Z Z) ?_
 exact kk.o):p:=h ⟨k⟩
theorem c1l (k:q) (h:Hd q→p:=by
 intro kk
 refine zgo ?_
 refine vm5 ?_
 first | refine b5 Z Z (q9 G Z Z Z Z Z J a3w) ?_ | refine b5 Z Z (q9 G Z Z Z Z Z J F8) ?_ | refine b5 Z Z (q9 G Z Z Z Z Z J J) ?_
 refine vm5 ?_
 exact kk.o):p:=h ⟨k⟩
theorem b0t (k:q) (h:Hd q→p:=by
 intro kk
 refine vm5 ?_
 refine d8 G 2 Z Z Z Z Z ?_
 exact kk.o):p:=h ⟨k⟩
theorem c1m (k:q) (h:Hd q→p:=by
 intro kk
 refine vm7 ?_
 first | refine l2 G Z Z Z Z Z (a1r J) Z Z Z Z Z (Nat.le_of_ble_eq_true Z) Z ?_ | refine l2 G Z Z Z Z Z (x7 J J) Z Z Z Z Z (Nat.le_of_ble_eq_true Z) Z ?_ | refine l2 G Z Z Z Z Z (x7 J B1) Z Z Z Z Z (Nat.le_of_ble_eq_true Z) Z ?_
 exact kk.o):p:=h ⟨k⟩
theorem b62 (k:q) (h:Hd q→p:=by
 intro kk
 refine vm4 ?_
 refine p6 ?_
 refine p6 ?_
 refine b8 ?_
 iterate 2 refine zst ?_
 refine vm5 ?_
 first | refine b5 Z Z (T7 G Z Z Z Z (by rw [List.length_map,a1v J])) ?_ | refine b5 Z Z (a1o G Z Z Z Z) ?_
 refine zgn ?_
 exact kk.o):p:=h ⟨k⟩
theorem c1n (k:q) (h:Hd q→p:=by
 intro kk
 refine vm5 ?_
 first | refine b5 Z Z (q9 G Z Z Z Z Z J (by rw [List.length_map,a3k];omega)) ?_ | refine b5 Z Z (q9 G Z Z Z Z Z J a7T) ?_
 refine vm5 ?_
 refine b5 Z Z (V7 G Z Z Z Z) ?_
 refine vm5 ?_
 exact kk.o):p:=h ⟨k⟩
theorem J5 (k:q) (h:Hd q→p:=by
 intro kk
 refine zgo ?_
 refine ⟨Z,?_⟩
 exact kk.o):p:=h ⟨k⟩
theorem c7v (k:q) (h:Hd q→p:=by
 intro kk
 refine f8 [1,2,5,6] Z Z ?_
 refine J5 ?_
 first | refine d4 5 Z a8 a8 Z Z Z Z (b9 G Z Z Z Z Z J J) ?_ | refine d4 5 Z a8 a8 Z Z Z Z (b9 G Z Z Z Z Z J B1) ?_
 first | refine d4 6 Z a8 a8 Z Z Z Z (d7 G Z Z Z Z (a1r J) Z) ?_ | refine d4 6 Z a8 a8 Z Z Z Z (d7 G Z Z Z Z (V9 J J) Z) ?_ | refine d4 6 Z a8 a8 Z Z Z Z (d7 G Z Z Z Z (x7 J J) Z) ?_ | refine d4 6 Z a8 a8 Z Z Z Z (d7 G Z Z Z Z (x7 J B1) Z) ?_
 exact kk.o):p:=h ⟨k⟩
theorem H4 (k:q) (h:Hd q→p:=by
 intro kk
 refine C4 a8 ?_
 refine znk ?_
 exact kk.o):p:=h ⟨k⟩
theorem b63 (k:q) (h:Hd q→p:=by
 intro kk
 refine j4 Z ?_
 refine r5 Z Z (F5 Z Z Z b5V) ?_
 exact kk.o):p:=h ⟨k⟩
theorem c7w (k:q) (h:Hd q→p:=by
 intro kk
 refine zgo ?_
 refine a2Q Z Z Z ?_
 first | refine r5 Z Z (b9 G Z Z Z Z Z J a7V) ?_ | refine r5 Z Z (b9 G Z Z Z Z Z J a7U) ?_ | refine r5 Z Z (b9 G Z Z Z Z Z J a7S) ?_
 refine a2Q Z Z Z ?_
 first | refine r5 Z Z (d7 G Z Z Z Z (X3 J) Z) ?_ | refine r5 Z Z (d7 G Z Z Z Z (a0c J J) Z) ?_ | refine r5 Z Z (d7 G Z Z Z Z (a0Y J J) Z) ?_
 exact kk.o):p:=h ⟨k⟩
theorem a2u (k:q) (h:Hd q→p:=by
 intro kk
 refine vm3 ?_
 refine vm5 ?_
 refine y9 2 Z Z Z Z Z Z Z ?_
 exact kk.o):p:=h ⟨k⟩
theorem b64 (k:q) (h:Hd q→p:=by
 intro kk
 refine vm5 ?_
 refine b5 Z Z (F5 Z Z Z b5V) ?_
 exact kk.o):p:=h ⟨k⟩
theorem c7x (k:q) (h:Hd q→p:=by
 intro kk
 refine zsa 1 ?_
 refine zsa 2 ?_
 first | refine d4 3 Z a8 a8 Z Z Z Z (E5 G Z Z Z Z Z J J J) ?_ | refine d4 3 Z a8 a8 Z Z Z Z (E5 G Z Z Z Z Z J a4t a4t) ?_
 refine zsa 5 ?_
 refine zsa 8 ?_
 refine zsa 9 ?_
 first | refine d4 10 Z a8 a8 Z Z Z Z (E5 G Z Z Z Z Z J J J) ?_ | refine d4 10 Z a8 a8 Z Z Z Z (E5 G Z Z Z Z Z J a4t a4t) ?_
 exact kk.o):p:=h ⟨k⟩
theorem c7y (k:q) (h:Hd q→p:=by
 intro kk
 refine zgo ?_
 refine vm5 ?_
 first | refine b5 Z Z (b9 G Z Z Z Z Z J J) ?_ | refine b5 Z Z (b9 G Z Z Z Z Z J B1) ?_
 refine vm5 ?_
 first | refine l2 G Z Z Z Z Z (a1r J) Z Z Z Z Z (Nat.le_of_ble_eq_true Z) Z ?_ | refine l2 G Z Z Z Z Z (V9 J J) Z Z Z Z Z (Nat.le_of_ble_eq_true Z) Z ?_ | refine l2 G Z Z Z Z Z (x7 J J) Z Z Z Z Z (Nat.le_of_ble_eq_true Z) Z ?_ | refine l2 G Z Z Z Z Z (x7 J B1) Z Z Z Z Z (Nat.le_of_ble_eq_true Z) Z ?_
 exact kk.o):p:=h ⟨k⟩
theorem b9v (k:q) (h:Hd q→p:=by
 intro kk
 refine b8 ?_
 refine vm5 ?_
 refine b5 Z Z (m9 G Z Z Z Z) ?_
 refine vm5 ?_
 refine b5 Z Z (a5M (o7 G Z Z Z Z Z Z Z)) ?_
 refine vm5 ?_
 refine b5 Z Z (c7 Z Z) ?_
 refine vm5 ?_
 exact kk.o):p:=h ⟨k⟩
theorem c7z (k:q) (h:Hd q→p:=by
 intro kk
 refine c1l ?_
 first | refine p5 G Z Z Z Z Z (x7 J J) Z Z (.v Z (.own Z (.own Z (.own Z .nil)))) Z Z Z (Nat.le_of_ble_eq_true Z) (λq h=>by cases h) Z ?_ | refine p5 G Z Z Z Z Z (V9 J J) Z Z (.v Z (.own Z (.own Z (.own Z .nil)))) Z Z Z (Nat.le_of_ble_eq_true Z) (λq h=>by cases h) Z ?_ | refine p5 G Z Z Z Z Z (Y4 F8 Z) Z Z (.v Z (.own Z (.own Z (.own Z .nil)))) Z Z Z (Nat.le_of_ble_eq_true Z) (λq h=>by cases h) Z ?_
 exact kk.o):p:=h ⟨k⟩
theorem a41 (k:q) (h:Hd q→p:=by
 intro kk
 refine zgo ?_
 refine vm5 ?_
 refine b5 Z Z (o9 G Z Z Z) ?_
 exact kk.o):p:=h ⟨k⟩
theorem c5J (k:q) (h:Hd q→p:=by
 intro kk
 refine VStep.mk1 [0,1] 3 (.ptr 6 0) 6 (.box (avR [.slice none 0 0,.slice none 0 0,.slice none 0 0,.slice none 0 0] [])) [] Z Z Z Z Z (λb1 _ hbn=>m4 G Z Z Z Z Z Z Z Z Z Z Z (b6 Z)) a8 a8 a8 a8 ?_
 refine D0 ?_
 exact kk.o):p:=h ⟨k⟩
theorem c7A (k:q) (h:Hd q→p:=by
 intro kk
 refine zsa 1 ?_
 refine zsa 2 ?_
 first | refine d4 3 Z a8 a8 Z Z Z Z (b9 G Z Z Z Z Z J a3w) ?_ | refine d4 3 Z a8 a8 Z Z Z Z (b9 G Z Z Z Z Z J J) ?_
 first | refine d4 4 Z a8 a8 Z Z Z Z (i7 G Z Z Z Z Z (a1r J) Z) ?_ | refine d4 4 Z a8 a8 Z Z Z Z (i7 G Z Z Z Z Z (x7 J J) Z) ?_
 exact kk.o):p:=h ⟨k⟩
theorem b9w (k:q) (h:Hd q→p:=by
 intro kk
 refine zgo ?_
 refine vm5 ?_
 refine b44 (n:=xs.length) G 1 Z Z Z Z Z Z Z (by first | rfl | simp) (by first | rfl | simp) J J ?_
 refine zgo ?_
 exact kk.o):p:=h ⟨k⟩
theorem P0 (k:q) (h:Hd q→p:=by
 intro kk
 iterate 2 refine zst ?_
 exact kk.o):p:=h ⟨k⟩
theorem c5K (k:q) (h:Hd q→p:=by
 intro kk
 refine a2Q Z Z Z ?_
 first | refine r5 Z Z (E5 G Z Z Z Z Z J J J) ?_ | refine r5 Z Z (E5 G Z Z Z Z Z J a4t a4t) ?_
 exact kk.o):p:=h ⟨k⟩
theorem a0C (k:q) (h:Hd q→p:=by
 intro kk
 refine zsa 0 ?_
 refine zsa 1 ?_
 refine zsa 2 ?_
 refine zsa 3 ?_
 exact kk.o):p:=h ⟨k⟩
theorem c5L (k:q) (h:Hd q→p:=by
 intro kk
 first | refine b5 Z Z (i7 G Z Z Z Z Z (a1r J) Z) ?_ | refine b5 Z Z (i7 G Z Z Z Z Z (x7 J J) Z) ?_
 exact kk.o):p:=h ⟨k⟩
theorem a6q (k:q) (h:Hd q→p:=by
 intro kk
 refine zgo ?_
 refine vm5 ?_
 refine d8 G 1 Z Z Z Z Z ?_
 exact kk.o):p:=h ⟨k⟩
theorem a2v (k:q) (h:Hd q→p:=by
 intro kk
 refine b8 ?_
 iterate 3 refine zst ?_
 exact kk.o):p:=h ⟨k⟩
theorem c5M (k:q) (h:Hd q→p:=by
 intro kk
 refine vm5 ?_
 first | refine b5 Z Z (b3p G Z Z Z Z (b7Q J J)) ?_ | refine b5 Z Z (b3p G Z Z Z Z (c0o J J)) ?_ | refine b5 Z Z (a6G G Z Z Z Z) ?_
 exact kk.o):p:=h ⟨k⟩
theorem c7B (k:q) (h:Hd q→p:=by
 intro kk
 refine VStep.mk1 [0] 29 (.own 1) 1 (.row 182 2 []) [] Z Z Z Z Z (λb1 _ hbn=>j3 G O8 Z Z Z Z Z Z Z Z Z a4r Z Z (b6 Z)) a8 a8 a8 a8 ?_
 refine D0 ?_
 exact kk.o):p:=h ⟨k⟩
theorem c7C (k:q) (h:Hd q→p:=by
 intro kk
 refine VStep.mk1 [] 33 (.own 0) 0 (.row 3 1 []) [] Z Z Z Z Z (λb1 _ hbn=>j3 G O8 Z Z Z Z Z Z Z Z Z a4r Z Z (b6 Z)) a8 a8 a8 a8 ?_
 refine D0 ?_
 exact kk.o):p:=h ⟨k⟩
theorem c5N (k:q) (h:Hd q→p:=by
 intro kk
 refine b5 Z Z (a7A G Z Z Z Z Z (w8.2 ⟨_,(Y4 a7T Z),Z⟩) (.own (by first | exact List.Mem.head _ | simp) .nil)) ?_
 refine zst ?_
 refine vm5 ?_
 exact kk.o):p:=h ⟨k⟩
theorem a7e (k:q) (h:Hd q→p:=by
 intro kk
 refine vm5 ?_
 refine d8 G 3 Z Z Z Z Z ?_
 exact kk.o):p:=h ⟨k⟩
theorem c5O (k:q) (h:Hd q→p:=by
 intro kk
 refine b8 ?_
 refine vm5 ?_
 refine b5 Z Z (c7 Z Z) ?_
 refine vm5 ?_
 refine b5 Z Z (m9 G Z Z Z Z) ?_
 refine vm5 ?_
 refine b5 Z Z (o7 G Z Z Z Z Z Z Z) ?_
 refine vm5 ?_
 refine b5 Z Z (w5 G Z Z Z Z) ?_
 refine vm5 ?_
 exact kk.o):p:=h ⟨k⟩
theorem c5P (k:q) (h:Hd q→p:=by
 intro kk
 refine b5 Z Z (c7 Z Z) ?_
 refine vm5 ?_
 refine b5 Z Z (j8 Z Z Z) ?_
 refine vm5 ?_
 refine b5 Z Z (j8 Z Z Z) ?_
 refine vm5 ?_
 refine b5 Z Z (c6 Z Z) ?_
 refine vm5 ?_
 refine b5 Z Z (c6 Z Z) ?_
 refine b6 ?_
 exact kk.o):p:=h ⟨k⟩
theorem c1o (k:q) (h:Hd q→p:=by
 intro kk
 first | refine r5 Z Z (v6 Z Z Z Z J J) ?_ | refine r5 Z Z (A4 Z Z Z Z) ?_
 refine P0 ?_
 exact kk.o):p:=h ⟨k⟩
theorem n9 (k:q) (h:Hd q→p:=by
 intro kk
 refine zgo ?_
 refine vm5 ?_
 exact kk.o):p:=h ⟨k⟩
theorem b65 (k:q) (h:Hd q→p:=by exact λkk=>b5 Z Z (N6 G Z Z Z Z J J) kk.o):p:=h ⟨k⟩
theorem a42 (k:q) (h:Hd q→p:=by
 intro kk
 refine zgn ?_
 refine e6 ?_
 refine C9 Z ?_
 refine l3 ?_
 exact kk.o):p:=h ⟨k⟩
theorem a2w (k:q) (h:Hd q→p:=by
 intro kk
 refine b8 ?_
 refine zst ?_
 refine vm2 ?_
 refine zgn ?_
 exact kk.o):p:=h ⟨k⟩
theorem c5Q (k:q) (h:Hd q→p:=by
 intro kk
 refine zgn ?_
 refine B4 (Gh.close (id:=6) (id':=9) (i:=(tgM m i)) (k:=1) Z Z (Y4 F8 Z) (λq h=>by cases h) Z) ?_
 refine zgo ?_
 exact kk.o):p:=h ⟨k⟩
theorem b3W (k:q) (h:Hd q→p:=by
 intro kk
 refine b8 ?_
 refine vm5 ?_
 refine y9 1 Z Z Z Z Z Z Z ?_
 exact kk.o):p:=h ⟨k⟩
theorem b2F (k:q) (h:Hd q→p:=by exact λkk=>b5 Z Z (Z6 G Z Z Z Z) kk.o):p:=h ⟨k⟩
theorem c5R (k:q) (h:Hd q→p:=by exact λkk=>b5 Z Z (a6L G Z Z Z Z Z Z J b5Y b5Y) kk.o):p:=h ⟨k⟩
theorem b3X (k:q) (h:Hd q→p:=by
 intro kk
 refine n9 ?_
 refine s4 G 1 Z Z Z Z Z Z Z Z ?_
 exact kk.o):p:=h ⟨k⟩
theorem c7D (k:q) (h:Hd q→p:=by
 intro kk
 refine VStep.mk1 [0,1,2,3,4] 6 (.ptr 5 0) 5 (.box (avR [.int .i64 0,.slice none 0 0,.slice none 0 0,.slice none 0 0] [])) [] Z Z Z Z Z (λb1 _ hbn=>m4 G Z Z Z Z Z Z Z Z Z Z Z (b6 Z)) a8 a8 a8 a8 ?_
 refine D0 ?_
 exact kk.o):p:=h ⟨k⟩
theorem c7E (k:q) (h:Hd q→p:=by
 intro kk
 refine VStep.mk1 [0] 21 (.own 1) 1 (.row 182 2 []) [] Z Z Z Z Z (λb1 _ hbn=>j3 G O8 Z Z Z Z Z Z Z Z Z B1 Z Z (b6 Z)) a8 a8 a8 a8 ?_
 refine D0 ?_
 exact kk.o):p:=h ⟨k⟩
theorem a1j (k:q) (h:Hd q→p:=by exact λkk=>o8 Z Z Z kk.o):p:=h ⟨k⟩
theorem c7F (k:q) (h:Hd q→p:=by
 intro kk
 refine VStep.mk1 [0,1] 5 (.ptr 2 0) 2 (.box (avR [.slice none 0 0,.slice none 0 0] [])) [] Z Z Z Z Z (λb1 _ hbn=>m4 G Z Z Z Z Z Z Z Z Z Z Z (b6 Z)) a8 a8 a8 a8 ?_
 refine D0 ?_
 exact kk.o):p:=h ⟨k⟩
theorem c7G (k:q) (h:Hd q→p:=by
 intro kk
 refine VStep.mk1 [0,1] 4 (.ptr 2 0) 2 (.box (avR [.slice none 0 0,.slice none 0 0] [])) [] Z Z Z Z Z (λb1 _ hbn=>m4 G Z Z Z Z Z Z Z Z Z Z Z (b6 Z)) a8 a8 a8 a8 ?_
 refine D0 ?_
 exact kk.o):p:=h ⟨k⟩
theorem b3Y (k:q) (h:Hd q→p:=by exact λkk=>s4 G 2 Z Z Z Z Z Z Z Z kk.o):p:=h ⟨k⟩
theorem c5S (k:q) (h:Hd q→p:=by
 intro kk
 first | refine b5 Z Z (a6E Z Z Z J J) ?_ | refine b5 Z Z (b40 Z Z Z J) ?_
 exact kk.o):p:=h ⟨k⟩
theorem c7H (k:q) (h:Hd q→p:=by
 intro kk
 refine vm7 ?_
 first | refine l2 G Z Z Z Z Z (a1r J) Z Z Z Z Z (Nat.le_of_ble_eq_true Z) Z ?_ | refine l2 G Z Z Z Z Z (x7 J J) Z Z Z Z Z (Nat.le_of_ble_eq_true Z) Z ?_
 refine zgn ?_
 exact kk.o):p:=h ⟨k⟩
theorem c7I (k:q) (h:Hd q→p:=by
 intro kk
 refine zsa 0 ?_
 refine zsa 1 ?_
 refine zsa 2 ?_
 first | refine d4 3 Z a8 a8 Z Z Z Z (v6 Z Z Z Z J J) ?_ | refine d4 3 Z a8 a8 Z Z Z Z (A4 Z Z Z Z) ?_
 refine zsa 5 ?_
 refine zsa 6 ?_
 exact kk.o):p:=h ⟨k⟩
theorem c7J (k:q) (h:Hd q→p:=by
 intro kk
 refine zgn ?_
 refine p6 ?_
 refine b8 ?_
 refine zst ?_
 refine vm5 ?_
 first | refine b5 Z Z (T7 G Z Z Z Z (show List.length [_]=1 from rfl)) ?_ | refine b5 Z Z (T7 G Z Z Z Z (List.length_map _)) ?_ | refine b5 Z Z (a1o G Z Z Z Z) ?_
 refine zgn ?_
 refine zgn ?_
 exact kk.o):p:=h ⟨k⟩
theorem c1p (k:q) (h:Hd q→p:=by
 intro kk
 refine n9 ?_
 refine b5 Z Z (H9 G Z Z Z Z Z J J J) ?_
 exact kk.o):p:=h ⟨k⟩
theorem c7K (k:q) (h:Hd q→p:=by
 intro kk
 refine a0C ?_
 refine zsa 4 ?_
 first | refine d4 5 Z a8 a8 Z Z Z Z (v6 Z Z Z Z J J) ?_ | refine d4 5 Z a8 a8 Z Z Z Z (A4 Z Z Z Z) ?_
 exact kk.o):p:=h ⟨k⟩
theorem c1q (k:q) (h:Hd q→p:=by exact λkk=>j3 G np Z Z Z Z Z Z Z Z Z B1 Z Z kk.o):p:=h ⟨k⟩
theorem c7L (k:q) (h:Hd q→p:=by
 intro kk
 refine n9 ?_
 first | refine b5 Z Z (b9 G Z Z Z Z Z J a3w) ?_ | refine b5 Z Z (b9 G Z Z Z Z Z J J) ?_
 refine vm5 ?_
 refine c5L ?_
 refine n9 ?_
 exact kk.o):p:=h ⟨k⟩
theorem a0d (k:q) (h:Hd q→p:=by
 intro kk
 refine p6 ?_
 refine b8 ?_
 exact kk.o):p:=h ⟨k⟩
theorem b66 (k:q) (h:Hd q→p:=by exact λkk=>b5 Z Z (N5 G Z Z Z Z) kk.o):p:=h ⟨k⟩
theorem b3Z (k:q) (h:Hd q→p:=by
 intro kk
 refine f8 [0,2,3,4] Z Z ?_
 refine J5 ?_
 exact kk.o):p:=h ⟨k⟩
theorem a6r (k:q) (h:Hd q→p:=by
 intro kk
 refine zgn ?_
 refine p6 ?_
 refine r4 ?_
 exact kk.o):p:=h ⟨k⟩
theorem b4W (k:q) (h:Hd q→p:=by exact λkk=>d8 G 8 Z Z Z Z Z kk.o):p:=h ⟨k⟩
theorem c1r (k:q) (h:Hd q→p:=by
 intro kk
 refine vm5 ?_
 refine m4 G Z Z Z Z Z Z Z Z Z Z Z ?_
 exact kk.o):p:=h ⟨k⟩
theorem c5T (k:q) (h:Hd q→p:=by exact λkk=>b5 Z Z (i7 G Z Z Z Z Z (x7 J B1) Z) kk.o):p:=h ⟨k⟩
theorem c5U (k:q) (h:Hd q→p:=by
 intro kk
 refine a3a (Gh.nest (id:=5) (yss:=[]) Z Z (by intro _ _ _ h;simp at h)) ?_
 refine H4 ?_
 refine zgo ?_
 exact kk.o):p:=h ⟨k⟩
theorem c7M (k:q) (h:Hd q→p:=by
 intro kk
 refine zst ?_
 refine vm5 ?_
 refine b5 Z Z (F5 Z Z Z (by first | (rw [strOfNums_size];simp only [List.length_cons,List.length_nil];omega) | (show 1+s.size<=_;omega))) ?_
 exact kk.o):p:=h ⟨k⟩
theorem b9x (k:q) (h:Hd q→p:=by exact λkk=>b5 Z Z (V7 G Z Z Z Z) kk.o):p:=h ⟨k⟩
theorem b67 (k:q) (h:Hd q→p:=by
 intro kk
 refine p6 ?_
 refine a5j mixed a8 ?_
 exact kk.o):p:=h ⟨k⟩
theorem b9y (k:q) (h:Hd q→p:=by exact λkk=>s4 G 3 Z Z Z Z Z Z Z Z kk.o):p:=h ⟨k⟩
theorem b2G (k:q) (h:Hd q→p:=by
 intro kk
 refine f8 [0] Z Z ?_
 refine J5 ?_
 exact kk.o):p:=h ⟨k⟩
theorem c7N (k:q) (h:Hd q→p:=by
 intro kk
 refine n9 ?_
 refine b65 ?_
 refine vm5 ?_
 first | refine b5 Z Z (b0X G Z Z Z Z J J) ?_ | refine b5 Z Z (a6G G Z Z Z Z) ?_
 exact kk.o):p:=h ⟨k⟩
theorem b2H (k:q) (h:Hd q→p:=by exact λkk=>zcl (Y0 _ _ _) kk.o):p:=h ⟨k⟩
theorem b0u (k:q) (h:Hd q→p:=by
 intro kk
 refine zsa 4 ?_
 refine zsa 5 ?_
 refine zsa 6 ?_
 exact kk.o):p:=h ⟨k⟩
theorem c1s (k:q) (h:Hd q→p:=by
 intro kk
 refine zgo ?_
 refine a1j ?_
 refine b5 Z Z (o9 G Z Z Z) ?_
 exact kk.o):p:=h ⟨k⟩
theorem N0 (k:q) (h:Hd q→p:=by
 intro kk
 refine vm3 ?_
 refine b0t ?_
 exact kk.o):p:=h ⟨k⟩
theorem c1t (k:q) (h:Hd q→p:=by
 intro kk
 refine vm5 ?_
 refine b5 Z Z (c6 Z Z) ?_
 refine b6 ?_
 exact kk.o):p:=h ⟨k⟩
theorem b9z (k:q) (h:Hd q→p:=by exact λkk=>d8 G 12 Z Z Z Z Z kk.o):p:=h ⟨k⟩
theorem b0v (k:q) (h:Hd q→p:=by exact λkk=>a2Q Z Z Z kk.o):p:=h ⟨k⟩
end Go.Rf
