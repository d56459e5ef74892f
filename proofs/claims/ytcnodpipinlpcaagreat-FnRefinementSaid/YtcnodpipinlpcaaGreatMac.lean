/- Names for what is said again and again in walks. -/
import Derived.Test.YtcnodpipinlpcaaGreatLibE
set_option linter.unusedSimpArgs false
set_option linter.unusedVariables false
namespace Go.Rf
variable {p q:Prop}
theorem a9a (h:p:=by (first | (rw [hS];done) | (rw [hS];(first | rfl | exact List.map_set.symm | (rw [E8];done) | exact c1x Z | (simp only [r3];done))))):p:=h
theorem b1b (h:p:=by (first | (rw [hR];done) | (rw [hR];rfl) | trace_state)):p:=h
theorem b1c (h:p:=by (first | rfl | trivial | assumption)):p:=h
theorem b3h (h:p:=by (first | (have e:l≠r:=λe=>(by (subst e;omega));simp [e];done) | (have e:l=r:=F3 J hinv.2 J;simp [e];done) | (have e:l≠r:=a6o (i:=i) (λe=>C8);simp [e];done))):p:=h
theorem b6c (h:p:=by (first | (exact congrArg Value.bool (c1i b9).symm) | (exact congrArg Value.bool (c1j J).symm) | (exact congrArg Value.bool (b5D (k:=k) (c1l b9) J).symm) | (exact congrArg Value.bool (b5D (k:=k) (c1m b9) J).symm) | (exact congrArg Value.bool (c1k h1 J J hk.2 J).symm))):p:=h
theorem b6d (h:p:=by (first | (rw [hM];done) | (rw [hM];(first | rfl | (have e8:i=8:=J;subst e8;rfl) | exact List.map_set.symm | exact a2Y Z (a49 (ftn J)) | exact b4P Z (a49 (ftn J)) | exact a2Y Z a0u | (rw [ftn J];done) | (simp only [p8];done))))):p:=h
theorem b6e (h:p:=by (first | rfl | (unfold a0m;rw [ho];done) | (unfold a0m;rw [ho];rfl))):p:=h
theorem b6f (h:p:=by (first | (rw [hM];done) | (rw [hM];rfl) | (rw [hM];simp [a6M];done) | (rw [hM];simp [noM];done) | (rw [hM];have e:k=n:=J;subst e;first | done | rfl | (simp [a6M];done)))):p:=h
theorem b6g (h:p:=by (first | (rw [b2S h1];done) | (rw [b2S h1];rfl) | (rw [hM];done) | (rw [hM];rfl) | (have ek:k=a.ma.length:=J;subst ek;rw [hM,b7s];rfl))):p:=h
theorem b6h (h:p:=by (first | rfl | exact hc9.mono J | (dsimp only;rw [List.map_set];rfl) | (rw [List.map_append];rfl) | (show List.length _<=5;(try simp only [List.length_set,List.length_append,List.length_cons,List.length_nil]);omega))):p:=h
theorem b6i (h:p:=by (first | rfl | (obtain rfl:k=m.cp.length:=J;first | rfl | (rw [b04 (Nat.le_refl _)];rfl)) | simp)):p:=h
theorem b8B (h:p:=by (first | (exact congrArg Value.bool (b42 (q:=⟨sl,wa⟩) (i:=i) (b2E (λg=>by dsimp only at g;first | exact N0 b9 g.1 | exact N0 b9 g.2.1 | (have:=g.2.2.1;omega) | (have h9:=b1N.mp (show 0<=I0 (λj=>decide ((wa.getD j default).q=(wa.getD i default).q)) i by omega);obtain ⟨j,hj,e⟩:=a1D.mp h9;exact g.2.2.2.1 j hj (of_decide_eq_true e)) | (rcases g.2.2.2.2 with g1 | g1<;>first | (exfalso;omega) | (rw [← ht J] at g1;first | (have:=a0T.mpr g1;omega) | (simp_all;done))) | exact g.2.2.2.1 _ J b9)) (show i < wa.length by omega)).symm) | (exact congrArg Value.bool (b41 (q:=⟨sl,wa⟩) b9).symm) | (exact congrArg Value.bool (b44 b9 hinv.2 J J)))):p:=h
theorem b8C (h:p:=by (first | (exact congrArg Value.bool (b2A b9).symm) | (rw [b2B J];done) | (exact congrArg Value.bool (a2a (k:=k) (b2y b9) J).symm) | (exact congrArg Value.bool (a2a (k:=k) (b4K J) J).symm) | (exact congrArg Value.bool (a2a (k:=k) (b2z (i:=i) (b8d.mpr b9) J) J).symm) | (exact congrArg Value.bool (a9t h1 (a1x.mpr hl) (λj hj=>hk.2 j J)).symm) | (exact congrArg Value.bool (a2a (k:=k) (b62 (i:=i) (b8c (by simp only [tgI,prI];rw [← ht];omega)) J) J).symm))):p:=h
theorem b8D (h:p:=by (first | (rw [L1 (i:=i) hinv.2 J b9];done) | (rw [V5 hinv.2 J];done))):p:=h
theorem b8E (h:p:=by (first | (exact congrArg Value.bool (b41 (q:=⟨sl,wa⟩) b9).symm) | (exact congrArg Value.bool (b43 (q:=⟨sl,wa⟩) b9 hinv.2 (show wa.length<=i by omega)).symm) | (exact congrArg Value.bool (b42 (q:=⟨sl,wa⟩) (i:=i) (b2E (λg=>by dsimp only at g;first | exact N0 b9 g.1 | exact N0 b9 g.2.1 | (have:=g.2.2.1;omega) | (have h9:=b1N.mp (show 0<=I0 (λj=>decide ((wa.getD j default).q=(wa.getD i default).q)) i by omega);obtain ⟨j,hj,e⟩:=a1D.mp h9;exact g.2.2.2.1 j hj (of_decide_eq_true e)) | (rcases g.2.2.2.2 with g1 | g1<;>first | (exfalso;omega) | (rw [← ht J] at g1;first | (have:=a0T.mpr g1;omega) | (simp_all;done))) | exact g.2.2.2.1 _ J b9)) (show i < wa.length by omega)).symm))):p:=h
theorem b8F (h:p:=by (first | (exact congrArg Value.bool (b2A b9).symm) | (rw [b2B J];done) | (exact congrArg Value.bool (a2a (k:=k) (b2y b9) J).symm) | (exact congrArg Value.bool (a2a (k:=k) (b63 b9) J).symm) | (exact congrArg Value.bool (a2a (k:=k) (b2z (i:=i) (b8d.mpr b9) J) J).symm) | (exact congrArg Value.bool (a9t h1 (a1x.mpr hl) (λj hj=>hk.2 j J)).symm))):p:=h
theorem b8G (h:p:=by (first | (exact congrArg Value.bool (b4Z hinv.2 J)) | (rw [b1S J];done) | (exact congrArg Value.bool (b1R (i:=i) (b4Y (λg=>by first | exact N0 b9 g.1 | exact N0 b9 g.2.1 | exact N0 b9 g.2.2)) J).symm) | (exact congrArg Value.bool (b1R (i:=i) (by first | exact b7g J J | exact b7h J J J) J).symm))):p:=h
theorem b8H (h:p:=by (first | (rw [hM];done) | (rw [hM];(first | rfl | exact List.map_set.symm | exact a2Y Z (a49 (ftn J)) | exact b4P Z (a49 (ftn J)) | exact a2Y Z a0u | (rw [ftn J];done) | (simp only [p8];done))))):p:=h
theorem b8I (h:p:=by (first | (exact congrArg Value.bool (b1S J).symm) | (exact congrArg Value.bool (b4X J hinv.2 J).symm) | (exact congrArg Value.bool (b1R (i:=i) (by first | exact b4V b9 (λe=>c4j b9 (a7K.mp e)) | exact b4W b9 (b1N.mp J) | exact b1Q b9 (c03 b9) | exact b1Q b9 (c04 b9) | exact b1Q b9 (c05 b9)) J).symm))):p:=h
theorem b8J (h:p:=by (first | (exact congrArg Value.bool (b5E h1).symm) | (exact congrArg Value.bool (b5F h2).symm) | (exact congrArg Value.bool (a7R (b7y (i:=i) J (λg=>a91.mp h4 ((a5j 4).mpr g)))).symm) | (obtain ⟨k,hk,e⟩:=(a5n J).mp (a7S.mp h5);(exact congrArg Value.bool (a7R (b5z hSl hk J e)).symm)) | (exact congrArg Value.bool (a7R (b5v (i:=i) (b8m J b3i) J)).symm) | (have e:i=x.st.length:=J;subst e;rw [c1q h1 h2,hinv.2.fin hSl,c4l,a5k];done))):p:=h
theorem b8K (h:p:=by (first | (exact congrArg Value.bool (b5C hi.2 J hj.2 J).symm) | (exact congrArg Value.bool (b5B (i:=i) (b5A.mpr (λg=>by first | exact g.1 b9 | (rcases g.2 with g2 | ⟨g2,g3⟩<;>first | (exact absurd g2 b9) | (exact absurd g3 b9)))) J).symm) | (exact congrArg Value.bool (c1h (i:=j) (c1g.mpr (λg=>by first | exact absurd g.1 b9 | exact absurd g.2 b9)) J).symm))):p:=h
theorem b8L (h:p:=by (first | (exact congrArg Value.bool (b7E (λe=>by subst e;first | omega | (simp_all;done))).symm) | (exact congrArg Value.bool (O2.mpr (c1y hA hB J (λj hj=>hi.2 j J) (λj hj=>hk.2 j J))).symm))):p:=h
theorem b8M (h:p:=by (first | rfl | (have e:i=xs.length:=J;subst e;simp;done) | (have ht1:((i:Int)+1).toNat=i+1:=J;first | (rw [show List.take ((((xs.map i5).length:Nat):Int).toNat - ((i:Nat):Int).toNat) (List.drop ((i:Nat):Int).toNat (xs.map i5))=List.drop i (xs.map i5) from List.take_of_length_le (by rw [List.length_drop,Int.toNat_natCast,Int.toNat_natCast];exact Nat.le_refl _)];simp only [Int.toNat_natCast,ht1,Int.toNat_zero,List.length_drop,List.length_cons,List.length_nil,Nat.zero_add,List.map_append,List.map_take,List.map_drop,List.map_cons,List.map_nil,Nat.sub_zero];exact b4D (by rw [List.length_map];exact hi) (by rw [List.length_replicate,List.length_map])) | (rw [show xs.length+1=(xs.map i5).length+1 from by rw [List.length_map]];simp only [Int.toNat_natCast,ht1,Int.toNat_zero,List.length_drop,List.length_cons,List.length_nil,Nat.zero_add,List.map_append,List.map_take,List.map_drop,List.map_cons,List.map_nil,Nat.sub_zero];exact b0C (by rw [List.length_map];exact hi) J)))):p:=h
theorem b8N (h:p:=by (first | (exact congrArg Value.bool (b5E h1).symm) | (exact congrArg Value.bool (b5F h2).symm) | (exact congrArg Value.bool (a7R (a9Y h3)).symm) | (exact congrArg Value.bool (a7R (b5v (i:=i) (b8m J b3i) J)).symm) | (exact congrArg Value.bool (c1p h1 h2 (b5w h3 hinv.2 J)).symm))):p:=h
theorem b8O (h:p:=by (first | (rw [b69 (i:=i) J (by simp only [b1J];try rw [← ftn];omega)];done) | (rw [b7a (i:=i) J (by simp only [b1J];try rw [← ftn];omega)];done))):p:=h
theorem b8P (h:p:=by (first | (have e:X7 rs.length (λi=>a7E c (rs.getD i default))=false:=X8 (i:=i) (by simp_all [a7E]) J;simp only [okRts,e,Bool.and_false];done) | (have e:X7 rs.length (λi=>a7E c (rs.getD i default))=true:=a1a hinv.2 J;first | (simp only [okRts,e,h4,c4h,Bool.and_true,Bool.true_and,Bool.false_and];done)))):p:=h
theorem b8Q (h:p:=by (first | (have e:X7 l.length (elS rs l k)=false:=X8 (i:=i) (b8c (by simp only [tgI,prI];rw [← ht];omega)) J;simp only [stG,e,Bool.false_and];done) | (have e:X7 l.length (elS rs l k)=true:=a1a hinv.2 J;simp only [stG,e,Bool.true_and,le4];done))):p:=h
theorem b8R (h:p:=by (first | (rw [hR];done) | (rw [hR];rfl) | (have hR:=b8j h1 hsv;have e:i=ss.length:=J;subst e;rw [hR];done))):p:=h
theorem b8S (h:p:=by (first | (rw [b45 (a3C.mpr J)];done) | (rw [b45 (a3C.mpr J)];rfl) | (rw [b2F (G2.mpr J)];done) | (rw [b2F (G2.mpr J)];rfl))):p:=h
theorem b8T (h:p:=by (first | (have e:xs≠ys:=λe=>(by (subst e;omega));simp [e];done) | (have e:xs=ys:=F3 J hinv.2 J;simp [e];done) | (have e:xs≠ys:=a6o (i:=i) (λe=>C8);simp [e];done))):p:=h
theorem b8U (h:p:=by (first | (rw [a9z J];done) | (rw [b68 J (show i=8 by omega)];done))):p:=h
theorem b8V (h:p:=by ((rw [b7w hk.2 hk.1 (by first | exact .inl J | exact .inr ⟨by omega,by omega⟩),a1t,a7M];simp [Rf.l8];done))):p:=h
theorem b8W (h:p:=by (first | (rw [b4T hinv.2 J b9];done) | (rw [b8f hinv.2 J];done))):p:=h
theorem b8X (h:p:=by (first | (rw [n8,L1 (i:=i) hinv.2 J (by simp_all [fdP])];done) | (rw [n8,V5 hinv.2 J];done))):p:=h
theorem b8Y (h:p:=by (first | (rw [freS,L1 (i:=i) hinv.2 J (by simp_all [emP])];done) | (rw [freS,V5 hinv.2 J];done))):p:=h
theorem b8Z (h:p:=by (first | (rw [inW,L1 (i:=i) hinv.2 J (decide_eq_true b9)];done) | (rw [inW,V5 hinv.2 J];done))):p:=h
theorem b80 (h:p:=by (first | (rw [a5b hinv.2 hinv.1 b6j];done) | (rw [a5b hinv.2 hinv.1 b6j];rfl))):p:=h
theorem b81 (h:p:=by (first | (rw [a5b hinv.2 hinv.1 b6j,a1t,a7M];simp [i5];done))):p:=h
theorem b82 (h:p:=by (first | rfl | (rw [ht];done) | (rw [ht];rfl) | (rw [ht,ht2];done) | (rw [ht,ht2];rfl))):p:=h
theorem b83 (h:p:=by (first | rfl | (rw [ht];done) | (rw [ht];rfl) | (rw [ht,ht2];done) | (rw [ht,ht2];rfl) | (rw [ht,ht2];simp [a1H,Rf.l8];done))):p:=h
theorem b84 (h:p:=by (first | (rw [L1 (i:=i) hinv.2 J b6k];done) | (rw [V5 hinv.2 J];done))):p:=h
theorem b85 (h:p:=by (simp only [a48];first | (rw [b1A (i:=i) b6k J];done) | (rw [b1B hinv.2 J];done))):p:=h
theorem b86 (h:p:=by (first | rfl | exact hc11.mono J | (dsimp only;rw [List.map_set];rfl) | (rw [List.map_append];rfl) | (refine ⟨?_,?_⟩<;>(show List.length _<=_;(try simp only [List.length_set,List.length_append,List.length_cons,List.length_nil]);omega)))):p:=h
theorem b87 (h:p:=by (first | rfl | exact hc8.mono J | (dsimp only;rw [List.map_set];rfl) | (rw [List.map_append];rfl) | exact hV.dr | exact hV.dr.setR | exact hV.dr.addA hV.ra | exact hV.dr.setC b9 | exact hV.dr.addC hV.n.2 b9 | (exact congrArg (λz=>Row.nest _ _ z []) a3b))):p:=h
theorem b88 (h:p:=by (first | (exact congrArg Value.bool (b5B (i:=i) (b5A.mpr (λg=>g.1 J)) J).symm) | (exact congrArg Value.bool (c2R hinv.2)))):p:=h
theorem b89 (h:p:=by (first | (rw [a0o (.inr ⟨i,by omega,by assumption⟩)];done) | (have e:X7 ss.length (λi=>s4 n (ss.getD i default))=true:=a1a hinv.2 J;simp only [L3,e,Bool.and_true];congr 2;simp;omega) | (have e:X7 ss.length (λi=>s4 n (ss.getD i default))=true:=a1a hinv.2 J;simp only [L3,e,Bool.and_true];simp))):p:=h
theorem b9a (h:p:=by (first | rfl | trivial | exact ⟨hv1,by show v.2.length<=31;omega⟩ | exact ⟨hv1,by show z.2.2.length<=31;omega⟩ | (rw [List.map_append];rfl))):p:=h
theorem a6 (h:p:=by kernel_rfl):p:=h
theorem t6 (h:p:=by (try simp only [List.length_take,List.length_append,List.length_map,List.length_drop,List.length_cons,List.length_nil,List.length_replicate,Int.toNat_natCast]);omega):p:=h
theorem b9 (h:p:=by assumption):p:=h
theorem C0 (h:p:=by first | (simp only [List.length_map,List.length_cons,List.length_nil];omega) | (simp;omega)):p:=h
theorem A5 (h:p:=by show x1.1 - (z.1:Int) - 1=x1.1 - ((z.1+1:Nat):Int);omega):p:=h
theorem g0 (h:p:=by simp;omega):p:=h
theorem a3X (h:p:=by first | (simp;omega) | (simp only [a1t,a7M,List.length_append,List.length_map,List.length_take,List.length_drop,List.length_cons,List.length_nil];omega)):p:=h
theorem a2s (h:p:=by first | exact List.Mem.head _ | exact List.Mem.tail _ (List.Mem.head _) | exact List.Mem.tail _ (List.Mem.tail _ (List.Mem.head _)) | simp):p:=h
theorem C1 (h:p:=by rw [hbn];exact Nat.le_of_ble_eq_true Z):p:=h
theorem I1 (h:p:=by simp only [List.length_set,List.length_map];omega):p:=h
theorem G5 (h:p:=by exact Nat.le_of_ble_eq_true Z):p:=h
theorem w3 (h:p:=by rw [hpin];decide):p:=h
theorem a6z (h:p:=by rw [List.length_set,List.length_set,List.length_map,a25 J];omega):p:=h
theorem O4 (h:p:=by rw [List.length_map];omega):p:=h
theorem a3Y (h:p:=by simp only [tgM,List.set_set];rw [List.map_set];rfl):p:=h
theorem a6A (h:p:=by rw [List.length_set,List.length_map,a25 J];omega):p:=h
theorem X2 (h:p:=by rw [List.nil_append,c2J]):p:=h
theorem a3Z (h:p:=by first | omega | (simp;done) | (simp;omega)):p:=h
theorem b3j (h:p:=by first | (simp;omega) | (simp only [List.length_map,List.length_cons,List.length_nil,List.length_replicate];omega)):p:=h
theorem a0u (h:p:=by rw [List.map_append];rfl):p:=h
theorem a6B (h:p:=by rw [List.length_map,a25 J];omega):p:=h
theorem a30 (h:p:=by first | exact List.Mem.head _ | simp):p:=h
theorem a31 (h:p:=by first | (simp;done) | (simp;omega)):p:=h
theorem T5 (h:p:=by rw [a7G hno]):p:=h
theorem b6k (h:p:=by first | exact decide_eq_true b9 | exact decide_eq_true (Eq.symm b9) | exact decide_eq_false b9 | exact decide_eq_false (Ne.symm b9)):p:=h
theorem b6j (h:p:=by first | exact .inl J | exact .inr ⟨by omega,by first | assumption | (rw [← Bool.not_eq_true,← a0T];omega)⟩):p:=h
theorem C8 (h:p:=by simp_all):p:=h
theorem a3b (h:p:=by rw [List.map_set];rfl):p:=h
theorem b1d (h:p:=by first | (simp;done) | (simp [E7,a1b];done)):p:=h
theorem b3k (h:p:=by first | exact c0Z b9 | exact c00 b9 | exact c01 b9):p:=h
theorem b3l (h:p:=by rw [show a1.ma.length=m.cp.length from hF.na];exact hv i h):p:=h
theorem b9b (h:p:=by simp only [List.length_take,List.length_append,List.length_map,List.length_drop,List.length_cons,List.length_nil,Int.toNat_natCast,Nat.min_def];(repeat' split)<;>omega):p:=h
theorem b9c (h:p:=by first | exact ArgsOK.of Z | exact ArgsOK.of (congrArg some (congrArg (λz=>[AV.lst 1 z,.v (.int .i64 (x.st.getD i default))]) (a1t (xs:=x.st) (i:=i))))):p:=h
theorem b1e (h:p:=by (try simp only [List.length_set]);omega):p:=h
theorem b6l (h:p:=by show x6.1 - (v.1:Int) - 1=x6.1 - ((v.1+1:Nat):Int);omega):p:=h
theorem a9b (h:p:=by first | assumption | omega):p:=h
theorem b6m (h:p:=by first | rfl | (simp;done) | (simp [E7,a1b];done)):p:=h
theorem b9d (h:p:=by first | exact .inl J | (right;rw [← ht J];first | exact a0T.mp J | assumption)):p:=h
theorem b9e (h:p:=by have:=hS.take (n:=(a.st.getD k default).length) (Nat.le_refl _);rw [List.take_length] at this;exact this):p:=h
theorem b3m (h:p:=by first | assumption | (simp;omega)):p:=h
theorem b3i (h:p:=by rw [← hti J];omega):p:=h
theorem b6n (h:p:=by intro c hc;rw [List.mem_singleton.1 hc];rfl):p:=h
theorem b3n (h:p:=by rw [List.length_take];omega):p:=h
theorem b9f (h:p:=by first | (left;omega) | (right;rw [← Bool.not_eq_true,← a0T];omega)):p:=h
theorem b9g (h:p:=by simp only [List.set_set,Int.toNat_natCast];exact b7r J Z):p:=h
theorem b3o (h:p:=by intro _ _ _ h;simp at h):p:=h
theorem vm1 (k:q) (h:Hd q→p:=by
 intro kk
 refine b5 Z ?_
 refine a5R 1 Z Z Z Z Z Z Z ?_
 exact kk.o):p:=h ⟨k⟩
theorem vm2 (k:q) (h:Hd q→p:=by
 intro kk
 simp only [List.cons_append,List.nil_append]
 exact kk.o):p:=h ⟨k⟩
theorem vm3 (k:q) (h:Hd q→p:=by
 intro kk
 refine b5 Z ?_
 first | refine b7 Z Z (c6 G Z Z Z Z Z J g0) ?_ | refine b7 Z Z (c6 G Z Z Z Z Z J J) ?_
 refine b5 Z ?_
 exact kk.o):p:=h ⟨k⟩
theorem vm4 (k:q) (h:Hd q→p:=by exact λkk=>b5 Z kk.o):p:=h ⟨k⟩
theorem vm5 (k:q) (h:Hd q→p:=by
 intro kk
 first | refine b7 Z Z (C3 Z Z Z Z J J) ?_ | refine b7 Z Z (J0 Z Z Z Z) ?_
 exact kk.o):p:=h ⟨k⟩
theorem vm6 (k:q) (h:Hd q→p:=by
 intro kk
 refine a4g a6 ?_
 refine znk ?_
 exact kk.o):p:=h ⟨k⟩
theorem vm7 (k:q) (h:Hd q→p:=by
 intro kk
 refine vm4 ?_
 refine g9 G 2 Z Z Z Z Z ?_
 exact kk.o):p:=h ⟨k⟩
theorem vm8 (k:q) (h:Hd q→p:=by
 intro kk
 refine vm4 ?_
 refine b7 Z Z (V6 G Z Z Z Z Z Z t6 t6 t6 t6) ?_
 exact kk.o):p:=h ⟨k⟩
theorem vm9 (k:q) (h:Hd q→p:=by
 intro kk
 refine vm4 ?_
 refine i6 G np Z Z Z Z Z Z Z Z Z C0 Z Z ?_
 exact kk.o):p:=h ⟨k⟩
theorem F6 (k:q) (h:Hd q→p:=by
 intro kk
 refine zgo ?_
 refine ⟨Z,?_⟩
 exact kk.o):p:=h ⟨k⟩
theorem b7M (k:q) (h:Hd q→p:=by
 intro kk
 refine zgo ?_
 refine vm4 ?_
 first | refine b7 Z Z (d8 G Z Z Z Z Z J O4) ?_ | refine b7 Z Z (d8 G Z Z Z Z Z J I1) ?_ | refine b7 Z Z (d8 G Z Z Z Z Z J J) ?_
 refine vm4 ?_
 exact kk.o):p:=h ⟨k⟩
theorem b7N (k:q) (h:Hd q→p:=by
 intro kk
 refine zgo ?_
 refine vm3 ?_
 first | refine d6 G Z Z Z Z Z (a2S J) Z Z Z Z Z (Nat.le_of_ble_eq_true Z) Z ?_ | refine d6 G Z Z Z Z Z (w9 J J) Z Z Z Z Z (Nat.le_of_ble_eq_true Z) Z ?_ | refine d6 G Z Z Z Z Z (w9 J g0) Z Z Z Z Z (Nat.le_of_ble_eq_true Z) Z ?_
 exact kk.o):p:=h ⟨k⟩
theorem c3d (k:q) (h:Hd q→p:=by
 intro kk
 refine A7 (Gh.open (id:=5) (i:=k) (k:=1) 10 Z Z (b7q J) Z Z) ?_
 refine A7 (Gh.open (id:=5) (i:=k) (k:=2) 11 Z Z (C9 b1e Z) Z Z) ?_
 refine A7 (Gh.open (id:=5) (i:=k) (k:=3) 12 Z Z (C9 b1e Z) Z Z) ?_
 refine zgo ?_
 refine vm4 ?_
 first | refine b7 Z Z (d8 G Z Z Z Z Z J J) ?_ | refine b7 Z Z (d8 G Z Z Z Z Z J (by simp only [List.length_set];omega)) ?_
 refine vm4 ?_
 refine b7 Z Z (H4 G Z Z Z Z (C9 b1e Z) Z (.v (.own a2s (.own a2s (.own a2s .nil))))) ?_
 refine vm4 ?_
 refine g9 G 13 Z Z Z Z Z ?_
 exact kk.o):p:=h ⟨k⟩
theorem C5 (k:q) (h:Hd q→p:=by
 intro kk
 refine zsa 0 ?_
 refine zsa 1 ?_
 refine zsa 2 ?_
 refine zsa 3 ?_
 exact kk.o):p:=h ⟨k⟩
theorem c1Z (k:q) (h:Hd q→p:=by
 intro kk
 refine a4r Z Z a6 ?_
 refine l5 G Z Z Z Z Z Z Z Z Z Z Z ?_
 refine a8 ?_
 refine c1D a6 ?_
 refine znk ?_
 exact kk.o):p:=h ⟨k⟩
theorem b37 (k:q) (h:Hd q→p:=by
 intro kk
 refine zgn ?_
 refine p7 ?_
 refine p7 ?_
 refine e9 ?_
 iterate 4 refine zst ?_
 refine vm4 ?_
 refine b7 Z Z (V4 (v':=.bool false) (a2p Z Z Z Z) b6m) ?_
 refine zgn ?_
 refine C2 Z ?_
 refine zgn ?_
 exact kk.o):p:=h ⟨k⟩
theorem c3e (k:q) (h:Hd q→p:=by
 intro kk
 refine c8 [1,2,5,6] Z Z ?_
 refine F6 ?_
 first | refine i9 5 Z a6 a6 Z Z Z Z (c6 G Z Z Z Z Z J J) ?_ | refine i9 5 Z a6 a6 Z Z Z Z (c6 G Z Z Z Z Z J g0) ?_
 first | refine i9 6 Z a6 a6 Z Z Z Z (d9 G Z Z Z Z (a2S J) Z) ?_ | refine i9 6 Z a6 a6 Z Z Z Z (d9 G Z Z Z Z (C7 J J) Z) ?_ | refine i9 6 Z a6 a6 Z Z Z Z (d9 G Z Z Z Z (w9 J J) Z) ?_ | refine i9 6 Z a6 a6 Z Z Z Z (d9 G Z Z Z Z (w9 J g0) Z) ?_
 exact kk.o):p:=h ⟨k⟩
theorem X3 (k:q) (h:Hd q→p:=by
 intro kk
 refine e9 ?_
 iterate 3 refine zst ?_
 exact kk.o):p:=h ⟨k⟩
theorem a0G (k:q) (h:Hd q→p:=by
 intro kk
 refine zgo ?_
 refine vm4 ?_
 refine g9 G 1 Z Z Z Z Z ?_
 exact kk.o):p:=h ⟨k⟩
theorem b1f (k:q) (h:Hd q→p:=by
 intro kk
 refine zsa 0 ?_
 refine zsa 1 ?_
 refine i9 2 Z a6 a6 Z Z Z Z (a3R (G 4 _ Z).1 Z Z Z) ?_
 refine zsa 3 ?_
 exact kk.o):p:=h ⟨k⟩
theorem c3f (k:q) (h:Hd q→p:=by
 intro kk
 refine zgo ?_
 refine a2H Z Z Z ?_
 first | refine r9 Z Z (c6 G Z Z Z Z Z J a6B) ?_ | refine r9 Z Z (c6 G Z Z Z Z Z J a6A) ?_ | refine r9 Z Z (c6 G Z Z Z Z Z J a6z) ?_
 refine a2H Z Z Z ?_
 first | refine r9 Z Z (d9 G Z Z Z Z (V9 J) Z) ?_ | refine r9 Z Z (d9 G Z Z Z Z (Z2 J J) Z) ?_ | refine r9 Z Z (d9 G Z Z Z Z (a0W J J) Z) ?_
 exact kk.o):p:=h ⟨k⟩
theorem c3g (k:q) (h:Hd q→p:=by
 intro kk
 refine zsa 1 ?_
 refine zsa 2 ?_
 first | refine i9 3 Z a6 a6 Z Z Z Z (I5 G Z Z Z Z Z J J J) ?_ | refine i9 3 Z a6 a6 Z Z Z Z (I5 G Z Z Z Z Z J a31 a31) ?_
 refine zsa 5 ?_
 refine zsa 8 ?_
 refine zsa 9 ?_
 first | refine i9 10 Z a6 a6 Z Z Z Z (I5 G Z Z Z Z Z J J J) ?_ | refine i9 10 Z a6 a6 Z Z Z Z (I5 G Z Z Z Z Z J a31 a31) ?_
 exact kk.o):p:=h ⟨k⟩
theorem a3c (k:q) (h:Hd q→p:=by
 intro kk
 refine vm4 ?_
 refine a5R 2 Z Z Z Z Z Z Z ?_
 exact kk.o):p:=h ⟨k⟩
theorem b7O (k:q) (h:Hd q→p:=by
 intro kk
 refine C5 ?_
 refine zsa 4 ?_
 first | refine i9 5 Z a6 a6 Z Z Z Z (C3 Z Z Z Z J J) ?_ | refine i9 5 Z a6 a6 Z Z Z Z (J0 Z Z Z Z) ?_
 exact kk.o):p:=h ⟨k⟩
theorem c3h (k:q) (h:Hd q→p:=by
 intro kk
 refine zgo ?_
 refine vm4 ?_
 first | refine b7 Z Z (c6 G Z Z Z Z Z J J) ?_ | refine b7 Z Z (c6 G Z Z Z Z Z J g0) ?_
 refine vm4 ?_
 first | refine d6 G Z Z Z Z Z (a2S J) Z Z Z Z Z (Nat.le_of_ble_eq_true Z) Z ?_ | refine d6 G Z Z Z Z Z (C7 J J) Z Z Z Z Z (Nat.le_of_ble_eq_true Z) Z ?_ | refine d6 G Z Z Z Z Z (w9 J J) Z Z Z Z Z (Nat.le_of_ble_eq_true Z) Z ?_ | refine d6 G Z Z Z Z Z (w9 J g0) Z Z Z Z Z (Nat.le_of_ble_eq_true Z) Z ?_
 exact kk.o):p:=h ⟨k⟩
theorem b6o (k:q) (h:Hd q→p:=by
 intro kk
 refine e9 ?_
 refine vm4 ?_
 refine b7 Z Z (m4 G Z Z Z Z) ?_
 refine vm4 ?_
 refine b7 Z Z (b4E (o9 G Z Z Z Z Z Z Z)) ?_
 refine vm4 ?_
 refine b7 Z Z (d3 Z Z) ?_
 refine vm4 ?_
 exact kk.o):p:=h ⟨k⟩
theorem G9 (k:q) (h:Hd q→p:=by
 intro kk
 iterate 2 refine zst ?_
 exact kk.o):p:=h ⟨k⟩
theorem c3i (k:q) (h:Hd q→p:=by
 intro kk
 refine b7M ?_
 first | refine j6 G Z Z Z Z Z (w9 J J) Z Z (.v Z (.own Z (.own Z (.own Z .nil)))) Z Z Z (Nat.le_of_ble_eq_true Z) (λq h=>by cases h) Z ?_ | refine j6 G Z Z Z Z Z (C7 J J) Z Z (.v Z (.own Z (.own Z (.own Z .nil)))) Z Z Z (Nat.le_of_ble_eq_true Z) (λq h=>by cases h) Z ?_ | refine j6 G Z Z Z Z Z (C9 I1 Z) Z Z (.v Z (.own Z (.own Z (.own Z .nil)))) Z Z Z (Nat.le_of_ble_eq_true Z) (λq h=>by cases h) Z ?_
 exact kk.o):p:=h ⟨k⟩
theorem c10 (k:q) (h:Hd q→p:=by
 intro kk
 refine VStep.mk1 [0,1] 3 (.ptr 7 0) 7 (.box (avR [.slice none 0 0,.slice none 0 0,.slice none 0 0,.slice none 0 0,.slice none 0 0] [])) [] Z Z Z Z Z (λb1 _ hbn=>l5 G Z Z Z Z Z Z Z Z Z Z Z (a8 Z)) a6 a6 a6 a6 ?_
 refine w6 ?_
 exact kk.o):p:=h ⟨k⟩
theorem c3j (k:q) (h:Hd q→p:=by
 intro kk
 refine vm3 ?_
 first | refine d6 G Z Z Z Z Z (w9 J (by rw [Q2];omega)) Z Z Z Z Z (Nat.le_of_ble_eq_true Z) Z ?_ | refine d6 G Z Z Z Z Z (w9 J (by rw [I7];omega)) Z Z Z Z Z (Nat.le_of_ble_eq_true Z) Z ?_ | refine d6 G Z Z Z Z Z (w9 J J) Z Z Z Z Z (Nat.le_of_ble_eq_true Z) Z ?_ | refine d6 G Z Z Z Z Z (w9 J g0) Z Z Z Z Z (Nat.le_of_ble_eq_true Z) Z ?_
 refine zgn ?_
 exact kk.o):p:=h ⟨k⟩
theorem b7P (k:q) (h:Hd q→p:=by
 intro kk
 refine vm4 ?_
 refine i6 G w3 Z Z Z Z Z Z Z Z Z C0 Z Z ?_
 refine zgo ?_
 exact kk.o):p:=h ⟨k⟩
theorem c11 (k:q) (h:Hd q→p:=by
 intro kk
 refine zgo ?_
 refine vm3 ?_
 first | refine d6 G Z Z Z Z Z (w9 J J) Z Z Z Z Z (Nat.le_of_ble_eq_true Z) Z ?_ | refine d6 G Z Z Z Z Z (w9 J g0) Z Z Z Z Z (Nat.le_of_ble_eq_true Z) Z ?_
 exact kk.o):p:=h ⟨k⟩
theorem a4t (k:q) (h:Hd q→p:=by exact λkk=>b7 Z Z (P9 G Z Z Z Z) kk.o):p:=h ⟨k⟩
theorem c12 (k:q) (h:Hd q→p:=by
 intro kk
 refine a2H Z Z Z ?_
 first | refine r9 Z Z (I5 G Z Z Z Z Z J J J) ?_ | refine r9 Z Z (I5 G Z Z Z Z Z J a31 a31) ?_
 exact kk.o):p:=h ⟨k⟩
theorem m3 (k:q) (h:Hd q→p:=by
 intro kk
 refine zgo ?_
 refine vm4 ?_
 exact kk.o):p:=h ⟨k⟩
theorem a1M (k:q) (h:Hd q→p:=by
 intro kk
 refine zgn ?_
 refine g8 ?_
 refine R0 Z ?_
 refine p5 ?_
 exact kk.o):p:=h ⟨k⟩
theorem b6p (k:q) (h:Hd q→p:=by
 intro kk
 first | refine r9 Z Z (C3 Z Z Z Z J J) ?_ | refine r9 Z Z (J0 Z Z Z Z) ?_
 exact kk.o):p:=h ⟨k⟩
theorem b6q (k:q) (h:Hd q→p:=by
 intro kk
 refine zgn ?_
 refine p7 ?_
 refine r7 ?_
 refine p7 ?_
 refine a1Y mixed a6 ?_
 exact kk.o):p:=h ⟨k⟩
theorem c13 (k:q) (h:Hd q→p:=by
 intro kk
 first | refine b7 Z Z (b0K G Z Z Z Z (b4M J J)) ?_ | refine b7 Z Z (b0K G Z Z Z Z (b66 J J)) ?_ | refine b7 Z Z (a2M G Z Z Z Z) ?_
 exact kk.o):p:=h ⟨k⟩
theorem c3k (k:q) (h:Hd q→p:=by
 intro kk
 refine VStep.mk1 [0] 29 (.own 1) 1 (.row 183 2 []) [] Z Z Z Z Z (λb1 _ hbn=>i6 G C1 Z Z Z Z Z Z Z Z Z a3X Z Z (a8 Z)) a6 a6 a6 a6 ?_
 refine w6 ?_
 exact kk.o):p:=h ⟨k⟩
theorem c3l (k:q) (h:Hd q→p:=by
 intro kk
 refine VStep.mk1 [] 33 (.own 0) 0 (.row 3 1 []) [] Z Z Z Z Z (λb1 _ hbn=>i6 G C1 Z Z Z Z Z Z Z Z Z a3X Z Z (a8 Z)) a6 a6 a6 a6 ?_
 refine w6 ?_
 exact kk.o):p:=h ⟨k⟩
theorem c14 (k:q) (h:Hd q→p:=by
 intro kk
 refine e9 ?_
 refine vm4 ?_
 refine b7 Z Z (d3 Z Z) ?_
 refine vm4 ?_
 refine b7 Z Z (m4 G Z Z Z Z) ?_
 refine vm4 ?_
 refine b7 Z Z (o9 G Z Z Z Z Z Z Z) ?_
 refine vm4 ?_
 refine b7 Z Z (y9 G Z Z Z Z) ?_
 refine vm4 ?_
 exact kk.o):p:=h ⟨k⟩
theorem c3m (k:q) (h:Hd q→p:=by
 intro kk
 refine zsa 10 ?_
 refine zsa 11 ?_
 refine zsa 12 ?_
 refine zsa 13 ?_
 refine zsa 14 ?_
 refine zsa 15 ?_
 refine zsa 16 ?_
 refine zsa 17 ?_
 refine vm6 ?_
 exact kk.o):p:=h ⟨k⟩
theorem c15 (k:q) (h:Hd q→p:=by
 intro kk
 refine b7 Z Z (d3 Z Z) ?_
 refine vm4 ?_
 refine b7 Z Z (d4 Z Z Z) ?_
 refine vm4 ?_
 refine b7 Z Z (d4 Z Z Z) ?_
 refine vm4 ?_
 refine b7 Z Z (o8 Z Z) ?_
 refine vm4 ?_
 refine b7 Z Z (o8 Z Z) ?_
 refine a8 ?_
 exact kk.o):p:=h ⟨k⟩
theorem I2 (k:q) (h:Hd q→p:=by
 intro kk
 refine p7 ?_
 refine e9 ?_
 exact kk.o):p:=h ⟨k⟩
theorem c3n (k:q) (h:Hd q→p:=by
 intro kk
 refine VStep.mk1 [0,1,2,3,4,5,6,7,8,9,10,11,12,13,14,15] 11 (.ptr 16 0) 16 (.box (avR [.slice none 0 0,.slice none 0 0,.slice none 0 0,.slice none 0 0,.slice none 0 0] [])) [] Z Z Z Z Z (λb1 _ hbn=>l5 G Z Z Z Z Z Z Z Z Z Z Z (a8 Z)) a6 a6 a6 a6 ?_
 refine w6 ?_
 exact kk.o):p:=h ⟨k⟩
theorem c3o (k:q) (h:Hd q→p:=by
 intro kk
 refine VStep.mk1 [0,1,2,3,4,5,6,11,12,13,14,15] 11 (.ptr 16 0) 16 (.box (avR [.slice none 0 0,.slice none 0 0,.slice none 0 0,.slice none 0 0,.slice none 0 0] [])) [] Z Z Z Z Z (λb1 _ hbn=>l5 G Z Z Z Z Z Z Z Z Z Z Z (a8 Z)) a6 a6 a6 a6 ?_
 refine w6 ?_
 exact kk.o):p:=h ⟨k⟩
theorem b7Q (k:q) (h:Hd q→p:=by exact λkk=>b7 Z Z (c6 G Z Z Z Z Z J O4) kk.o):p:=h ⟨k⟩
theorem a8n (k:q) (h:Hd q→p:=by exact λkk=>r9 Z Z (P9 G Z Z Z Z) kk.o):p:=h ⟨k⟩
theorem c16 (k:q) (h:Hd q→p:=by
 intro kk
 refine zgn ?_
 refine A7 (Gh.close (id:=6) (id':=9) (i:=(tgM m i)) (k:=1) Z Z (C9 I1 Z) (λq h=>by cases h) Z) ?_
 refine zgo ?_
 exact kk.o):p:=h ⟨k⟩
theorem a0v (k:q) (h:Hd q→p:=by
 intro kk
 refine zsa 4 ?_
 refine zsa 5 ?_
 refine zsa 6 ?_
 exact kk.o):p:=h ⟨k⟩
theorem S9 (k:q) (h:Hd q→p:=by exact λkk=>m7 Z Z Z kk.o):p:=h ⟨k⟩
theorem c3p (k:q) (h:Hd q→p:=by
 intro kk
 refine VStep.mk1 [0,1,2,3,4,5,6,7,8,9,10] 8 (.ptr 11 0) 11 (.box (avR [.slice none 0 0,.slice none 0 0,.slice none 0 0,.slice none 0 0] [])) [] Z Z Z Z Z (λb1 _ hbn=>l5 G Z Z Z Z Z Z Z Z Z Z Z (a8 Z)) a6 a6 a6 a6 ?_
 refine w6 ?_
 exact kk.o):p:=h ⟨k⟩
theorem c17 (k:q) (h:Hd q→p:=by exact λkk=>b7 Z Z (a1r G Z Z Z Z Z Z J a3Z a3Z) kk.o):p:=h ⟨k⟩
theorem c3q (k:q) (h:Hd q→p:=by
 intro kk
 refine VStep.mk1 [0,1] 3 (.ptr 6 0) 6 (.box (avR [.slice none 0 0,.slice none 0 0,.slice none 0 0,.slice none 0 0,.slice none 0 0] [])) [] Z Z Z Z Z (λb1 _ hbn=>l5 G Z Z Z Z Z Z Z Z Z Z Z (a8 Z)) a6 a6 a6 a6 ?_
 refine w6 ?_
 exact kk.o):p:=h ⟨k⟩
theorem c3r (k:q) (h:Hd q→p:=by
 intro kk
 refine VStep.mk1 [0,1,2,3,4,5,6] 8 (.ptr 11 0) 11 (.box (avR [.slice none 0 0,.slice none 0 0,.slice none 0 0,.slice none 0 0] [])) [] Z Z Z Z Z (λb1 _ hbn=>l5 G Z Z Z Z Z Z Z Z Z Z Z (a8 Z)) a6 a6 a6 a6 ?_
 refine w6 ?_
 exact kk.o):p:=h ⟨k⟩
theorem b7R (k:q) (h:Hd q→p:=by
 intro kk
 refine m3 ?_
 refine c4 2 Z Z Z (ArgsOK.of Z) (I9 sl _ ⟨_,_,_⟩ J J) Z Z ?_
 exact kk.o):p:=h ⟨k⟩
theorem L6 (k:q) (h:Hd q→p:=by
 intro kk
 refine zgo ?_
 refine vm1 ?_
 refine vm7 ?_
 exact kk.o):p:=h ⟨k⟩
theorem c3s (k:q) (h:Hd q→p:=by
 intro kk
 refine VStep.mk1 [0,1,2,3,4] 6 (.ptr 5 0) 5 (.box (avR [.int .i64 0,.slice none 0 0,.slice none 0 0,.slice none 0 0] [])) [] Z Z Z Z Z (λb1 _ hbn=>l5 G Z Z Z Z Z Z Z Z Z Z Z (a8 Z)) a6 a6 a6 a6 ?_
 refine w6 ?_
 exact kk.o):p:=h ⟨k⟩
theorem c3t (k:q) (h:Hd q→p:=by
 intro kk
 refine X3 ?_
 refine vm3 ?_
 first | refine d6 G Z Z Z Z Z (w9 J (by rw [Q2];omega)) Z Z Z Z Z (Nat.le_of_ble_eq_true Z) Z ?_ | refine d6 G Z Z Z Z Z (w9 J (by rw [I7];omega)) Z Z Z Z Z (Nat.le_of_ble_eq_true Z) Z ?_
 exact kk.o):p:=h ⟨k⟩
theorem c3u (k:q) (h:Hd q→p:=by
 intro kk
 refine VStep.mk1 [0,1] 3 (.ptr 6 0) 6 (.box (avR [.slice none 0 0,.slice none 0 0,.slice none 0 0,.slice none 0 0] [])) [] Z Z Z Z Z (λb1 _ hbn=>l5 G Z Z Z Z Z Z Z Z Z Z Z (a8 Z)) a6 a6 a6 a6 ?_
 refine w6 ?_
 exact kk.o):p:=h ⟨k⟩
theorem c3v (k:q) (h:Hd q→p:=by
 intro kk
 refine VStep.mk1 [0] 6 (.ptr 5 0) 5 (.box (avR [.slice none 0 0,.slice none 0 0,.slice none 0 0,.slice none 0 0] [])) [] Z Z Z Z Z (λb1 _ hbn=>l5 G Z Z Z Z Z Z Z Z Z Z Z (a8 Z)) a6 a6 a6 a6 ?_
 refine w6 ?_
 exact kk.o):p:=h ⟨k⟩
theorem c3w (k:q) (h:Hd q→p:=by
 intro kk
 refine VStep.mk1 [0] 21 (.own 1) 1 (.row 183 2 []) [] Z Z Z Z Z (λb1 _ hbn=>i6 G C1 Z Z Z Z Z Z Z Z Z g0 Z Z (a8 Z)) a6 a6 a6 a6 ?_
 refine w6 ?_
 exact kk.o):p:=h ⟨k⟩
theorem c18 (k:q) (h:Hd q→p:=by
 intro kk
 refine u4 6 a6 ?_
 refine a4r Z Z a6 ?_
 refine b7 Z Z (m4 G Z Z Z Z) ?_
 refine a8 ?_
 refine u4 7 a6 ?_
 refine c1Z ?_
 refine zgo ?_
 exact kk.o):p:=h ⟨k⟩
theorem c3x (k:q) (h:Hd q→p:=by
 intro kk
 refine VStep.mk1 [0,1] 5 (.ptr 2 0) 2 (.box (avR [.slice none 0 0,.slice none 0 0] [])) [] Z Z Z Z Z (λb1 _ hbn=>l5 G Z Z Z Z Z Z Z Z Z Z Z (a8 Z)) a6 a6 a6 a6 ?_
 refine w6 ?_
 exact kk.o):p:=h ⟨k⟩
theorem c3y (k:q) (h:Hd q→p:=by
 intro kk
 refine VStep.mk1 [0,1] 4 (.ptr 2 0) 2 (.box (avR [.slice none 0 0,.slice none 0 0] [])) [] Z Z Z Z Z (λb1 _ hbn=>l5 G Z Z Z Z Z Z Z Z Z Z Z (a8 Z)) a6 a6 a6 a6 ?_
 refine w6 ?_
 exact kk.o):p:=h ⟨k⟩
theorem c3z (k:q) (h:Hd q→p:=by
 intro kk
 refine zgo ?_
 refine vm3 ?_
 first | refine d6 G Z Z Z Z Z (a2S J) Z Z Z Z Z (Nat.le_of_ble_eq_true Z) Z ?_ | refine d6 G Z Z Z Z Z (w9 J J) Z Z Z Z Z (Nat.le_of_ble_eq_true Z) Z ?_
 refine zgn ?_
 exact kk.o):p:=h ⟨k⟩
theorem c3A (k:q) (h:Hd q→p:=by
 intro kk
 refine zsa 0 ?_
 refine zsa 1 ?_
 refine zsa 2 ?_
 first | refine i9 3 Z a6 a6 Z Z Z Z (C3 Z Z Z Z J J) ?_ | refine i9 3 Z a6 a6 Z Z Z Z (J0 Z Z Z Z) ?_
 refine zsa 5 ?_
 refine zsa 6 ?_
 exact kk.o):p:=h ⟨k⟩
theorem c3B (k:q) (h:Hd q→p:=by
 intro kk
 refine zsa 8 ?_
 refine zsa 10 ?_
 refine zsa 11 ?_
 refine zsa 12 ?_
 first | refine i9 13 Z a6 a6 Z Z Z Z (C3 Z Z Z Z J J) ?_ | refine i9 13 Z a6 a6 Z Z Z Z (J0 Z Z Z Z) ?_
 exact kk.o):p:=h ⟨k⟩
theorem b7S (k:q) (h:Hd q→p:=by
 intro kk
 refine a2q (Gh.nest (id:=5) (yss:=[]) Z Z b3o) ?_
 refine vm6 ?_
 refine zgo ?_
 exact kk.o):p:=h ⟨k⟩
theorem c3C (k:q) (h:Hd q→p:=by
 intro kk
 refine zgn ?_
 refine I2 ?_
 refine zst ?_
 refine vm4 ?_
 first | refine b7 Z Z (a4e G Z Z Z Z (show List.length [_]=1 from rfl)) ?_ | refine b7 Z Z (a4e G Z Z Z Z (List.length_map _)) ?_ | refine b7 Z Z (a7l G Z Z Z Z) ?_
 refine zgn ?_
 refine zgn ?_
 exact kk.o):p:=h ⟨k⟩
theorem b38 (k:q) (h:Hd q→p:=by
 intro kk
 refine c8 [0,1,2,5,6,7,8,9,10,11] Z Z ?_
 refine F6 ?_
 exact kk.o):p:=h ⟨k⟩
theorem b6r (k:q) (h:Hd q→p:=by
 intro kk
 refine zgo ?_
 refine vm1 ?_
 refine a3c ?_
 refine vm4 ?_
 refine g9 G 3 Z Z Z Z Z ?_
 refine m3 ?_
 exact kk.o):p:=h ⟨k⟩
theorem b39 (k:q) (h:Hd q→p:=by
 intro kk
 refine zsa 6 ?_
 refine zsa 7 ?_
 refine zsa 8 ?_
 refine zsa 9 ?_
 refine c3m ?_
 refine zwf ?_
 refine zwf ?_
 refine zgo ?_
 exact kk.o):p:=h ⟨k⟩
theorem b7T (k:q) (h:Hd q→p:=by
 intro kk
 refine m3 ?_
 refine i6 G np Z Z Z Z Z Z Z Z Z g0 Z Z ?_
 exact kk.o):p:=h ⟨k⟩
theorem b0a (k:q) (h:Hd q→p:=by exact λkk=>g9 G 9 Z Z Z Z Z kk.o):p:=h ⟨k⟩
theorem a2j (k:q) (h:Hd q→p:=by exact λkk=>a2H Z Z Z kk.o):p:=h ⟨k⟩
theorem b2k (k:q) (h:Hd q→p:=by exact λkk=>p4 G 3 Z Z Z Z Z Z Z Z kk.o):p:=h ⟨k⟩
theorem b4a (k:q) (h:Hd q→p:=by
 intro kk
 refine m3 ?_
 refine p4 G 1 Z Z Z Z Z Z Z Z ?_
 exact kk.o):p:=h ⟨k⟩
theorem c3D (k:q) (h:Hd q→p:=by
 intro kk
 refine VStep.mk1 [0,1,2,3] 24 (.own 6) 6 (.row 3 1 []) [] Z Z Z Z Z (λb1 _ hbn=>b7 Z Z (y9 G Z Z Z Z) (a8 Z)) a6 a6 a6 a6 ?_
 refine w6 ?_
 exact kk.o):p:=h ⟨k⟩
theorem a57 (k:q) (h:Hd q→p:=by
 intro kk
 iterate 6 refine zst ?_
 exact kk.o):p:=h ⟨k⟩
theorem c19 (k:q) (h:Hd q→p:=by
 intro kk
 refine m3 ?_
 refine c4 1 Z Z Z (ArgsOK.of Z) (I9 sl _ ⟨_,_,_⟩ J J) Z Z ?_
 exact kk.o):p:=h ⟨k⟩
theorem b1g (k:q) (h:Hd q→p:=by exact λkk=>g9 G 8 Z Z Z Z Z kk.o):p:=h ⟨k⟩
theorem b1h (k:q) (h:Hd q→p:=by exact λkk=>g9 G 7 Z Z Z Z Z kk.o):p:=h ⟨k⟩
theorem a6O (k:q) (h:Hd q→p:=by
 intro kk
 iterate 5 refine zst ?_
 exact kk.o):p:=h ⟨k⟩
theorem b1i (k:q) (h:Hd q→p:=by
 intro kk
 refine c8 [0,2,3,4] Z Z ?_
 refine F6 ?_
 exact kk.o):p:=h ⟨k⟩
theorem b4b (k:q) (h:Hd q→p:=by
 intro kk
 refine b6q ?_
 iterate 8 refine zst ?_
 refine j7 Z ?_
 exact kk.o):p:=h ⟨k⟩
theorem b0b (k:q) (h:Hd q→p:=by
 intro kk
 refine zsa 1 ?_
 refine zsa 2 ?_
 refine zsa 5 ?_
 refine zsa 6 ?_
 exact kk.o):p:=h ⟨k⟩
theorem c3E (k:q) (h:Hd q→p:=by
 intro kk
 first | refine b7 Z Z (s0 G Z Z Z Z Z (a2S J) Z) ?_ | refine b7 Z Z (s0 G Z Z Z Z Z (w9 J J) Z) ?_
 exact kk.o):p:=h ⟨k⟩
theorem E9 (k:q) (h:Hd q→p:=by
 intro kk
 refine zgn ?_
 refine p7 ?_
 exact kk.o):p:=h ⟨k⟩
theorem c3F (k:q) (h:Hd q→p:=by
 intro kk
 refine A7 (Gh.detach (id:=5) Z) ?_
 refine A7 (Gh.detach (id:=5) Z) ?_
 exact kk.o):p:=h ⟨k⟩
theorem b7U (k:q) (h:Hd q→p:=by
 intro kk
 refine vm4 ?_
 refine l5 G Z Z Z Z Z Z Z Z Z Z Z ?_
 exact kk.o):p:=h ⟨k⟩
theorem c2a (k:q) (h:Hd q→p:=by
 intro kk
 refine a2q (Gh.nest (id:=6) (yss:=[]) Z Z b3o) ?_
 refine vm6 ?_
 refine zgo ?_
 exact kk.o):p:=h ⟨k⟩
theorem b4c (k:q) (h:Hd q→p:=by
 intro kk
 refine u4 6 a6 ?_
 refine c1Z ?_
 refine X3 ?_
 exact kk.o):p:=h ⟨k⟩
theorem b4d (k:q) (h:Hd q→p:=by
 intro kk
 refine zgn ?_
 refine e9 ?_
 refine zst ?_
 refine vm4 ?_
 refine vm5 ?_
 refine zgn ?_
 exact kk.o):p:=h ⟨k⟩
theorem b4e (k:q) (h:Hd q→p:=by
 intro kk
 refine c8 [1,2,3,4,7] Z Z ?_
 refine F6 ?_
 exact kk.o):p:=h ⟨k⟩
theorem b4f (k:q) (h:Hd q→p:=by
 intro kk
 refine I2 ?_
 iterate 4 refine zst ?_
 refine vm4 ?_
 exact kk.o):p:=h ⟨k⟩
theorem b6s (k:q) (h:Hd q→p:=by exact λkk=>p4 G 8 Z Z Z Z Z Z Z Z kk.o):p:=h ⟨k⟩
theorem b6t (k:q) (h:Hd q→p:=by exact λkk=>p4 G 9 Z Z Z Z Z Z Z Z kk.o):p:=h ⟨k⟩
theorem a9c (k:q) (h:Hd q→p:=by exact λkk=>g9 G 5 Z Z Z Z Z kk.o):p:=h ⟨k⟩
theorem a7Z (k:q) (h:Hd q→p:=by exact λkk=>b7 Z Z (c0O Z Z) kk.o):p:=h ⟨k⟩
theorem Q4 (k:q) (h:Hd q→p:=by
 intro kk
 refine zsa 4 ?_
 refine zsa 5 ?_
 exact kk.o):p:=h ⟨k⟩
theorem a32 (k:q) (h:Hd q→p:=by
 intro kk
 refine zsa 0 ?_
 refine zsa 1 ?_
 refine zsa 2 ?_
 exact kk.o):p:=h ⟨k⟩
theorem b9h (k:q) (h:Hd q→p:=by
 intro kk
 refine m3 ?_
 refine b7Q ?_
 refine vm4 ?_
 refine d6 G Z Z Z Z Z (C7 J J) Z Z Z Z Z (Nat.le_of_ble_eq_true Z) Z ?_
 refine zgo ?_
 exact kk.o):p:=h ⟨k⟩
theorem b3p (k:q) (h:Hd q→p:=by
 intro kk
 refine m3 ?_
 refine p4 G 2 Z Z Z Z Z Z Z Z ?_
 exact kk.o):p:=h ⟨k⟩
theorem b6u (k:q) (h:Hd q→p:=by
 intro kk
 refine c8 [0,2,3,4,5,6,7,8,9,10,11,12,14] Z Z ?_
 refine F6 ?_
 refine vm6 ?_
 exact kk.o):p:=h ⟨k⟩
theorem a6C (k:q) (h:Hd q→p:=by
 intro kk
 refine c8 [0] Z Z ?_
 refine F6 ?_
 exact kk.o):p:=h ⟨k⟩
theorem b3q (k:q) (h:Hd q→p:=by exact λkk=>r9 Z Z (a3R (G 4 _ Z).1 Z Z Z) kk.o):p:=h ⟨k⟩
theorem a6D (k:q) (h:Hd q→p:=by exact λkk=>zcl (a3d _ _ _) kk.o):p:=h ⟨k⟩
theorem a6E (k:q) (h:Hd q→p:=by
 intro kk
 iterate 3 refine zst ?_
 exact kk.o):p:=h ⟨k⟩
theorem b6v (k:q) (h:Hd q→p:=by exact λkk=>b7 Z Z (l9 Z (ArgsOK.of Z) (a3d _ _ _) Z) kk.o):p:=h ⟨k⟩
theorem b3r (k:q) (h:Hd q→p:=by
 intro kk
 refine vm4 ?_
 refine b7 Z Z (o8 Z Z) ?_
 refine a8 ?_
 exact kk.o):p:=h ⟨k⟩
theorem b1j (k:q) (h:Hd q→p:=by exact λkk=>g9 G 12 Z Z Z Z Z kk.o):p:=h ⟨k⟩
theorem a9d (k:q) (h:Hd q→p:=by exact λkk=>a1Y mixed a6 kk.o):p:=h ⟨k⟩
theorem b3s (k:q) (h:Hd q→p:=by exact λkk=>b7 Z Z (a2K G Z Z Z Z) kk.o):p:=h ⟨k⟩
theorem b1k (k:q) (h:Hd q→p:=by exact λkk=>g9 G 6 Z Z Z Z Z kk.o):p:=h ⟨k⟩
theorem w8 (k:q) (h:Hd q→p:=by
 intro kk
 refine zgo ?_
 refine vm1 ?_
 exact kk.o):p:=h ⟨k⟩
theorem b9i (k:q) (h:Hd q→p:=by
 intro kk
 refine c8 [1,2,3,4,5,7,8,9,10,11,12,13,14,15,16,17,18,19,20,21,22,23,24,25,26,27] Z Z ?_
 refine F6 ?_
 exact kk.o):p:=h ⟨k⟩
theorem b3t (k:q) (h:Hd q→p:=by exact λkk=>p4 G 4 Z Z Z Z Z Z Z Z kk.o):p:=h ⟨k⟩
end Go.Rf
