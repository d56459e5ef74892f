/- Names for what is said again and again in walks. -/
import Derived.Test.YtpfhomblkgmkkaaGreatDoorLibE
set_option linter.unusedSimpArgs false
set_option linter.unusedVariables false
namespace Go.Rf
theorem b68 {p:Prop} (h:p:=by (first | (rw [hS];done) | (rw [hS];(first | rfl | exact List.map_set.symm | (rw [J6];done) | exact c5o Z | (simp only [l8];done))))):p:=h
theorem b9n {p:Prop} (h:p:=by (exact b7r J J)):p:=h
theorem c5L {p:Prop} (h:p:=by (first | (have e:i=xs.length:=J;subst e;rfl) | (exfalso;omega) | (exfalso;simp_all [b6S,b3G,b6Q];done))):p:=h
theorem c5M {p:Prop} (h:p:=by (first | (exact congrArg Value.bool (c4S i6).symm) | (exact congrArg Value.bool (c4T J).symm) | (exact congrArg Value.bool (b8L (k:=k) (c4V i6) J).symm) | (exact congrArg Value.bool (b8L (k:=k) (c4W i6) J).symm) | (exact congrArg Value.bool (c4U h1 J J hk.2 J).symm))):p:=h
theorem c5N {p:Prop} (h:p:=by (first | (have e:Y1 s=true:=a15 hinv.2 J;simp [e];done) | (have e:Y1 s=false:=a0n (i:=i) (by simp only [a6U,Bool.and_eq_false_iff,decide_eq_false_iff_not,Bool.not_eq_false',beq_iff_eq];omega) J;simp [e];done))):p:=h
theorem c5O {p:Prop} (h:p:=by (first | (have e:xs≠ys:=λe=>(by (subst e;simp_all;done));simp [e];done) | (have e:xs=ys:=T7 J hinv.2 J;simp [e];done) | (have e:xs≠ys:=O3 (i:=i) (λe=>(by simp_all));simp [e];done))):p:=h
theorem b9o {p:Prop} (h:p:=by (first | rfl | (unfold a3k;rw [ho];done) | (unfold a3k;rw [ho];rfl))):p:=h
theorem b9p {p:Prop} (h:p:=by (first | (have e:i=xs.length:=J;subst e;rfl) | (exfalso;omega) | (exfalso;simp_all [mkB,mkI,mkO];done))):p:=h
theorem b9q {p:Prop} (h:p:=by (first | rfl | (rw [List.take_length];done) | (rw [List.take_length];rfl) | simp)):p:=h
theorem c2h {p:Prop} (h:p:=by (first | (exact congrArg Value.bool (b73 (q:=⟨sl,wa⟩) (i:=i) (b5r (λg=>by dsimp only at g;first | exact U1 i6 g.1 | exact U1 i6 g.2.1 | (have:=g.2.2.1;omega) | (have h9:=b4C.mp (show 0<=G6 (λj=>decide ((wa.getD j default).q=(wa.getD i default).q)) i by omega);obtain ⟨j,hj,e⟩:=a9F.mp h9;exact g.2.2.2.1 j hj (of_decide_eq_true e)) | (rcases g.2.2.2.2 with g1 | g1<;>first | (exfalso;omega) | (rw [← ht J] at g1;first | (have:=a0U.mpr g1;omega) | (simp_all;done))) | exact g.2.2.2.1 _ J i6)) (show i < wa.length by omega)).symm) | (exact congrArg Value.bool (b72 (q:=⟨sl,wa⟩) i6).symm) | (exact congrArg Value.bool (b79 i6 hinv.2 J J)))):p:=h
theorem c2i {p:Prop} (h:p:=by (first | (rw [J4 (i:=i) hinv.2 J i6];done) | (rw [a0o hinv.2 J];done))):p:=h
theorem c2j {p:Prop} (h:p:=by (first | (exact congrArg Value.bool (b72 (q:=⟨sl,wa⟩) i6).symm) | (exact congrArg Value.bool (b74 (q:=⟨sl,wa⟩) i6 hinv.2 (show wa.length<=i by omega)).symm) | (exact congrArg Value.bool (b73 (q:=⟨sl,wa⟩) (i:=i) (b5r (λg=>by dsimp only at g;first | exact U1 i6 g.1 | exact U1 i6 g.2.1 | (have:=g.2.2.1;omega) | (have h9:=b4C.mp (show 0<=G6 (λj=>decide ((wa.getD j default).q=(wa.getD i default).q)) i by omega);obtain ⟨j,hj,e⟩:=a9F.mp h9;exact g.2.2.2.1 j hj (of_decide_eq_true e)) | (rcases g.2.2.2.2 with g1 | g1<;>first | (exfalso;omega) | (rw [← ht J] at g1;first | (have:=a0U.mpr g1;omega) | (simp_all;done))) | exact g.2.2.2.1 _ J i6)) (show i < wa.length by omega)).symm))):p:=h
theorem c2k {p:Prop} (h:p:=by (first | (exact congrArg Value.bool (b70 hinv.2 J)) | (rw [b4G J];done) | (exact congrArg Value.bool (b4F (i:=i) (b7Z (λg=>by first | exact U1 i6 g.1 | exact U1 i6 g.2.1 | exact U1 i6 g.2.2)) J).symm) | (exact congrArg Value.bool (b4F (i:=i) (by first | exact c0z J J | exact c0A J J J) J).symm))):p:=h
theorem c2l {p:Prop} (h:p:=by (first | (exact congrArg Value.bool (b4G J).symm) | (exact congrArg Value.bool (b7Y J hinv.2 J).symm) | (exact congrArg Value.bool (b4F (i:=i) (by first | exact b7W i6 (λe=>c8q i6 (a9G.mp e)) | exact b7X i6 (b4C.mp J) | exact b4E i6 (c4A i6) | exact b4E i6 (c4B i6) | exact b4E i6 (c4C i6)) J).symm))):p:=h
theorem c2m {p:Prop} (h:p:=by (first | (exact congrArg Value.bool (b8M h1).symm) | (exact congrArg Value.bool (b8N h2).symm) | (exact congrArg Value.bool (a9L (c0T (i:=i) J (λg=>b5H.mp h4 ((a6h 4).mpr g)))).symm) | (obtain ⟨k,hk,e⟩:=(a9N J).mp (a9M.mp h5);(exact congrArg Value.bool (a9L (b8H hSl hk J e)).symm)) | (exact congrArg Value.bool (a9L (b8F (i:=i) (c14 J b5Z) J)).symm) | (have e:i=x.st.length:=J;subst e;rw [c40 h1 h2,hinv.2.fin hSl,c8s,a6i];done))):p:=h
theorem c2n {p:Prop} (h:p:=by (first | (exact congrArg Value.bool (b8K hi.2 J hj.2 J).symm) | (exact congrArg Value.bool (b8J (i:=i) (b8I.mpr (λg=>by first | exact g.1 i6 | (rcases g.2 with g2 | ⟨g2,g3⟩<;>first | (exact absurd g2 i6) | (exact absurd g3 i6)))) J).symm) | (exact congrArg Value.bool (c4R (i:=j) (c4Q.mpr (λg=>by first | exact absurd g.1 i6 | exact absurd g.2 i6)) J).symm))):p:=h
theorem c2o {p:Prop} (h:p:=by (first | rfl | (have e:i=xs.length:=J;subst e;simp;done) | (have ht1:((i:Int)+1).toNat=i+1:=J;first | (rw [show List.take ((((xs.map e7).length:Nat):Int).toNat - ((i:Nat):Int).toNat) (List.drop ((i:Nat):Int).toNat (xs.map e7))=List.drop i (xs.map e7) from List.take_of_length_le (by rw [List.length_drop,Int.toNat_natCast,Int.toNat_natCast];exact Nat.le_refl _)];simp only [Int.toNat_natCast,ht1,Int.toNat_zero,List.length_drop,List.length_cons,List.length_nil,Nat.zero_add,List.map_append,List.map_take,List.map_drop,List.map_cons,List.map_nil,Nat.sub_zero];exact b7H (by rw [List.length_map];exact hi) (by rw [List.length_replicate,List.length_map])) | (rw [show xs.length+1=(xs.map e7).length+1 from by rw [List.length_map]];simp only [Int.toNat_natCast,ht1,Int.toNat_zero,List.length_drop,List.length_cons,List.length_nil,Nat.zero_add,List.map_append,List.map_take,List.map_drop,List.map_cons,List.map_nil,Nat.sub_zero];exact b3m (by rw [List.length_map];exact hi) J)))):p:=h
theorem c2p {p:Prop} (h:p:=by (first | (exact congrArg Value.bool (b8M h1).symm) | (exact congrArg Value.bool (b8N h2).symm) | (exact congrArg Value.bool (a9L (b2s h3)).symm) | (exact congrArg Value.bool (a9L (b8F (i:=i) (c14 J b5Z) J)).symm) | (exact congrArg Value.bool (c4Z h1 h2 (b8G h3 hinv.2 J)).symm))):p:=h
theorem c2q {p:Prop} (h:p:=by (first | (rw [c0r (i:=i) J (by simp only [b6P];try rw [← ftn];omega)];done) | (rw [c0s (i:=i) J (by simp only [b6P];try rw [← ftn];omega)];done))):p:=h
theorem c2r {p:Prop} (h:p:=by (first | (have e:a0H rs.length (λi=>a9A c (rs.getD i default))=false:=a0n (i:=i) (by simp_all [a9A]) J;simp only [okRts,e,Bool.and_false];done) | (have e:a0H rs.length (λi=>a9A c (rs.getD i default))=true:=a15 hinv.2 J;first | (simp only [okRts,e,h4,c8p,Bool.and_true,Bool.true_and,Bool.false_and];done)))):p:=h
theorem c2s {p:Prop} (h:p:=by (first | rfl | (rw [b82 (i:=i) J i6 i6];done) | (rw [c5g (k:=k) hinv.2 J J (by first | exact b5Q J | exact c04 J J)];done) | (rw [c5h hinv.2 J J hk.2];done))):p:=h
theorem c2t {p:Prop} (h:p:=by (first | (have e:i=xs.length:=J;subst e;first | rfl | (congr 1;omega)) | (exfalso;omega) | (exact absurd Z h2))):p:=h
theorem c2u {p:Prop} (h:p:=by (first | (simp only [b0w];rw [if_pos];have hq:=@a33 xs xs.length;omega) | (have e:i=xs.length:=J;subst e;simp only [b0w];rw [if_neg J];done) | (have hq:=a1I (xs:=xs) (show i+1<=xs.length by omega);rw [I5] at hq;simp only [b0w];rw [if_pos];split at h3<;>omega))):p:=h
theorem c2v {p:Prop} (h:p:=by (first | (rw [b8a (b2f.mpr J)];done) | (rw [b8a (b2f.mpr J)];rfl) | (rw [b5s (W8.mpr J)];done) | (rw [b5s (W8.mpr J)];rfl))):p:=h
theorem c2w {p:Prop} (h:p:=by (first | (have e:xs≠ys:=λe=>(by (subst e;simp_all [b4x];done));simp [e];done) | (have e:xs=ys:=T7 J hinv.2 J;simp [e];done) | (have e:xs≠ys:=O3 (i:=i) (λe=>(by simp_all [b4x]));simp [e];done))):p:=h
theorem c2x {p:Prop} (h:p:=by (first | (have e:xs≠ys:=λe=>(by (subst e;simp_all [b4A];done));simp [e];done) | (have e:xs=ys:=T7 J hinv.2 J;simp [e];done) | (have e:xs≠ys:=O3 (i:=i) (λe=>(by simp_all [b4A]));simp [e];done))):p:=h
theorem c2y {p:Prop} (h:p:=by (first | (have e:xs≠ys:=λe=>(by (subst e;simp_all [b4B];done));simp [e];done) | (have e:xs=ys:=T7 J hinv.2 J;simp [e];done) | (have e:xs≠ys:=O3 (i:=i) (λe=>(by simp_all [b4B]));simp [e];done))):p:=h
theorem c2z {p:Prop} (h:p:=by (first | (have e:xs≠ys:=λe=>(by (subst e;omega));simp [e];done) | (have e:xs=ys:=T7 J hinv.2 J;simp [e];done) | (have e:xs≠ys:=O3 (i:=i) (λe=>(by have:=b3F.mpr e;simp_all));simp [e];done))):p:=h
theorem c2A {p:Prop} (h:p:=by (first | (have e:l≠r:=λe=>(by (subst e;omega));simp [e];done) | (have e:l=r:=T7 J hinv.2 J;simp [e];done) | (have e:l≠r:=O3 (i:=i) (λe=>(by simp_all));simp [e];done))):p:=h
theorem c2B {p:Prop} (h:p:=by (first | (rw [c0p J];done) | (rw [c0q J (show i=8 by omega)];done))):p:=h
theorem c2C {p:Prop} (h:p:=by ((rw [c0R hk.2 hk.1 (by first | exact .inl J | exact .inr ⟨by omega,by omega⟩),a1m,a9I];simp [Rf.n7];done))):p:=h
theorem c2D {p:Prop} (h:p:=by (first | (rw [b7T hinv.2 J i6];done) | (rw [c1V hinv.2 J];done))):p:=h
theorem c2E {p:Prop} (h:p:=by (first | (rw [r9,J4 (i:=i) hinv.2 J (by simp_all [fdP])];done) | (rw [r9,a0o hinv.2 J];done))):p:=h
theorem c2F {p:Prop} (h:p:=by (first | (rw [freS,J4 (i:=i) hinv.2 J (by simp_all [emP])];done) | (rw [freS,a0o hinv.2 J];done))):p:=h
theorem c2G {p:Prop} (h:p:=by (first | (rw [inW,J4 (i:=i) hinv.2 J (decide_eq_true i6)];done) | (rw [inW,a0o hinv.2 J];done))):p:=h
theorem c2H {p:Prop} (h:p:=by (first | (rw [a55 hinv.2 hinv.1 b9r];done) | (rw [a55 hinv.2 hinv.1 b9r];rfl))):p:=h
theorem c2I {p:Prop} (h:p:=by (first | (rw [a55 hinv.2 hinv.1 b9r,a1m,a9I];simp [e7];done))):p:=h
theorem c2J {p:Prop} (h:p:=by (first | rfl | (rw [ht];done) | (rw [ht];rfl) | (rw [ht,ht2];done) | (rw [ht,ht2];rfl))):p:=h
theorem c2K {p:Prop} (h:p:=by (first | rfl | (rw [ht];done) | (rw [ht];rfl) | (rw [ht,ht2];done) | (rw [ht,ht2];rfl) | (rw [ht,ht2];simp [a4X,Rf.n7];done))):p:=h
theorem c2L {p:Prop} (h:p:=by (first | (rw [J4 (i:=i) hinv.2 J b9s];done) | (rw [a0o hinv.2 J];done))):p:=h
theorem c2M {p:Prop} (h:p:=by (simp only [a9C];first | (rw [I9 (i:=i) b9s J];done) | (rw [a17 hinv.2 J];done))):p:=h
theorem c2N {p:Prop} (h:p:=by (first | (exact congrArg Value.bool (b8J (i:=i) (b8I.mpr (λg=>g.1 J)) J).symm) | (exact congrArg Value.bool (c6T hinv.2)))):p:=h
theorem c2O {p:Prop} (h:p:=by (first | rfl | (rw [b82 (i:=i) J i6 i6];done) | (rw [b4W hinv.2 J];done))):p:=h
theorem c2P {p:Prop} (h:p:=by (first | (have e:l7 s b=true:=I9 (i:=i) (by simp only [beq_iff_eq];omega) J;simp [e];done) | (have e:l7 s b=false:=a17 (i:=i) (λj hj=>by simpa using hinv.2 j hj) J;simp [e];done))):p:=h
theorem a8 {p:Prop} (h:p:=by kernel_rfl):p:=h
theorem s6 {p:Prop} (h:p:=by (try simp only [List.length_take,List.length_append,List.length_map,List.length_drop,List.length_cons,List.length_nil,List.length_replicate,Int.toNat_natCast]);omega):p:=h
theorem R4 {p:Prop} (h:p:=by first | (simp only [List.length_map,List.length_cons,List.length_nil];omega) | (simp;omega)):p:=h
theorem a4v {p:Prop} (h:p:=by first | (simp;omega) | (simp only [a1m,a9I,List.length_append,List.length_map,List.length_take,List.length_drop,List.length_cons,List.length_nil];omega)):p:=h
theorem i6 {p:Prop} (h:p:=by assumption):p:=h
theorem G0 {p:Prop} (h:p:=by simp only [List.length_set,List.length_map];omega):p:=h
theorem a6v {p:Prop} (h:p:=by first | exact List.Mem.head _ | exact List.Mem.tail _ (List.Mem.head _) | exact List.Mem.tail _ (List.Mem.tail _ (List.Mem.head _)) | simp):p:=h
theorem O9 {p:Prop} (h:p:=by rw [hbn];exact Nat.le_of_ble_eq_true Z):p:=h
theorem a7V {p:Prop} (h:p:=by rw [List.length_set,List.length_set,List.length_map,a3n J];omega):p:=h
theorem a4w {p:Prop} (h:p:=by simp only [tgM,List.set_set];rw [List.map_set];rfl):p:=h
theorem a7W {p:Prop} (h:p:=by simp only [List.length_set,List.length_map];rw [W9];omega):p:=h
theorem a7X {p:Prop} (h:p:=by rw [List.length_set,List.length_map,a3n J];omega):p:=h
theorem a0z {p:Prop} (h:p:=by exact Nat.le_of_ble_eq_true Z):p:=h
theorem X6 {p:Prop} (h:p:=by rw [List.nil_append,c6M]):p:=h
theorem a7Y {p:Prop} (h:p:=by rw [List.length_map,a3n J];omega):p:=h
theorem B1 {p:Prop} (h:p:=by simp;omega):p:=h
theorem b50 {p:Prop} (h:p:=by (try simp only [ByteArray.size_append,r8,List.size_toArray,List.length_cons,List.length_nil]);omega):p:=h
theorem a4x {p:Prop} (h:p:=by first | (simp;done) | (simp;omega)):p:=h
theorem a1O {p:Prop} (h:p:=by first | assumption | omega):p:=h
theorem b9s {p:Prop} (h:p:=by first | exact decide_eq_true i6 | exact decide_eq_true (Eq.symm i6) | exact decide_eq_false i6 | exact decide_eq_false (Ne.symm i6)):p:=h
theorem b9r {p:Prop} (h:p:=by first | exact .inl J | exact .inr ⟨by omega,by first | assumption | (rw [← Bool.not_eq_true,← a0U];omega)⟩):p:=h
theorem b51 {p:Prop} (h:p:=by simp only [List.length_set,List.length_map];rw [a1p J];omega):p:=h
theorem a6w {p:Prop} (h:p:=by rw [List.length_map];omega):p:=h
theorem c2Q {p:Prop} (h:p:=by simp only [List.length_take,List.length_append,List.length_map,List.length_drop,List.length_cons,List.length_nil,Int.toNat_natCast,Nat.min_def];(repeat' split)<;>omega):p:=h
theorem c2R {p:Prop} (h:p:=by first | exact ArgsOK.of Z | exact ArgsOK.of (congrArg some (congrArg (λz=>[AV.lst 1 z,.v (.int .i64 (x.st.getD i default))]) (a1m (xs:=x.st) (i:=i))))):p:=h
theorem b52 {p:Prop} (h:p:=by rw [List.length_map,a1p J];omega):p:=h
theorem b53 {p:Prop} (h:p:=by first | omega | (simp;done) | (simp;omega)):p:=h
theorem c2S {p:Prop} (h:p:=by first | exact .inl J | (right;rw [← ht J];first | exact a0U.mp J | assumption)):p:=h
theorem b54 {p:Prop} (h:p:=by rw [a0j,List.map_set];rfl):p:=h
theorem b5Z {p:Prop} (h:p:=by rw [← hti J];omega):p:=h
theorem b9t {p:Prop} (h:p:=by intro c hc;rw [List.mem_singleton.1 hc];rfl):p:=h
theorem b9u {p:Prop} (h:p:=by rw [List.length_map,List.length_take];omega):p:=h
theorem c2T {p:Prop} (h:p:=by (try simp only [List.set_set]);exact a24 (g:=b3G k) (f:=e7) J):p:=h
theorem c2U {p:Prop} (h:p:=by first | (left;omega) | (right;rw [← Bool.not_eq_true,← a0U];omega)):p:=h
theorem vm1 {p q:Prop} (k:q) (h:Hd q→p:=by
 intro kk
 refine n9 ?_
 refine b8 ?_
 iterate 3 refine zst ?_
 refine a7 Z ?_
 first | refine b5 Z Z (b9 G Z Z Z Z Z J b52) ?_ | refine b5 Z Z (b9 G Z Z Z Z Z J (by rw [List.length_set,List.length_map,a1p J];omega)) ?_ | refine b5 Z Z (b9 G Z Z Z Z Z J b51) ?_
 refine a7 Z ?_
 refine b5 Z Z (N7 G Z Z Z Z) ?_
 refine a7 Z ?_
 first | refine l2 G Z Z Z Z Z (b3c J) Z Z Z Z Z (Nat.le_of_ble_eq_true Z) Z ?_ | refine l2 G Z Z Z Z Z (a8K b52) Z Z Z Z Z (Nat.le_of_ble_eq_true Z) Z ?_ | refine l2 G Z Z Z Z Z (a8K b51) Z Z Z Z Z (Nat.le_of_ble_eq_true Z) Z ?_
 refine zgn ?_
 exact kk.o):p:=h ⟨k⟩
theorem vm2 {p q:Prop} (k:q) (h:Hd q→p:=by
 intro kk
 refine a7 Z ?_
 first | refine b5 Z Z (v7 Z Z Z Z J J) ?_ | refine b5 Z Z (A2 Z Z Z Z) ?_
 exact kk.o):p:=h ⟨k⟩
theorem vm3 {p q:Prop} (k:q) (h:Hd q→p:=by
 intro kk
 refine zgo ?_
 refine a7 Z ?_
 refine A3 1 Z Z Z Z Z Z Z ?_
 exact kk.o):p:=h ⟨k⟩
theorem vm4 {p q:Prop} (k:q) (h:Hd q→p:=by
 intro kk
 simp only [List.cons_append,List.nil_append]
 exact kk.o):p:=h ⟨k⟩
theorem vm5 {p q:Prop} (k:q) (h:Hd q→p:=by exact λkk=>a7 Z kk.o):p:=h ⟨k⟩
theorem vm6 {p q:Prop} (k:q) (h:Hd q→p:=by
 intro kk
 refine vm5 ?_
 first | refine b5 Z Z (p9 G Z Z Z Z Z J (by rw [List.length_map,W9];omega)) ?_ | refine b5 Z Z (p9 G Z Z Z Z Z J a7W) ?_
 refine vm5 ?_
 refine b5 Z Z (N7 G Z Z Z Z) ?_
 refine vm5 ?_
 exact kk.o):p:=h ⟨k⟩
theorem vm7 {p q:Prop} (k:q) (h:Hd q→p:=by
 intro kk
 refine zgo ?_
 refine vm5 ?_
 first | refine b5 Z Z (b9 G Z Z Z Z Z J B1) ?_ | refine b5 Z Z (b9 G Z Z Z Z Z J J) ?_
 refine vm5 ?_
 exact kk.o):p:=h ⟨k⟩
theorem vm8 {p q:Prop} (k:q) (h:Hd q→p:=by
 intro kk
 refine vm5 ?_
 refine j3 G np Z Z Z Z Z Z Z Z Z R4 Z Z ?_
 exact kk.o):p:=h ⟨k⟩
theorem vm9 {p q:Prop} (k:q) (h:Hd q→p:=by
 intro kk
 refine vm5 ?_
 refine b5 Z Z (V9 G Z Z Z Z Z Z s6 s6 s6 s6) ?_
 exact kk.o):p:=h ⟨k⟩
theorem J7 {p q:Prop} (k:q) (h:Hd q→p:=by
 intro kk
 refine zgo ?_
 refine vm5 ?_
 refine b5 Z Z (s8 Z Z Z Z) ?_
 exact kk.o):p:=h ⟨k⟩
theorem c1g {p q:Prop} (k:q) (h:Hd q→p:=by
 intro kk
 refine zgo ?_
 refine vm5 ?_
 first | refine b5 Z Z (p9 G Z Z Z Z Z J a6w) ?_ | refine b5 Z Z (p9 G Z Z Z Z Z J G0) ?_ | refine b5 Z Z (p9 G Z Z Z Z Z J J) ?_
 refine vm5 ?_
 exact kk.o):p:=h ⟨k⟩
theorem b0x {p q:Prop} (k:q) (h:Hd q→p:=by
 intro kk
 refine vm5 ?_
 refine d6 G 2 Z Z Z Z Z ?_
 exact kk.o):p:=h ⟨k⟩
theorem c1h {p q:Prop} (k:q) (h:Hd q→p:=by
 intro kk
 refine vm7 ?_
 first | refine l2 G Z Z Z Z Z (a14 J) Z Z Z Z Z (Nat.le_of_ble_eq_true Z) Z ?_ | refine l2 G Z Z Z Z Z (x9 J J) Z Z Z Z Z (Nat.le_of_ble_eq_true Z) Z ?_ | refine l2 G Z Z Z Z Z (x9 J B1) Z Z Z Z Z (Nat.le_of_ble_eq_true Z) Z ?_
 exact kk.o):p:=h ⟨k⟩
theorem a45 {p q:Prop} (k:q) (h:Hd q→p:=by
 intro kk
 refine n9 ?_
 refine b8 ?_
 iterate 2 refine zst ?_
 refine vm5 ?_
 exact kk.o):p:=h ⟨k⟩
theorem c1i {p q:Prop} (k:q) (h:Hd q→p:=by
 intro kk
 refine b5 Z Z (a7D G Z Z Z Z Z (w9.2 ⟨_,(Y2 a7W Z),Z⟩) (.own (by first | exact List.Mem.head _ | simp) .nil)) ?_
 refine zst ?_
 refine vm5 ?_
 exact kk.o):p:=h ⟨k⟩
theorem c7u {p q:Prop} (k:q) (h:Hd q→p:=by
 intro kk
 refine vm5 ?_
 first | refine b5 Z Z (b9 G Z Z Z Z Z J b52) ?_ | refine b5 Z Z (b9 G Z Z Z Z Z J (by rw [List.length_set,List.length_map,a1p J];omega)) ?_ | refine b5 Z Z (b9 G Z Z Z Z Z J b51) ?_
 refine vm5 ?_
 first | refine l2 G Z Z Z Z Z (b3c J) Z Z Z Z Z (Nat.le_of_ble_eq_true Z) Z ?_ | refine l2 G Z Z Z Z Z (a8K b52) Z Z Z Z Z (Nat.le_of_ble_eq_true Z) Z ?_ | refine l2 G Z Z Z Z Z (a8K b51) Z Z Z Z Z (Nat.le_of_ble_eq_true Z) Z ?_
 refine zgn ?_
 refine b8 ?_
 refine zst ?_
 refine vm2 ?_
 refine zgn ?_
 refine b8 ?_
 exact kk.o):p:=h ⟨k⟩
theorem c7v {p q:Prop} (k:q) (h:Hd q→p:=by
 intro kk
 refine g9 [1,2,5,6] Z Z ?_
 refine zgo ?_
 refine ⟨Z,?_⟩
 first | refine d5 5 Z a8 a8 Z Z Z Z (b9 G Z Z Z Z Z J J) ?_ | refine d5 5 Z a8 a8 Z Z Z Z (b9 G Z Z Z Z Z J B1) ?_
 first | refine d5 6 Z a8 a8 Z Z Z Z (d8 G Z Z Z Z (a14 J) Z) ?_ | refine d5 6 Z a8 a8 Z Z Z Z (d8 G Z Z Z Z (V5 J J) Z) ?_ | refine d5 6 Z a8 a8 Z Z Z Z (d8 G Z Z Z Z (x9 J J) Z) ?_ | refine d5 6 Z a8 a8 Z Z Z Z (d8 G Z Z Z Z (x9 J B1) Z) ?_
 exact kk.o):p:=h ⟨k⟩
theorem b69 {p q:Prop} (k:q) (h:Hd q→p:=by
 intro kk
 refine vm4 ?_
 refine n9 ?_
 refine a45 ?_
 first | refine b5 Z Z (T5 G Z Z Z Z (by rw [List.length_map,a1p J])) ?_ | refine b5 Z Z (a1j G Z Z Z Z) ?_
 refine zgn ?_
 exact kk.o):p:=h ⟨k⟩
theorem U6 {p q:Prop} (k:q) (h:Hd q→p:=by
 intro kk
 refine zgo ?_
 refine ⟨Z,?_⟩
 exact kk.o):p:=h ⟨k⟩
theorem b7a {p q:Prop} (k:q) (h:Hd q→p:=by
 intro kk
 refine j6 Z ?_
 refine s1 Z Z (G5 Z Z Z b50) ?_
 exact kk.o):p:=h ⟨k⟩
theorem a2G {p q:Prop} (k:q) (h:Hd q→p:=by
 intro kk
 refine n9 ?_
 refine b8 ?_
 iterate 3 refine zst ?_
 exact kk.o):p:=h ⟨k⟩
theorem c7w {p q:Prop} (k:q) (h:Hd q→p:=by
 intro kk
 refine zgo ?_
 refine a2P Z Z Z ?_
 first | refine s1 Z Z (b9 G Z Z Z Z Z J a7Y) ?_ | refine s1 Z Z (b9 G Z Z Z Z Z J a7X) ?_ | refine s1 Z Z (b9 G Z Z Z Z Z J a7V) ?_
 refine a2P Z Z Z ?_
 first | refine s1 Z Z (d8 G Z Z Z Z (X0 J) Z) ?_ | refine s1 Z Z (d8 G Z Z Z Z (a0b J J) Z) ?_ | refine s1 Z Z (d8 G Z Z Z Z (a0W J J) Z) ?_
 exact kk.o):p:=h ⟨k⟩
theorem a2r {p q:Prop} (k:q) (h:Hd q→p:=by
 intro kk
 refine vm3 ?_
 refine vm5 ?_
 refine A3 2 Z Z Z Z Z Z Z ?_
 exact kk.o):p:=h ⟨k⟩
theorem J1 {p q:Prop} (k:q) (h:Hd q→p:=by
 intro kk
 refine C3 a8 ?_
 refine znk ?_
 exact kk.o):p:=h ⟨k⟩
theorem b7b {p q:Prop} (k:q) (h:Hd q→p:=by
 intro kk
 refine vm5 ?_
 refine b5 Z Z (G5 Z Z Z b50) ?_
 exact kk.o):p:=h ⟨k⟩
theorem c7x {p q:Prop} (k:q) (h:Hd q→p:=by
 intro kk
 refine zsa 1 ?_
 refine zsa 2 ?_
 first | refine d5 3 Z a8 a8 Z Z Z Z (E8 G Z Z Z Z Z J J J) ?_ | refine d5 3 Z a8 a8 Z Z Z Z (E8 G Z Z Z Z Z J a4x a4x) ?_
 refine zsa 5 ?_
 refine zsa 8 ?_
 refine zsa 9 ?_
 first | refine d5 10 Z a8 a8 Z Z Z Z (E8 G Z Z Z Z Z J J J) ?_ | refine d5 10 Z a8 a8 Z Z Z Z (E8 G Z Z Z Z Z J a4x a4x) ?_
 exact kk.o):p:=h ⟨k⟩
theorem c7y {p q:Prop} (k:q) (h:Hd q→p:=by
 intro kk
 refine zgo ?_
 refine vm5 ?_
 first | refine b5 Z Z (b9 G Z Z Z Z Z J J) ?_ | refine b5 Z Z (b9 G Z Z Z Z Z J B1) ?_
 refine vm5 ?_
 first | refine l2 G Z Z Z Z Z (a14 J) Z Z Z Z Z (Nat.le_of_ble_eq_true Z) Z ?_ | refine l2 G Z Z Z Z Z (V5 J J) Z Z Z Z Z (Nat.le_of_ble_eq_true Z) Z ?_ | refine l2 G Z Z Z Z Z (x9 J J) Z Z Z Z Z (Nat.le_of_ble_eq_true Z) Z ?_ | refine l2 G Z Z Z Z Z (x9 J B1) Z Z Z Z Z (Nat.le_of_ble_eq_true Z) Z ?_
 exact kk.o):p:=h ⟨k⟩
theorem b33 {p q:Prop} (k:q) (h:Hd q→p:=by
 intro kk
 refine vm5 ?_
 refine b5 Z Z (P6 G Z Z Z Z) ?_
 refine vm5 ?_
 refine b5 Z Z (D9 G Z Z Z Z) ?_
 exact kk.o):p:=h ⟨k⟩
theorem b9v {p q:Prop} (k:q) (h:Hd q→p:=by
 intro kk
 refine b8 ?_
 refine vm5 ?_
 refine b5 Z Z (m9 G Z Z Z Z) ?_
 refine vm5 ?_
 refine b5 Z Z (a5S (o7 G Z Z Z Z Z Z Z)) ?_
 refine vm5 ?_
 refine b5 Z Z (c7 Z Z) ?_
 refine vm5 ?_
 exact kk.o):p:=h ⟨k⟩
theorem c7z {p q:Prop} (k:q) (h:Hd q→p:=by
 intro kk
 refine C4 (Gh.open (id:=0) (i:=i) (k:=1) 2 Z Z (Y2 a7W Z) Z Z) ?_
 refine b8 ?_
 iterate 2 refine zst ?_
 refine vm6 ?_
 refine c1i ?_
 refine w4 2 [1] Z Z Z (a8f (xs.getD i default).st (k+Y3 xs i+1) J J) Z (RowsIn.cons Z RowsIn.nil) Z Z Z ?_
 refine zgn ?_
 refine n9 ?_
 refine C4 (Gh.close (id:=0) (id':=1) (i:=i) (k:=1) Z Z (Y2 a7W Z) (λq h=>by cases h) Z) ?_
 refine C4 (Gh.open (id:=0) (i:=i) (k:=2) 3 Z Z (Y2 a7W Z) Z Z) ?_
 exact kk.o):p:=h ⟨k⟩
theorem c7A {p q:Prop} (k:q) (h:Hd q→p:=by
 intro kk
 refine c1g ?_
 first | refine p4 G Z Z Z Z Z (x9 J J) Z Z (.v Z (.own Z (.own Z (.own Z .nil)))) Z Z Z (Nat.le_of_ble_eq_true Z) (λq h=>by cases h) Z ?_ | refine p4 G Z Z Z Z Z (V5 J J) Z Z (.v Z (.own Z (.own Z (.own Z .nil)))) Z Z Z (Nat.le_of_ble_eq_true Z) (λq h=>by cases h) Z ?_ | refine p4 G Z Z Z Z Z (Y2 G0 Z) Z Z (.v Z (.own Z (.own Z (.own Z .nil)))) Z Z Z (Nat.le_of_ble_eq_true Z) (λq h=>by cases h) Z ?_
 exact kk.o):p:=h ⟨k⟩
theorem a47 {p q:Prop} (k:q) (h:Hd q→p:=by
 intro kk
 refine zgo ?_
 refine vm5 ?_
 refine b5 Z Z (o8 G Z Z Z) ?_
 exact kk.o):p:=h ⟨k⟩
theorem c7B {p q:Prop} (k:q) (h:Hd q→p:=by
 intro kk
 refine b8 ?_
 iterate 2 refine zst ?_
 refine vm6 ?_
 refine b5 Z Z (N7 G Z Z Z Z) ?_
 refine vm5 ?_
 refine c1i ?_
 refine w4 3 [2] Z Z Z (a7j (xs.getD i default).qu.sl (k+Y3 xs i+1+(xs.getD i default).st.length) J J) Z (RowsIn.cons Z RowsIn.nil) Z Z Z ?_
 refine zgn ?_
 refine C4 (Gh.close (id:=0) (id':=2) (i:=i) (k:=2) Z Z (Y2 a7W Z) (λq h=>by cases h) Z) ?_
 refine C4 (Gh.open (id:=0) (i:=i) (k:=3) 4 Z Z (Y2 a7W Z) Z Z) ?_
 exact kk.o):p:=h ⟨k⟩
theorem c5P {p q:Prop} (k:q) (h:Hd q→p:=by
 intro kk
 refine VStep.mk1 [0,1] 3 (.ptr 6 0) 6 (.box (avR [.slice none 0 0,.slice none 0 0,.slice none 0 0,.slice none 0 0] [])) [] Z Z Z Z Z (λb1 _ hbn=>m3 G Z Z Z Z Z Z Z Z Z Z Z (b6 Z)) a8 a8 a8 a8 ?_
 refine D1 ?_
 exact kk.o):p:=h ⟨k⟩
theorem b9w {p q:Prop} (k:q) (h:Hd q→p:=by
 intro kk
 refine zgo ?_
 refine vm5 ?_
 refine b5a (n:=xs.length) G 1 Z Z Z Z Z Z Z (by first | rfl | simp) (by first | rfl | simp) J J ?_
 refine zgo ?_
 exact kk.o):p:=h ⟨k⟩
theorem c5Q {p q:Prop} (k:q) (h:Hd q→p:=by
 intro kk
 refine a2P Z Z Z ?_
 first | refine s1 Z Z (E8 G Z Z Z Z Z J J J) ?_ | refine s1 Z Z (E8 G Z Z Z Z Z J a4x a4x) ?_
 exact kk.o):p:=h ⟨k⟩
theorem a0A {p q:Prop} (k:q) (h:Hd q→p:=by
 intro kk
 refine zsa 0 ?_
 refine zsa 1 ?_
 refine zsa 2 ?_
 refine zsa 3 ?_
 exact kk.o):p:=h ⟨k⟩
theorem a6x {p q:Prop} (k:q) (h:Hd q→p:=by
 intro kk
 refine zgo ?_
 refine vm5 ?_
 refine d6 G 1 Z Z Z Z Z ?_
 exact kk.o):p:=h ⟨k⟩
theorem U7 {p q:Prop} (k:q) (h:Hd q→p:=by
 intro kk
 refine b8 ?_
 refine zst ?_
 refine vm2 ?_
 refine zgn ?_
 exact kk.o):p:=h ⟨k⟩
theorem a1P {p q:Prop} (k:q) (h:Hd q→p:=by
 intro kk
 refine zgn ?_
 refine f6 ?_
 refine D0 Z ?_
 refine l4 ?_
 exact kk.o):p:=h ⟨k⟩
theorem c1j {p q:Prop} (k:q) (h:Hd q→p:=by
 intro kk
 refine vm4 ?_
 refine n9 ?_
 refine a45 ?_
 first | refine b5 Z Z (T5 G Z Z Z Z (by rw [List.length_map,b6x])) ?_ | refine b5 Z Z (a1j G Z Z Z Z) ?_
 refine zgn ?_
 exact kk.o):p:=h ⟨k⟩
theorem c5R {p q:Prop} (k:q) (h:Hd q→p:=by
 intro kk
 refine vm5 ?_
 first | refine b5 Z Z (b3t G Z Z Z Z (b7N J J)) ?_ | refine b5 Z Z (b3t G Z Z Z Z (c0n J J)) ?_ | refine b5 Z Z (a84 G Z Z Z Z) ?_
 exact kk.o):p:=h ⟨k⟩
theorem c7C {p q:Prop} (k:q) (h:Hd q→p:=by
 intro kk
 refine VStep.mk1 [0] 29 (.own 1) 1 (.row 182 2 []) [] Z Z Z Z Z (λb1 _ hbn=>j3 G O9 Z Z Z Z Z Z Z Z Z a4v Z Z (b6 Z)) a8 a8 a8 a8 ?_
 refine D1 ?_
 exact kk.o):p:=h ⟨k⟩
theorem c1k {p q:Prop} (k:q) (h:Hd q→p:=by
 intro kk
 first | refine s1 Z Z (v7 Z Z Z Z J J) ?_ | refine s1 Z Z (A2 Z Z Z Z) ?_
 iterate 2 refine zst ?_
 exact kk.o):p:=h ⟨k⟩
theorem c7D {p q:Prop} (k:q) (h:Hd q→p:=by
 intro kk
 refine VStep.mk1 [] 33 (.own 0) 0 (.row 3 1 []) [] Z Z Z Z Z (λb1 _ hbn=>j3 G O9 Z Z Z Z Z Z Z Z Z a4v Z Z (b6 Z)) a8 a8 a8 a8 ?_
 refine D1 ?_
 exact kk.o):p:=h ⟨k⟩
theorem c7E {p q:Prop} (k:q) (h:Hd q→p:=by
 intro kk
 refine vm5 ?_
 refine w4 5 [0] Z Z Z (a4e m.rs k J J) Z (RowsIn.cons Z RowsIn.nil) Z Z Z ?_
 refine zgn ?_
 refine a2G ?_
 refine vm5 ?_
 refine w4 5 [1] Z Z Z (a1Q m.en (k+2 * m.rs.length) J J) Z (RowsIn.cons Z RowsIn.nil) Z Z Z ?_
 refine zgn ?_
 refine a2G ?_
 refine vm5 ?_
 refine w4 5 [2] Z Z Z (a1Q m.ra (k+2 * m.rs.length+m.en.length) J J) Z (RowsIn.cons Z RowsIn.nil) Z Z Z ?_
 exact kk.o):p:=h ⟨k⟩
theorem b0y {p q:Prop} (k:q) (h:Hd q→p:=by
 intro kk
 refine b8 ?_
 refine vm5 ?_
 refine A3 1 Z Z Z Z Z Z Z ?_
 exact kk.o):p:=h ⟨k⟩
theorem a7k {p q:Prop} (k:q) (h:Hd q→p:=by
 intro kk
 refine vm5 ?_
 refine d6 G 3 Z Z Z Z Z ?_
 exact kk.o):p:=h ⟨k⟩
theorem c5S {p q:Prop} (k:q) (h:Hd q→p:=by
 intro kk
 refine b8 ?_
 refine vm5 ?_
 refine b5 Z Z (c7 Z Z) ?_
 refine vm5 ?_
 refine b5 Z Z (m9 G Z Z Z Z) ?_
 refine vm5 ?_
 refine b5 Z Z (o7 G Z Z Z Z Z Z Z) ?_
 refine vm5 ?_
 refine b5 Z Z (w6 G Z Z Z Z) ?_
 refine vm5 ?_
 exact kk.o):p:=h ⟨k⟩
theorem c5T {p q:Prop} (k:q) (h:Hd q→p:=by
 intro kk
 refine b5 Z Z (c7 Z Z) ?_
 refine vm5 ?_
 refine b5 Z Z (j7 Z Z Z) ?_
 refine vm5 ?_
 refine b5 Z Z (j7 Z Z Z) ?_
 refine vm5 ?_
 refine b5 Z Z (c6 Z Z) ?_
 refine vm5 ?_
 refine b5 Z Z (c6 Z Z) ?_
 refine b6 ?_
 exact kk.o):p:=h ⟨k⟩
theorem b34 {p q:Prop} (k:q) (h:Hd q→p:=by
 intro kk
 refine zgo ?_
 refine vm5 ?_
 refine t7 G 1 Z Z Z Z Z Z Z Z ?_
 refine zgo ?_
 exact kk.o):p:=h ⟨k⟩
theorem b7c {p q:Prop} (k:q) (h:Hd q→p:=by exact λkk=>b5 Z Z (N9 G Z Z Z Z J J) kk.o):p:=h ⟨k⟩
theorem c5U {p q:Prop} (k:q) (h:Hd q→p:=by
 intro kk
 refine zgn ?_
 refine C4 (Gh.close (id:=6) (id':=9) (i:=(tgM m i)) (k:=1) Z Z (Y2 G0 Z) (λq h=>by cases h) Z) ?_
 refine zgo ?_
 exact kk.o):p:=h ⟨k⟩
theorem c5V {p q:Prop} (k:q) (h:Hd q→p:=by
 intro kk
 refine vm4 ?_
 refine n9 ?_
 refine a45 ?_
 first | refine b5 Z Z (T5 G Z Z Z Z (by rw [List.length_map,W9])) ?_ | refine b5 Z Z (a1j G Z Z Z Z) ?_
 refine zgn ?_
 exact kk.o):p:=h ⟨k⟩
theorem c5W {p q:Prop} (k:q) (h:Hd q→p:=by exact λkk=>b5 Z Z (a6Q G Z Z Z Z Z Z J b53 b53) kk.o):p:=h ⟨k⟩
theorem p8 {p q:Prop} (k:q) (h:Hd q→p:=by
 intro kk
 refine zgo ?_
 refine vm5 ?_
 exact kk.o):p:=h ⟨k⟩
theorem c7F {p q:Prop} (k:q) (h:Hd q→p:=by
 intro kk
 refine VStep.mk1 [0,1,2,3,4] 6 (.ptr 5 0) 5 (.box (avR [.int .i64 0,.slice none 0 0,.slice none 0 0,.slice none 0 0] [])) [] Z Z Z Z Z (λb1 _ hbn=>m3 G Z Z Z Z Z Z Z Z Z Z Z (b6 Z)) a8 a8 a8 a8 ?_
 refine D1 ?_
 exact kk.o):p:=h ⟨k⟩
theorem b9x {p q:Prop} (k:q) (h:Hd q→p:=by exact λkk=>b5 Z Z (a7C G Z Z Z Z J (b6y J)) kk.o):p:=h ⟨k⟩
theorem c7G {p q:Prop} (k:q) (h:Hd q→p:=by
 intro kk
 refine VStep.mk1 [0] 21 (.own 1) 1 (.row 182 2 []) [] Z Z Z Z Z (λb1 _ hbn=>j3 G O9 Z Z Z Z Z Z Z Z Z B1 Z Z (b6 Z)) a8 a8 a8 a8 ?_
 refine D1 ?_
 exact kk.o):p:=h ⟨k⟩
theorem a3v {p q:Prop} (k:q) (h:Hd q→p:=by
 intro kk
 iterate 2 refine zst ?_
 exact kk.o):p:=h ⟨k⟩
theorem c7H {p q:Prop} (k:q) (h:Hd q→p:=by
 intro kk
 refine VStep.mk1 [0,1] 5 (.ptr 2 0) 2 (.box (avR [.slice none 0 0,.slice none 0 0] [])) [] Z Z Z Z Z (λb1 _ hbn=>m3 G Z Z Z Z Z Z Z Z Z Z Z (b6 Z)) a8 a8 a8 a8 ?_
 refine D1 ?_
 exact kk.o):p:=h ⟨k⟩
theorem c7I {p q:Prop} (k:q) (h:Hd q→p:=by
 intro kk
 refine VStep.mk1 [0,1] 4 (.ptr 2 0) 2 (.box (avR [.slice none 0 0,.slice none 0 0] [])) [] Z Z Z Z Z (λb1 _ hbn=>m3 G Z Z Z Z Z Z Z Z Z Z Z (b6 Z)) a8 a8 a8 a8 ?_
 refine D1 ?_
 exact kk.o):p:=h ⟨k⟩
theorem c5X {p q:Prop} (k:q) (h:Hd q→p:=by
 intro kk
 first | refine b5 Z Z (a6K Z Z Z J J) ?_ | refine b5 Z Z (b47 Z Z Z J) ?_
 exact kk.o):p:=h ⟨k⟩
theorem a0I {p q:Prop} (k:q) (h:Hd q→p:=by exact λkk=>p5 Z Z Z kk.o):p:=h ⟨k⟩
theorem c7J {p q:Prop} (k:q) (h:Hd q→p:=by
 intro kk
 refine vm7 ?_
 first | refine l2 G Z Z Z Z Z (a14 J) Z Z Z Z Z (Nat.le_of_ble_eq_true Z) Z ?_ | refine l2 G Z Z Z Z Z (x9 J J) Z Z Z Z Z (Nat.le_of_ble_eq_true Z) Z ?_
 refine zgn ?_
 exact kk.o):p:=h ⟨k⟩
theorem c7K {p q:Prop} (k:q) (h:Hd q→p:=by
 intro kk
 refine zsa 0 ?_
 refine zsa 1 ?_
 refine zsa 2 ?_
 first | refine d5 3 Z a8 a8 Z Z Z Z (v7 Z Z Z Z J J) ?_ | refine d5 3 Z a8 a8 Z Z Z Z (A2 Z Z Z Z) ?_
 refine zsa 5 ?_
 refine zsa 6 ?_
 exact kk.o):p:=h ⟨k⟩
theorem c1l {p q:Prop} (k:q) (h:Hd q→p:=by
 intro kk
 refine a45 ?_
 refine b5 Z Z (A6 G Z Z Z Z J (b6U J) Z) ?_
 exact kk.o):p:=h ⟨k⟩
theorem c7L {p q:Prop} (k:q) (h:Hd q→p:=by
 intro kk
 refine zgn ?_
 refine n9 ?_
 refine b8 ?_
 refine zst ?_
 refine vm5 ?_
 first | refine b5 Z Z (T5 G Z Z Z Z (show List.length [_]=1 from rfl)) ?_ | refine b5 Z Z (T5 G Z Z Z Z (List.length_map _)) ?_ | refine b5 Z Z (a1j G Z Z Z Z) ?_
 refine zgn ?_
 refine zgn ?_
 exact kk.o):p:=h ⟨k⟩
theorem c1m {p q:Prop} (k:q) (h:Hd q→p:=by
 intro kk
 refine p8 ?_
 refine b5 Z Z (I2 G Z Z Z Z Z J J J) ?_
 exact kk.o):p:=h ⟨k⟩
theorem a2H {p q:Prop} (k:q) (h:Hd q→p:=by
 intro kk
 refine zgn ?_
 refine n9 ?_
 refine r4 ?_
 exact kk.o):p:=h ⟨k⟩
theorem b41 {p q:Prop} (k:q) (h:Hd q→p:=by exact λkk=>b5 Z Z (P6 G Z Z Z Z) kk.o):p:=h ⟨k⟩
theorem c7M {p q:Prop} (k:q) (h:Hd q→p:=by
 intro kk
 refine a0A ?_
 refine zsa 4 ?_
 first | refine d5 5 Z a8 a8 Z Z Z Z (v7 Z Z Z Z J J) ?_ | refine d5 5 Z a8 a8 Z Z Z Z (A2 Z Z Z Z) ?_
 exact kk.o):p:=h ⟨k⟩
theorem b42 {p q:Prop} (k:q) (h:Hd q→p:=by exact λkk=>t7 G 2 Z Z Z Z Z Z Z Z kk.o):p:=h ⟨k⟩
theorem c1n {p q:Prop} (k:q) (h:Hd q→p:=by exact λkk=>j3 G np Z Z Z Z Z Z Z Z Z B1 Z Z kk.o):p:=h ⟨k⟩
theorem c1o {p q:Prop} (k:q) (h:Hd q→p:=by
 intro kk
 refine n9 ?_
 refine b8 ?_
 refine vm5 ?_
 refine A3 5 Z Z Z Z Z Z Z ?_
 refine zgn ?_
 refine a2G ?_
 exact kk.o):p:=h ⟨k⟩
theorem b35 {p q:Prop} (k:q) (h:Hd q→p:=by
 intro kk
 refine g9 [0,2,3,4] Z Z ?_
 refine U6 ?_
 exact kk.o):p:=h ⟨k⟩
theorem c7N {p q:Prop} (k:q) (h:Hd q→p:=by
 intro kk
 first | refine b5 Z Z (j2 G Z Z Z Z Z (a14 J) Z) ?_ | refine b5 Z Z (j2 G Z Z Z Z Z (x9 J J) Z) ?_
 exact kk.o):p:=h ⟨k⟩
theorem b43 {p q:Prop} (k:q) (h:Hd q→p:=by exact λkk=>d6 G 8 Z Z Z Z Z kk.o):p:=h ⟨k⟩
theorem c1p {p q:Prop} (k:q) (h:Hd q→p:=by
 intro kk
 refine vm5 ?_
 refine m3 G Z Z Z Z Z Z Z Z Z Z Z ?_
 exact kk.o):p:=h ⟨k⟩
theorem c5Y {p q:Prop} (k:q) (h:Hd q→p:=by exact λkk=>b5 Z Z (j2 G Z Z Z Z Z (x9 J B1) Z) kk.o):p:=h ⟨k⟩
theorem c5Z {p q:Prop} (k:q) (h:Hd q→p:=by
 intro kk
 refine a3c (Gh.nest (id:=5) (yss:=[]) Z Z (by intro _ _ _ h;simp at h)) ?_
 refine J1 ?_
 refine zgo ?_
 exact kk.o):p:=h ⟨k⟩
theorem b9y {p q:Prop} (k:q) (h:Hd q→p:=by exact λkk=>b5 Z Z (N7 G Z Z Z Z) kk.o):p:=h ⟨k⟩
theorem b2K {p q:Prop} (k:q) (h:Hd q→p:=by
 intro kk
 refine g9 [0] Z Z ?_
 refine U6 ?_
 exact kk.o):p:=h ⟨k⟩
theorem c7O {p q:Prop} (k:q) (h:Hd q→p:=by
 intro kk
 refine p8 ?_
 refine b7c ?_
 refine vm5 ?_
 first | refine b5 Z Z (b03 G Z Z Z Z J J) ?_ | refine b5 Z Z (a84 G Z Z Z Z) ?_
 exact kk.o):p:=h ⟨k⟩
theorem b2L {p q:Prop} (k:q) (h:Hd q→p:=by exact λkk=>zcl (X7 _ _ _) kk.o):p:=h ⟨k⟩
theorem b0z {p q:Prop} (k:q) (h:Hd q→p:=by
 intro kk
 refine zsa 4 ?_
 refine zsa 5 ?_
 refine zsa 6 ?_
 exact kk.o):p:=h ⟨k⟩
theorem C8 {p q:Prop} (k:q) (h:Hd q→p:=by
 intro kk
 refine zgn ?_
 refine zgn ?_
 exact kk.o):p:=h ⟨k⟩
theorem b36 {p q:Prop} (k:q) (h:Hd q→p:=by
 intro kk
 iterate 3 refine zst ?_
 exact kk.o):p:=h ⟨k⟩
theorem N3 {p q:Prop} (k:q) (h:Hd q→p:=by
 intro kk
 refine vm3 ?_
 refine b0x ?_
 exact kk.o):p:=h ⟨k⟩
theorem b9z {p q:Prop} (k:q) (h:Hd q→p:=by
 intro kk
 refine n9 ?_
 refine a5o mixed a8 ?_
 exact kk.o):p:=h ⟨k⟩
theorem c1q {p q:Prop} (k:q) (h:Hd q→p:=by
 intro kk
 refine vm5 ?_
 refine b5 Z Z (c6 Z Z) ?_
 refine b6 ?_
 exact kk.o):p:=h ⟨k⟩
theorem c1r {p q:Prop} (k:q) (h:Hd q→p:=by exact λkk=>t7 G 3 Z Z Z Z Z Z Z Z kk.o):p:=h ⟨k⟩
theorem b0A {p q:Prop} (k:q) (h:Hd q→p:=by exact λkk=>a2P Z Z Z kk.o):p:=h ⟨k⟩
end Go.Rf
