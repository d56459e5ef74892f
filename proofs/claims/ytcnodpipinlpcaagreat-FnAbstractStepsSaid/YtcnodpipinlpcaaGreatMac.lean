/- Names for what is said again and again in walks. -/
import Derived.Test.YtcnodpipinlpcaaGreatLibE
set_option linter.unusedSimpArgs false
set_option linter.unusedVariables false
namespace Go.Rf
theorem a0P {p:Prop} (h:p:=by (first | rfl | (simp [f8, *];done) | (simp [f8, *];rfl) | (simp [f8, *,m6,r6];done))):p:=h
theorem a5J {p:Prop} (h:p:=by (first | (exact congrArg Value.bool (b20 (q:=⟨sl,wa⟩) (i:=i) (b1J (fun g=>by dsimp only at g;first | exact I2 d8 g.1 | exact I2 d8 g.2.1 | (have:=g.2.2.1;omega) | (have h9:=b2U.mp (show 0≤S4 (fun j=>decide ((wa.getD j default).q=(wa.getD i default).q)) i by omega);obtain ⟨j,hj,e⟩:=a5c.mp h9;exact g.2.2.2.1 j hj (of_decide_eq_true e)) | (rcases g.2.2.2.2 with g1 | g1<;>first | (exfalso;omega) | (rw [← ht (by omega)] at g1;first | (have:=a4z.mpr g1;omega) | (simp_all;done))) | exact g.2.2.2.1 _ (by omega) d8)) (show i < wa.length by omega)).symm) | (exact congrArg Value.bool (b2Z (q:=⟨sl,wa⟩) d8).symm) | (exact congrArg Value.bool (b0z d8 hinv.2 (by omega) (by omega))))):p:=h
theorem a7I {p:Prop} (h:p:=by (first | (exact congrArg Value.bool (b0y hinv.2 (by omega))) | (rw [b0v (by omega)];done) | (exact congrArg Value.bool (b0u (i:=i) (b0x (fun g=>by first | exact I2 d8 g.1 | exact I2 d8 g.2.1 | exact I2 d8 g.2.2)) (by omega)).symm) | (exact congrArg Value.bool (b0u (i:=i) (by first | exact b1E (by omega) (by omega) | exact b1F (by omega) (by omega) (by omega)) (by omega)).symm))):p:=h
theorem a7J {p:Prop} (h:p:=by (first | (rw [hM];done) | (rw [hM];(first | rfl | exact List.map_set.symm | exact Y2 rfl (a2V (ftn (by omega))) | exact b0p rfl (a2V (ftn (by omega))) | exact Y2 rfl (by rw [List.map_append];rfl) | (rw [ftn (by omega)];done) | (simp only [s1];done))))):p:=h
theorem a9P {p:Prop} (h:p:=by (first | (rw [b1A (i:=i) (by omega) (by simp only [a74];try rw [← ftn];omega)];done) | (rw [b1B (i:=i) (by omega) (by simp only [a74];try rw [← ftn];omega)];done))):p:=h
theorem a9Q {p:Prop} (h:p:=by (first | (rw [hS];done) | (rw [hS];(first | rfl | exact List.map_set.symm | exact b4r rfl | (simp only [List.set_set,Int.toNat_natCast];exact b4r rfl) | exact congrArg Value.bool (decide_eq_true (by omega)))))):p:=h
theorem a9R {p:Prop} (h:p:=by (first | (exact congrArg Value.bool (b3m h1).symm) | (exact congrArg Value.bool (b3n h2).symm) | (exact congrArg Value.bool (a8n (b1V (i:=i) (by omega) (fun g=>a4H.mp h4 ((a25 4).mpr g)))).symm) | (obtain ⟨k,hk,e⟩:=(a1p (by omega)).mp (a5m.mp h5);(exact congrArg Value.bool (a8n (b0Y hSl hk (by omega) e)).symm)) | (exact congrArg Value.bool (a8n (b29 (i:=i) (b4o (by omega) (by rw [← hti (by omega)];omega)) (by omega))).symm) | (have e:i=x.st.length:=(by omega);subst e;rw [b3o h1 h2,hinv.2.fin hSl,b5c,a26];done))):p:=h
theorem a9S {p:Prop} (h:p:=by (first | (exact congrArg Value.bool (b3f hi.2 (by omega) hj.2 (by omega)).symm) | (exact congrArg Value.bool (b3d (i:=i) (b3c.mpr (fun g=>by first | exact g.1 d8 | (rcases g.2 with g2 | ⟨g2,g3⟩<;>first | (exact absurd g2 d8) | (exact absurd g3 d8)))) (by omega)).symm) | (exact congrArg Value.bool (b3e (i:=j) (b3b.mpr (fun g=>by first | exact absurd g.1 d8 | exact absurd g.2 d8)) (by omega)).symm))):p:=h
theorem a9T {p:Prop} (h:p:=by (first | (exact congrArg Value.bool (b3g d8).symm) | (exact congrArg Value.bool (b3h (by omega)).symm) | (exact congrArg Value.bool (b0Z (k:=k) (b3j d8) (by omega)).symm) | (exact congrArg Value.bool (b0Z (k:=k) (b3k d8) (by omega)).symm) | (exact congrArg Value.bool (b3i h1 (by omega) (by omega) hk.2 (by omega)).symm))):p:=h
theorem a9U {p:Prop} (h:p:=by (first | (rw [hM];done) | (rw [hM];(first | rfl | (have e8:i=8:=(by omega);subst e8;rfl) | exact List.map_set.symm | exact Y2 rfl (a2V (ftn (by omega))) | exact b0p rfl (a2V (ftn (by omega))) | exact Y2 rfl (by rw [List.map_append];rfl) | (rw [ftn (by omega)];done) | (simp only [s1];done))))):p:=h
theorem b1l {p:Prop} (h:p:=by ((first | rfl | (simp_all;done) | (simp_all;omega)))):p:=h
theorem b17 {p:Prop} (h:p:=by (first | rfl | (simp_all [u4];done) | (simp_all [u4];omega))):p:=h
theorem b18 {p:Prop} (h:p:=by (first | (have e:I0 rs.length (fun i=>a45 c (rs.getD i default))=false:=L9 (i:=i) (by simp_all [a45]) (by omega);simp only [okRts,e,Bool.and_false];done) | (have e:I0 rs.length (fun i=>a45 c (rs.getD i default))=true:=P6 hinv.2 (by omega);first | (simp only [okRts,e,h4,b5a,Bool.and_true,Bool.true_and,Bool.false_and];done)))):p:=h
theorem b19 {p:Prop} (h:p:=by (first | (rw [a5g (by omega)];done) | (rw [a8a (by omega) (by omega)];done) | (rw [a8b (by omega) (by omega)];done) | (rw [a6C (by omega) (by omega) (by omega)];first | rfl | (exact congrArg Value.bool (by rw [Bool.eq_iff_iff,decide_eq_true_iff];exact b1D))) | rfl)):p:=h
theorem b2a {p:Prop} (h:p:=by ((rw [b1T hk.2 hk.1 (by first | exact .inl (by omega) | exact .inr ⟨by omega,by omega⟩),a2K,a5f];simp [Rf.r5];done))):p:=h
theorem b3V {p:Prop} (h:p:=by (first | rfl | (simp only [okRts,h1,Bool.true_and,Bool.false_and];done) | (have e8:rs.length=8:=Int.ofNat_inj.mp h2;simp only [okRts,h1,e8,decide_true,Bool.true_and,a0F,Bool.not_not];done) | (simp only [okRts,h1,show ¬ rs.length=8 from (fun h=>h2 (by rw [h];rfl)),decide_false,Bool.false_and,Bool.and_false];done))):p:=h
theorem b3W {p:Prop} (h:p:=by (first | (rw [a6A (by omega)];done) | (rw [b1z (by omega) (show i=8 by omega)];done))):p:=h
theorem b3X {p:Prop} (h:p:=by (first | rfl | (unfold a0J;rw [ho];done) | (unfold a0J;rw [ho];rfl))):p:=h
theorem b4J {p:Prop} (h:p:=by (first | (rw [J2 (i:=i) hinv.2 (by omega) d8];done) | (rw [Q8 hinv.2 (by omega)];done))):p:=h
theorem b4K {p:Prop} (h:p:=by (first | (rw [o9,J2 (i:=i) hinv.2 (by omega) (by simp_all [fdP])];done) | (rw [o9,Q8 hinv.2 (by omega)];done))):p:=h
theorem b4L {p:Prop} (h:p:=by (first | (rw [freS,J2 (i:=i) hinv.2 (by omega) (by simp_all [emP])];done) | (rw [freS,Q8 hinv.2 (by omega)];done))):p:=h
theorem b4M {p:Prop} (h:p:=by (first | (rw [inW,J2 (i:=i) hinv.2 (by omega) (decide_eq_true d8)];done) | (rw [inW,Q8 hinv.2 (by omega)];done))):p:=h
theorem b4N {p:Prop} (h:p:=by (first | rfl | (simp only [a7s,h1,Bool.true_and,Bool.false_and];done) | (simp only [a7s, *,Bool.true_and,Bool.false_and];done))):p:=h
theorem b4O {p:Prop} (h:p:=by (first | (rw [a8R hinv.2 hinv.1 (by first | exact .inl (by omega) | exact .inr ⟨by omega,by first | assumption | (rw [← Bool.not_eq_true,← a4z];omega)⟩),a2K,a5f];simp [s6];done))):p:=h
theorem b4P {p:Prop} (h:p:=by (first | rfl | (rw [a1Z d8];done) | (rw [a1Z d8];rfl) | (rw [a1n d8];done) | (rw [a1n d8];rfl))):p:=h
theorem b4Q {p:Prop} (h:p:=by (first | (rw [b22 (by omega)];done) | (rw [b0D (by omega),htn];done) | (rw [b0D (by omega),← htn];done))):p:=h
theorem b4R {p:Prop} (h:p:=by (first | rfl | (rw [a9a (by omega)];done) | (rw [a9a (by omega)];rfl) | (rw [b01 (by omega)];done) | (rw [b01 (by omega)];rfl) | (rw [b02 h0 (by omega)];done) | (rw [b02 h0 (by omega)];rfl))):p:=h
theorem b4S {p:Prop} (h:p:=by (first | (rw [J2 (i:=i) hinv.2 (by omega) b2b];done) | (rw [Q8 hinv.2 (by omega)];done))):p:=h
theorem b4T {p:Prop} (h:p:=by (simp only [a2U];first | (rw [a6r (i:=i) b2b (by omega)];done) | (rw [a70 hinv.2 (by omega)];done))):p:=h
theorem b4U {p:Prop} (h:p:=by (first | (rw [a5j (.inr ⟨i,by omega,by assumption⟩)];done) | (have e:I0 ss.length (fun i=>f8 n (ss.getD i default))=true:=P6 hinv.2 (by omega);simp only [V7,e,Bool.and_true];congr 2;simp;omega) | (have e:I0 ss.length (fun i=>f8 n (ss.getD i default))=true:=P6 hinv.2 (by omega);simp only [V7,e,Bool.and_true];simp))):p:=h
theorem b5 {p:Prop} (h:p:=by kernel_rfl):p:=h
theorem R2 {p:Prop} (h:p:=by first | (simp;omega) | (simp only [a2K,a5f,List.length_append,List.length_map,List.length_take,List.length_drop,List.length_cons,List.length_nil];omega)):p:=h
theorem d8 {p:Prop} (h:p:=by assumption):p:=h
theorem J8 {p:Prop} (h:p:=by first | exact b2Q d8 | exact b2R d8 | exact b2S d8):p:=h
theorem Z3 {p:Prop} (h:p:=by first | (simp only [List.length_map,List.length_cons,List.length_nil];omega) | (simp;omega)):p:=h
theorem E8 {p:Prop} (h:p:=by exact Nat.le_of_ble_eq_true rfl):p:=h
theorem u5 {p:Prop} (h:p:=by simp;omega):p:=h
theorem a0Q {p:Prop} (h:p:=by rw [hbn];exact Nat.le_of_ble_eq_true rfl):p:=h
theorem a9V {p:Prop} (h:p:=by first | exact List.Mem.head _ | exact List.Mem.tail _ (List.Mem.head _) | exact List.Mem.tail _ (List.Mem.tail _ (List.Mem.head _)) | simp):p:=h
theorem a3N {p:Prop} (h:p:=by simp only [List.length_set,List.length_map];omega):p:=h
theorem I5 {p:Prop} (h:p:=by simp_all;omega):p:=h
theorem I6 {p:Prop} (h:p:=by simp_all;done):p:=h
theorem J9 {p:Prop} (h:p:=by simp_all [wOf]):p:=h
theorem b2b {p:Prop} (h:p:=by first | exact decide_eq_true d8 | exact decide_eq_true (Eq.symm d8) | exact decide_eq_false d8 | exact decide_eq_false (Ne.symm d8)):p:=h
theorem a7K {p:Prop} (h:p:=by simp only [tgM,List.set_set];rw [List.map_set];rfl):p:=h
theorem a7L {p:Prop} (h:p:=by first | (simp;done) | (simp;omega)):p:=h
theorem a9W {p:Prop} (h:p:=by first | omega | (simp;done) | (simp;omega)):p:=h
theorem a3h {p:Prop} (h:p:=by rw [List.nil_append,b4m]):p:=h
theorem a6f {p:Prop} (h:p:=by first | exact List.Mem.head _ | simp):p:=h
theorem b2B {p:Prop} (h:p:=by first | exact ArgsOK.of rfl | exact ArgsOK.of (congrArg some (congrArg (fun z=>[AV.lst 1 z,.v (.int .i64 (x.st.getD i default))]) (a2K (xs:=x.st) (i:=i))))):p:=h
theorem a6g {p:Prop} (h:p:=by rw [List.length_map];omega):p:=h
theorem b2C {p:Prop} (h:p:=by first | exact .inl (by omega) | (right;rw [← ht (by omega)];first | exact a4z.mp (by omega) | assumption)):p:=h
theorem b2D {p:Prop} (h:p:=by first | exact b2o (by rw [← hti (by omega)];omega) | (obtain rfl:i=0:=(by omega);exact b2n)):p:=h
theorem a9l {p:Prop} (h:p:=by rw [a3K,List.map_set];rfl):p:=h
theorem a7M {p:Prop} (h:p:=by rw [U1];omega):p:=h
theorem a7N {p:Prop} (h:p:=by rw [N2];omega):p:=h
theorem vm1 {p q:Prop} (k:q) (h:Hd q→p:=by
 intro kk
 refine zsa 1 ?_
 refine zsa 2 ?_
 first | refine b9 3 rfl b5 b5 rfl rfl rfl rfl (N0 G rfl rfl rfl rfl rfl (by omega) (by omega) (by omega)) ?_ | refine b9 3 rfl b5 b5 rfl rfl rfl rfl (N0 G rfl rfl rfl rfl rfl (by omega) a7L a7L) ?_
 refine zsa 5 ?_
 refine zsa 8 ?_
 refine zsa 9 ?_
 first | refine b9 10 rfl b5 b5 rfl rfl rfl rfl (N0 G rfl rfl rfl rfl rfl (by omega) (by omega) (by omega)) ?_ | refine b9 10 rfl b5 b5 rfl rfl rfl rfl (N0 G rfl rfl rfl rfl rfl (by omega) a7L a7L) ?_
 exact kk.o):p:=h ⟨k⟩
theorem vm2 {p q:Prop} (k:q) (h:Hd q→p:=by
 intro kk
 refine VStep.mk1 [] 33 (.own 0) 0 (.row 3 1 []) [] rfl rfl rfl rfl rfl (fun b1 _ hbn=>f7 G a0Q rfl rfl rfl rfl rfl rfl rfl rfl rfl R2 rfl rfl (a4 rfl)) b5 b5 b5 b5 ?_
 refine F8 ?_
 exact kk.o):p:=h ⟨k⟩
theorem vm3 {p q:Prop} (k:q) (h:Hd q→p:=by
 intro kk
 refine zgo ?_
 refine a1 rfl ?_
 first | refine a3 rfl rfl (d5 G rfl rfl rfl rfl rfl (by omega) a6g) ?_ | refine a3 rfl rfl (d5 G rfl rfl rfl rfl rfl (by omega) a3N) ?_ | refine a3 rfl rfl (d5 G rfl rfl rfl rfl rfl (by omega) (by omega)) ?_
 refine a1 rfl ?_
 first | refine i9 G rfl rfl rfl rfl rfl (C3 (by omega) (by omega)) rfl rfl (.v rfl (.own rfl (.own rfl (.own rfl .nil)))) rfl rfl rfl (Nat.le_of_ble_eq_true rfl) (fun q h=>by cases h) rfl ?_ | refine i9 G rfl rfl rfl rfl rfl (t8 (by omega) (by omega)) rfl rfl (.v rfl (.own rfl (.own rfl (.own rfl .nil)))) rfl rfl rfl (Nat.le_of_ble_eq_true rfl) (fun q h=>by cases h) rfl ?_ | refine i9 G rfl rfl rfl rfl rfl (B3 a3N rfl) rfl rfl (.v rfl (.own rfl (.own rfl (.own rfl .nil)))) rfl rfl rfl (Nat.le_of_ble_eq_true rfl) (fun q h=>by cases h) rfl ?_
 exact kk.o):p:=h ⟨k⟩
theorem vm4 {p q:Prop} (k:q) (h:Hd q→p:=by
 intro kk
 refine a1 rfl ?_
 first | refine a3 rfl rfl (k8 G rfl rfl rfl rfl rfl (by omega) u5) ?_ | refine a3 rfl rfl (k8 G rfl rfl rfl rfl rfl (by omega) (by omega)) ?_
 refine a1 rfl ?_
 exact kk.o):p:=h ⟨k⟩
theorem vm5 {p q:Prop} (k:q) (h:Hd q→p:=by
 intro kk
 refine vm4 ?_
 first | refine i6 G rfl rfl rfl rfl rfl (C3 (by omega) a7M) rfl rfl rfl rfl rfl (Nat.le_of_ble_eq_true rfl) rfl ?_ | refine i6 G rfl rfl rfl rfl rfl (C3 (by omega) a7N) rfl rfl rfl rfl rfl (Nat.le_of_ble_eq_true rfl) rfl ?_ | refine i6 G rfl rfl rfl rfl rfl (C3 (by omega) (by omega)) rfl rfl rfl rfl rfl (Nat.le_of_ble_eq_true rfl) rfl ?_ | refine i6 G rfl rfl rfl rfl rfl (C3 (by omega) u5) rfl rfl rfl rfl rfl (Nat.le_of_ble_eq_true rfl) rfl ?_
 refine zgn ?_
 exact kk.o):p:=h ⟨k⟩
theorem vm6 {p q:Prop} (k:q) (h:Hd q→p:=by
 intro kk
 refine a1 rfl ?_
 refine y4 1 rfl rfl rfl rfl rfl rfl rfl ?_
 exact kk.o):p:=h ⟨k⟩
theorem vm7 {p q:Prop} (k:q) (h:Hd q→p:=by
 intro kk
 refine a1 rfl ?_
 first | refine a3 rfl rfl (i8 rfl rfl rfl rfl (by omega) (by omega)) ?_ | refine a3 rfl rfl (k4 rfl rfl rfl rfl) ?_
 refine zgn ?_
 exact kk.o):p:=h ⟨k⟩
theorem vm8 {p q:Prop} (k:q) (h:Hd q→p:=by
 intro kk
 refine VStep.mk1 [0] 29 (.own 1) 1 (.row 183 2 []) [] rfl rfl rfl rfl rfl (fun b1 _ hbn=>f7 G a0Q rfl rfl rfl rfl rfl rfl rfl rfl rfl R2 rfl rfl (a4 rfl)) b5 b5 b5 b5 ?_
 refine F8 ?_
 exact kk.o):p:=h ⟨k⟩
theorem vm9 {p q:Prop} (k:q) (h:Hd q→p:=by
 intro kk
 refine a1 rfl ?_
 refine d7 G 2 rfl rfl rfl rfl rfl ?_
 exact kk.o):p:=h ⟨k⟩
theorem a1U {p q:Prop} (k:q) (h:Hd q→p:=by
 intro kk
 refine zgo ?_
 refine ⟨rfl,?_⟩
 exact kk.o):p:=h ⟨k⟩
theorem b2c {p q:Prop} (k:q) (h:Hd q→p:=by
 intro kk
 refine zgo ?_
 refine vm4 ?_
 first | refine i6 G rfl rfl rfl rfl rfl (C3 (by omega) (by omega)) rfl rfl rfl rfl rfl (Nat.le_of_ble_eq_true rfl) rfl ?_ | refine i6 G rfl rfl rfl rfl rfl (C3 (by omega) u5) rfl rfl rfl rfl rfl (Nat.le_of_ble_eq_true rfl) rfl ?_
 exact kk.o):p:=h ⟨k⟩
theorem y6 {p q:Prop} (k:q) (h:Hd q→p:=by exact fun kk=>a1 rfl kk.o):p:=h ⟨k⟩
theorem T5 {p q:Prop} (k:q) (h:Hd q→p:=by
 intro kk
 refine l9 b5 ?_
 refine znk ?_
 exact kk.o):p:=h ⟨k⟩
theorem b2d {p q:Prop} (k:q) (h:Hd q→p:=by
 intro kk
 refine a6 ?_
 refine y6 ?_
 refine a3 rfl rfl (b7 G rfl rfl rfl rfl) ?_
 refine y6 ?_
 refine a3 rfl rfl (E0 (c4 G rfl rfl rfl rfl rfl rfl rfl)) ?_
 refine y6 ?_
 refine a3 rfl rfl (a8 rfl rfl) ?_
 refine y6 ?_
 exact kk.o):p:=h ⟨k⟩
theorem a3O {p q:Prop} (k:q) (h:Hd q→p:=by
 intro kk
 refine zsa 0 ?_
 refine zsa 1 ?_
 refine zsa 2 ?_
 refine zsa 3 ?_
 exact kk.o):p:=h ⟨k⟩
theorem b4V {p q:Prop} (k:q) (h:Hd q→p:=by
 intro kk
 refine zgo ?_
 refine vm4 ?_
 first | refine i6 G rfl rfl rfl rfl rfl (C4 (by omega)) rfl rfl rfl rfl rfl (Nat.le_of_ble_eq_true rfl) rfl ?_ | refine i6 G rfl rfl rfl rfl rfl (C3 (by omega) (by omega)) rfl rfl rfl rfl rfl (Nat.le_of_ble_eq_true rfl) rfl ?_ | refine i6 G rfl rfl rfl rfl rfl (C3 (by omega) u5) rfl rfl rfl rfl rfl (Nat.le_of_ble_eq_true rfl) rfl ?_
 exact kk.o):p:=h ⟨k⟩
theorem b2e {p q:Prop} (k:q) (h:Hd q→p:=by
 intro kk
 refine vm6 ?_
 refine y6 ?_
 refine y4 2 rfl rfl rfl rfl rfl rfl rfl ?_
 refine y6 ?_
 refine d7 G 3 rfl rfl rfl rfl rfl ?_
 exact kk.o):p:=h ⟨k⟩
theorem b5i {p q:Prop} (k:q) (h:Hd q→p:=by
 intro kk
 refine a6 ?_
 iterate 3 refine zst ?_
 refine vm4 ?_
 first | refine i6 G rfl rfl rfl rfl rfl (C3 (by omega) a7M) rfl rfl rfl rfl rfl (Nat.le_of_ble_eq_true rfl) rfl ?_ | refine i6 G rfl rfl rfl rfl rfl (C3 (by omega) a7N) rfl rfl rfl rfl rfl (Nat.le_of_ble_eq_true rfl) rfl ?_
 refine zgn ?_
 refine a6 ?_
 exact kk.o):p:=h ⟨k⟩
theorem b4W {p q:Prop} (k:q) (h:Hd q→p:=by
 intro kk
 refine zgo ?_
 refine y6 ?_
 first | refine a3 rfl rfl (d5 G rfl rfl rfl rfl rfl (by omega) a6g) ?_ | refine a3 rfl rfl (d5 G rfl rfl rfl rfl rfl (by omega) a3N) ?_ | refine a3 rfl rfl (d5 G rfl rfl rfl rfl rfl (by omega) (by omega)) ?_
 refine y6 ?_
 exact kk.o):p:=h ⟨k⟩
theorem b4X {p q:Prop} (k:q) (h:Hd q→p:=by
 intro kk
 refine VStep.mk1 [0,1] 3 (.ptr 6 0) 6 (.box (avR [.slice none 0 0,.slice none 0 0,.slice none 0 0,.slice none 0 0,.slice none 0 0] [])) [] rfl rfl rfl rfl rfl (fun b1 _ hbn=>c5 G rfl rfl rfl rfl rfl rfl rfl rfl rfl rfl rfl (a4 rfl)) b5 b5 b5 b5 ?_
 refine F8 ?_
 exact kk.o):p:=h ⟨k⟩
theorem b4Y {p q:Prop} (k:q) (h:Hd q→p:=by
 intro kk
 refine VStep.mk1 [0,1,2,3,4] 6 (.ptr 5 0) 5 (.box (avR [.int .i64 0,.slice none 0 0,.slice none 0 0,.slice none 0 0] [])) [] rfl rfl rfl rfl rfl (fun b1 _ hbn=>c5 G rfl rfl rfl rfl rfl rfl rfl rfl rfl rfl rfl (a4 rfl)) b5 b5 b5 b5 ?_
 refine F8 ?_
 exact kk.o):p:=h ⟨k⟩
theorem b4Z {p q:Prop} (k:q) (h:Hd q→p:=by
 intro kk
 refine y6 ?_
 refine a3 rfl rfl (b7 G rfl rfl rfl rfl) ?_
 refine y6 ?_
 refine a3 rfl rfl (c4 G rfl rfl rfl rfl rfl rfl rfl) ?_
 refine y6 ?_
 refine a3 rfl rfl (g0 G rfl rfl rfl rfl) ?_
 refine y6 ?_
 refine g8 5 rfl rfl rfl (ArgsOK.of rfl) (O2 _ hQ) rfl rfl ?_
 refine y6 ?_
 refine c5 G rfl rfl rfl rfl rfl rfl rfl rfl rfl rfl rfl ?_
 exact kk.o):p:=h ⟨k⟩
theorem a4j {p q:Prop} (k:q) (h:Hd q→p:=by
 intro kk
 refine zgn ?_
 refine c8 ?_
 refine j4 rfl ?_
 refine g9 ?_
 exact kk.o):p:=h ⟨k⟩
theorem b40 {p q:Prop} (k:q) (h:Hd q→p:=by
 intro kk
 refine VStep.mk1 [0,1] 4 (.ptr 2 0) 2 (.box (avR [.slice none 0 0,.slice none 0 0] [])) [] rfl rfl rfl rfl rfl (fun b1 _ hbn=>c5 G rfl rfl rfl rfl rfl rfl rfl rfl rfl rfl rfl (a4 rfl)) b5 b5 b5 b5 ?_
 refine F8 ?_
 exact kk.o):p:=h ⟨k⟩
theorem a8y {p q:Prop} (k:q) (h:Hd q→p:=by
 intro kk
 refine zgo ?_
 refine y6 ?_
 refine d7 G 1 rfl rfl rfl rfl rfl ?_
 exact kk.o):p:=h ⟨k⟩
theorem b41 {p q:Prop} (k:q) (h:Hd q→p:=by
 intro kk
 refine zgo ?_
 refine y6 ?_
 refine g8 2 rfl rfl rfl (ArgsOK.of rfl) (a6R (a3I sl i) _ (by have:=@a26 sl i;have:=@a1o sl i;omega) (fun x hx=>b1U hF (by omega) (r9.mpr (by omega)) hx)) rfl rfl ?_
 refine zgn ?_
 refine a6 ?_
 iterate 3 refine zst ?_
 exact kk.o):p:=h ⟨k⟩
theorem b42 {p q:Prop} (k:q) (h:Hd q→p:=by
 intro kk
 refine a3O ?_
 refine zsa 4 ?_
 first | refine b9 5 rfl b5 b5 rfl rfl rfl rfl (i8 rfl rfl rfl rfl (by omega) (by omega)) ?_ | refine b9 5 rfl b5 b5 rfl rfl rfl rfl (k4 rfl rfl rfl rfl) ?_
 exact kk.o):p:=h ⟨k⟩
theorem a8z {p q:Prop} (k:q) (h:Hd q→p:=by exact fun kk=>a3 rfl rfl (z6 G rfl rfl rfl rfl) kk.o):p:=h ⟨k⟩
theorem b3Y {p q:Prop} (k:q) (h:Hd q→p:=by
 intro kk
 refine zgo ?_
 refine y6 ?_
 refine g8 2 rfl rfl rfl (ArgsOK.of rfl) (w5 sl _ ⟨_,_,_⟩ (by omega) (by omega)) rfl rfl ?_
 refine zgo ?_
 exact kk.o):p:=h ⟨k⟩
theorem b1m {p q:Prop} (k:q) (h:Hd q→p:=by
 intro kk
 refine y6 ?_
 refine a3 rfl rfl (a7 rfl rfl) ?_
 exact kk.o):p:=h ⟨k⟩
theorem a5t {p q:Prop} (k:q) (h:Hd q→p:=by
 intro kk
 iterate 3 refine zst ?_
 exact kk.o):p:=h ⟨k⟩
theorem F6 {p q:Prop} (k:q) (h:Hd q→p:=by
 intro kk
 refine zgo ?_
 refine y6 ?_
 exact kk.o):p:=h ⟨k⟩
theorem a9X {p q:Prop} (k:q) (h:Hd q→p:=by
 intro kk
 refine m3 [0,1,2,3,4,10] rfl rfl ?_
 refine a1U ?_
 exact kk.o):p:=h ⟨k⟩
theorem a9Y {p q:Prop} (k:q) (h:Hd q→p:=by
 intro kk
 refine m3 [0,1,2,3,4,7] rfl rfl ?_
 refine a1U ?_
 exact kk.o):p:=h ⟨k⟩
theorem b3Z {p q:Prop} (k:q) (h:Hd q→p:=by
 intro kk
 refine a5Z (Gh.nest (id:=5) (yss:=[]) rfl rfl (by intro _ _ _ h;simp at h)) ?_
 refine T5 ?_
 refine zgo ?_
 exact kk.o):p:=h ⟨k⟩
theorem b43 {p q:Prop} (k:q) (h:Hd q→p:=by
 intro kk
 refine f7 G np rfl rfl rfl rfl rfl rfl rfl rfl rfl Z3 rfl rfl ?_
 refine zgo ?_
 exact kk.o):p:=h ⟨k⟩
theorem b30 {p q:Prop} (k:q) (h:Hd q→p:=by
 intro kk
 refine F6 ?_
 refine f7 G np rfl rfl rfl rfl rfl rfl rfl rfl rfl u5 rfl rfl ?_
 exact kk.o):p:=h ⟨k⟩
theorem a9Z {p q:Prop} (k:q) (h:Hd q→p:=by
 intro kk
 refine m3 [1,2,3,4,7] rfl rfl ?_
 refine a1U ?_
 exact kk.o):p:=h ⟨k⟩
theorem a90 {p q:Prop} (k:q) (h:Hd q→p:=by
 intro kk
 refine m3 [0,1,2,3,4] rfl rfl ?_
 refine a1U ?_
 exact kk.o):p:=h ⟨k⟩
theorem b44 {p q:Prop} (k:q) (h:Hd q→p:=by
 intro kk
 first | refine j5 rfl rfl (i8 rfl rfl rfl rfl (by omega) (by omega)) ?_ | refine j5 rfl rfl (k4 rfl rfl rfl rfl) ?_
 iterate 2 refine zst ?_
 exact kk.o):p:=h ⟨k⟩
theorem a6S {p q:Prop} (k:q) (h:Hd q→p:=by
 intro kk
 refine m3 [0] rfl rfl ?_
 refine a1U ?_
 exact kk.o):p:=h ⟨k⟩
theorem a91 {p q:Prop} (k:q) (h:Hd q→p:=by
 intro kk
 refine a3O ?_
 refine zsa 4 ?_
 refine zsa 5 ?_
 refine zsa 6 ?_
 refine zsa 7 ?_
 exact kk.o):p:=h ⟨k⟩
theorem b45 {p q:Prop} (k:q) (h:Hd q→p:=by
 intro kk
 refine y6 ?_
 refine a3 rfl rfl (a8 rfl rfl) ?_
 refine y6 ?_
 refine a3 rfl rfl (c9 rfl rfl rfl) ?_
 refine y6 ?_
 refine a3 rfl rfl (c9 rfl rfl rfl) ?_
 refine b1m ?_
 refine b1m ?_
 refine a4 ?_
 exact kk.o):p:=h ⟨k⟩
theorem a2p {p q:Prop} (k:q) (h:Hd q→p:=by
 intro kk
 refine zgo ?_
 refine vm6 ?_
 refine vm9 ?_
 exact kk.o):p:=h ⟨k⟩
theorem a5u {p q:Prop} (k:q) (h:Hd q→p:=by exact fun kk=>p8 rfl rfl rfl kk.o):p:=h ⟨k⟩
theorem a7O {p q:Prop} (k:q) (h:Hd q→p:=by exact fun kk=>zcl (E9 _ _ _) kk.o):p:=h ⟨k⟩
theorem b1n {p q:Prop} (k:q) (h:Hd q→p:=by
 intro kk
 refine G3 ?_
 refine L1 m5 b5 ?_
 exact kk.o):p:=h ⟨k⟩
theorem a3i {p q:Prop} (k:q) (h:Hd q→p:=by
 intro kk
 refine G3 ?_
 refine a6 ?_
 exact kk.o):p:=h ⟨k⟩
theorem b2f {p q:Prop} (k:q) (h:Hd q→p:=by exact fun kk=>j5 rfl rfl (z6 G rfl rfl rfl rfl) kk.o):p:=h ⟨k⟩
theorem a8A {p q:Prop} (k:q) (h:Hd q→p:=by
 intro kk
 refine zgn ?_
 refine a6 ?_
 refine zst ?_
 refine vm7 ?_
 exact kk.o):p:=h ⟨k⟩
theorem b46 {p q:Prop} (k:q) (h:Hd q→p:=by
 intro kk
 refine zgo ?_
 refine b2e ?_
 refine F6 ?_
 refine g8 7 rfl rfl rfl (ArgsOK.of rfl) (a10 m hM) rfl rfl ?_
 refine y6 ?_
 refine d7 G 8 rfl rfl rfl rfl rfl ?_
 exact kk.o):p:=h ⟨k⟩
theorem b47 {p q:Prop} (k:q) (h:Hd q→p:=by
 intro kk
 refine F6 ?_
 refine g8 4 rfl rfl rfl (ArgsOK.of rfl) (Z4 (pnS q i) ⟨_,_⟩ (by omega)) rfl rfl ?_
 refine zgn ?_
 refine a6 ?_
 refine a5t ?_
 exact kk.o):p:=h ⟨k⟩
end Go.Rf
