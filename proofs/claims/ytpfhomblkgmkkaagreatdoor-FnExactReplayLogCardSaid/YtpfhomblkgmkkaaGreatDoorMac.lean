/- Names for what is said again and again in walks. -/
import Derived.Test.YtpfhomblkgmkkaaGreatDoorLibE
set_option linter.unusedSimpArgs false
set_option linter.unusedVariables false
namespace Go.Rf
theorem J5 {p:Prop} (h:p:=by (first | rfl | (simp [M6, *];done) | (simp [M6, *];rfl) | (simp [M6, *,N9,a6P];done))):p:=h
theorem a0O {p:Prop} (h:p:=by (first | (rw [hO];done) | (rw [hO];rfl))):p:=h
theorem a6d {p:Prop} (h:p:=by (first | (rw [a3s (by omega)];done) | (rw [O8 (by omega)];done) | (rw [a62 (by omega)];done) | (rw [a4K (by have:=@a4J w;omega)];done))):p:=h
theorem a7M {p:Prop} (h:p:=by (first | (rw [J9 (i:=i) hinv.2 (by omega) c8];done) | (rw [U1 hinv.2 (by omega)];done))):p:=h
theorem a7N {p:Prop} (h:p:=by (first | (exact congrArg Value.bool (c1Q c8).symm) | (exact congrArg Value.bool (c1R (by omega)).symm) | (exact congrArg Value.bool (b7W (k:=k) (c1T c8) (by omega)).symm) | (exact congrArg Value.bool (b7W (k:=k) (c1U c8) (by omega)).symm) | (exact congrArg Value.bool (c1S h1 (by omega) (by omega) hk.2 (by omega)).symm))):p:=h
theorem a93 {p:Prop} (h:p:=by (first | (exact congrArg Value.bool (b7h (q:=⟨sl,wa⟩) (i:=i) (b4D (fun g=>by dsimp only at g;first | exact Y7 c8 g.1 | exact Y7 c8 g.2.1 | (have:=g.2.2.1;omega) | (have h9:=b3O.mp (show 0≤G5 (fun j=>decide ((wa.getD j default).q=(wa.getD i default).q)) i by omega);obtain ⟨j,hj,e⟩:=a9g.mp h9;exact g.2.2.2.1 j hj (of_decide_eq_true e)) | (rcases g.2.2.2.2 with g1 | g1<;>first | (exfalso;omega) | (rw [← ht (by omega)] at g1;first | (have:=a0M.mpr g1;omega) | (simp_all;done))) | exact g.2.2.2.1 _ (by omega) c8)) (show i < wa.length by omega)).symm) | (exact congrArg Value.bool (b7g (q:=⟨sl,wa⟩) c8).symm) | (exact congrArg Value.bool (b7m c8 hinv.2 (by omega) (by omega))))):p:=h
theorem b12 {p:Prop} (h:p:=by (first | rfl | (rw [hO];done) | (rw [hO];rfl))):p:=h
theorem b3m {p:Prop} (h:p:=by ((first | rfl | (simp_all;done) | (simp_all;omega)))):p:=h
theorem b3n {p:Prop} (h:p:=by (first | (exact congrArg Value.bool (b7e hinv.2 (by omega))) | (rw [b3S (by omega)];done) | (exact congrArg Value.bool (b3R (i:=i) (b7d (fun g=>by first | exact Y7 c8 g.1 | exact Y7 c8 g.2.1 | exact Y7 c8 g.2.2)) (by omega)).symm) | (exact congrArg Value.bool (b3R (i:=i) (by first | exact b9t (by omega) (by omega) | exact b9u (by omega) (by omega) (by omega)) (by omega)).symm))):p:=h
theorem a7y {p:Prop} (h:p:=by (first | (rw [b3V (by omega)];done) | (rw [b7j (by omega) (by omega)];done) | (rw [b7k (by omega) (by omega)];done) | (rw [b7l (by omega) (by omega) (by omega)];first | rfl | (exact congrArg Value.bool (by rw [Bool.eq_iff_iff,decide_eq_true_iff];exact b9p))) | rfl)):p:=h
theorem a7z {p:Prop} (h:p:=by (simp only [a0o];(repeat (first | rw [if_pos (by omega)] | rw [if_neg (by omega)]));first | done | rfl)):p:=h
theorem a7A {p:Prop} (h:p:=by (first | (rw [hO.1];done) | (rw [hO.1];rfl) | (rw [hO.2];done) | (rw [hO.2];rfl))):p:=h
theorem a9A {p:Prop} (h:p:=by (first | (exact congrArg Value.bool (b3S (by omega)).symm) | (exact congrArg Value.bool (b7c (by omega) hinv.2 (by omega)).symm) | (exact congrArg Value.bool (b3R (i:=i) (by first | exact b7a c8 (fun e=>c4g c8 (a9h.mp e)) | exact b7b c8 (b3O.mp (by omega)) | exact b3Q c8 (c1A c8) | exact b3Q c8 (c1B c8) | exact b3Q c8 (c1C c8)) (by omega)).symm))):p:=h
theorem a9B {p:Prop} (h:p:=by (first | (exact congrArg Value.bool (b7g (q:=⟨sl,wa⟩) c8).symm) | (exact congrArg Value.bool (b7i (q:=⟨sl,wa⟩) c8 hinv.2 (show wa.length≤i by omega)).symm) | (exact congrArg Value.bool (b7h (q:=⟨sl,wa⟩) (i:=i) (b4D (fun g=>by dsimp only at g;first | exact Y7 c8 g.1 | exact Y7 c8 g.2.1 | (have:=g.2.2.1;omega) | (have h9:=b3O.mp (show 0≤G5 (fun j=>decide ((wa.getD j default).q=(wa.getD i default).q)) i by omega);obtain ⟨j,hj,e⟩:=a9g.mp h9;exact g.2.2.2.1 j hj (of_decide_eq_true e)) | (rcases g.2.2.2.2 with g1 | g1<;>first | (exfalso;omega) | (rw [← ht (by omega)] at g1;first | (have:=a0M.mpr g1;omega) | (simp_all;done))) | exact g.2.2.2.1 _ (by omega) c8)) (show i < wa.length by omega)).symm))):p:=h
theorem a9C {p:Prop} (h:p:=by (first | (have e:a0v s=true:=a2m hinv.2 (by omega);simp [e];done) | (have e:a0v s=false:=a00 (i:=i) (by simp only [a4y,Bool.and_eq_false_iff,decide_eq_false_iff_not,Bool.not_eq_false',beq_iff_eq];omega) (by omega);simp [e];done))):p:=h
theorem b01 {p:Prop} (h:p:=by (first | rfl | (unfold a3o;rw [ho];done) | (unfold a3o;rw [ho];rfl))):p:=h
theorem b02 {p:Prop} (h:p:=by (first | (exact congrArg Value.bool (b7Y h1).symm) | (exact congrArg Value.bool (b7Z h2).symm) | (exact congrArg Value.bool (a9n (b9K (i:=i) (by omega) (fun g=>b1P.mp h4 ((a5U 4).mpr g)))).symm) | (obtain ⟨k,hk,e⟩:=(a5Z (by omega)).mp (a9o.mp h5);(exact congrArg Value.bool (a9n (b7S hSl hk (by omega) e)).symm)) | (exact congrArg Value.bool (a9n (b7Q (i:=i) (c0x (by omega) b5c) (by omega))).symm) | (have e:i=x.st.length:=(by omega);subst e;rw [c1X h1 h2,hinv.2.fin hSl,c4i,a5V];done))):p:=h
theorem b03 {p:Prop} (h:p:=by (first | (exact congrArg Value.bool (b7V hi.2 (by omega) hj.2 (by omega)).symm) | (exact congrArg Value.bool (b7U (i:=i) (b7T.mpr (fun g=>by first | exact g.1 c8 | (rcases g.2 with g2 | ⟨g2,g3⟩<;>first | (exact absurd g2 c8) | (exact absurd g3 c8)))) (by omega)).symm) | (exact congrArg Value.bool (c1P (i:=j) (c1O.mpr (fun g=>by first | exact absurd g.1 c8 | exact absurd g.2 c8)) (by omega)).symm))):p:=h
theorem b04 {p:Prop} (h:p:=by (first | (rw [b9m (i:=i) (by omega) (by simp only [b55];try rw [← ftn];omega)];done) | (rw [b9n (i:=i) (by omega) (by simp only [b55];try rw [← ftn];omega)];done))):p:=h
theorem b05 {p:Prop} (h:p:=by (first | (rw [hS];done) | (rw [hS];(first | rfl | exact List.map_set.symm | (rw [P7];done) | exact c2f rfl | (simp only [s6];done))))):p:=h
theorem b06 {p:Prop} (h:p:=by (first | (rw [hS];done) | (rw [hS];(first | rfl | exact List.map_set.symm | exact c2f rfl | (simp only [List.set_set,Int.toNat_natCast];exact c2f rfl) | exact congrArg Value.bool (decide_eq_true (by omega)))))):p:=h
theorem b3o {p:Prop} (h:p:=by (first | (exact congrArg Value.bool (b7Y h1).symm) | (exact congrArg Value.bool (b7Z h2).symm) | (exact congrArg Value.bool (a9n (b1M h3)).symm) | (exact congrArg Value.bool (a9n (b7Q (i:=i) (c0x (by omega) b5c) (by omega))).symm) | (exact congrArg Value.bool (c1W h1 h2 (b7R h3 hinv.2 (by omega))).symm))):p:=h
theorem b3p {p:Prop} (h:p:=by ((have e0:((UInt8.toNat 64:Nat):Int)=64:=rfl;cases e1:a0v x.c<;>cases e2:a0v x.r<;>cases e3:m5 x.c 64<;>simp_all [E2]<;>omega))):p:=h
theorem b3q {p:Prop} (h:p:=by (first | rfl | (exfalso;omega) | (simp_all;done))):p:=h
theorem b5d {p:Prop} (h:p:=by (first | rfl | (simp_all [m8];done) | (simp_all [m8];omega))):p:=h
theorem b5e {p:Prop} (h:p:=by (first | rfl | (simp only [a91,h1,Bool.true_and,Bool.false_and];done) | (simp only [a91, *,Bool.true_and,Bool.false_and];done))):p:=h
theorem b5f {p:Prop} (h:p:=by (first | rfl | (rw [c0t c8];done) | (rw [c0t c8];rfl) | (rw [c0u c8];done) | (rw [c0u c8];rfl))):p:=h
theorem b5g {p:Prop} (h:p:=by (first | (rw [c1H (by omega)];done) | (rw [b7s (by omega),htn];done) | (rw [b7s (by omega),← htn];done))):p:=h
theorem b5h {p:Prop} (h:p:=by ((rw [b9I hk.2 hk.1 (by first | exact .inl (by omega) | exact .inr ⟨by omega,by omega⟩),a1Q,a9j];simp [Rf.r9];done))):p:=h
theorem b5i {p:Prop} (h:p:=by (first | (have e:a1m rs.length (fun i=>a9b c (rs.getD i default))=false:=a00 (i:=i) (by simp_all [a9b]) (by omega);simp only [okRts,e,Bool.and_false];done) | (have e:a1m rs.length (fun i=>a9b c (rs.getD i default))=true:=a2m hinv.2 (by omega);first | (simp only [okRts,e,h4,c4f,Bool.and_true,Bool.true_and,Bool.false_and];done)))):p:=h
theorem b5j {p:Prop} (h:p:=by (first | rfl | (rw [b8f (i:=i) (by omega) c8 c8];done) | (rw [c17 (k:=k) hinv.2 (by omega) (by omega) (by first | exact b42 (by omega) | exact b9S (by omega) (by omega))];done) | (rw [c18 hinv.2 (by omega) (by omega) hk.2];done))):p:=h
theorem b5k {p:Prop} (h:p:=by ((rw [b3F] at h1;simp only [E2];first | (have e:m8 x.c.size 1 160=true:=p7.mpr (by omega);rw [e,h2.1,h3];generalize a0v x.r=p;generalize decide ((x.r.size:Int)≤200)=q;cases p<;>cases q<;>rfl) | (rw [h3];simp;done) | (rcases h2 with h2 | h2<;>first | (rw [h2];simp;done) | (have e:m8 x.c.size 1 160=false:=a8J.mpr (by omega);rw [e];simp;done)) | (have e:m8 x.c.size 1 160=false:=a8J.mpr (by omega);rw [e];simp;done)))):p:=h
theorem b5l {p:Prop} (h:p:=by (first | (rw [hE];rfl) | (rw [hJ];done))):p:=h
theorem b5m {p:Prop} (h:p:=by ((rw [hO];try rw [← hrl];try rfl))):p:=h
theorem b5n {p:Prop} (h:p:=by (first | rfl | (rw [c11 c8];done) | (rw [c12 c8];done))):p:=h
theorem b5o {p:Prop} (h:p:=by (first | rfl | (rw [c0E (by omega)];done) | (rw [c0E (by omega)];rfl) | (rw [b8d (by omega)];done) | (rw [b8d (by omega)];rfl) | (rw [b8g h0 (by omega)];done) | (rw [b8g h0 (by omega)];rfl))):p:=h
theorem b5p {p:Prop} (h:p:=by (first | rfl | (exfalso;simp_all;done))):p:=h
theorem b5q {p:Prop} (h:p:=by (first | rfl | (rw [hM];done) | (rw [hM];rfl) | (simp_all;done))):p:=h
theorem b5r {p:Prop} (h:p:=by (first | (rw [hO.1];rfl) | (rw [hO.1];done) | (rw [hO.2];done) | (rw [hO.2];rfl))):p:=h
theorem b8B {p:Prop} (h:p:=by (simp only [a4F];first | (rw [if_pos (by omega)];done) | (rw [if_neg (by omega),if_pos (by omega)];done) | (rw [if_neg (by omega),if_neg (by omega)];done))):p:=h
theorem b8C {p:Prop} (h:p:=by (first | rfl | (have e:i=xs.length:=(by omega);subst e;simp;done) | (have ht1:((i:Int)+1).toNat=i+1:=(by omega);first | (rw [show List.take ((((xs.map l1).length:Nat):Int).toNat - ((i:Nat):Int).toNat) (List.drop ((i:Nat):Int).toNat (xs.map l1))=List.drop i (xs.map l1) from List.take_of_length_le (by rw [List.length_drop,Int.toNat_natCast,Int.toNat_natCast];exact Nat.le_refl _)];simp only [Int.toNat_natCast,ht1,Int.toNat_zero,List.length_drop,List.length_cons,List.length_nil,Nat.zero_add,List.map_append,List.map_take,List.map_drop,List.map_cons,List.map_nil,Nat.sub_zero];exact b6U (by rw [List.length_map];exact hi) (by rw [List.length_replicate,List.length_map])) | (rw [show xs.length+1=(xs.map l1).length+1 from by rw [List.length_map]];simp only [Int.toNat_natCast,ht1,Int.toNat_zero,List.length_drop,List.length_cons,List.length_nil,Nat.zero_add,List.map_append,List.map_take,List.map_drop,List.map_cons,List.map_nil,Nat.sub_zero];exact b2D (by rw [List.length_map];exact hi) (by omega))))):p:=h
theorem b8D {p:Prop} (h:p:=by (first | (rw [b7n (b1z.mpr (by omega))];done) | (rw [b7n (b1z.mpr (by omega))];rfl) | (rw [b4E (a0l.mpr (by omega))];done) | (rw [b4E (a0l.mpr (by omega))];rfl))):p:=h
theorem b8E {p:Prop} (h:p:=by (first | (have e:l≠r:=fun e=>(by (subst e;omega));simp [e];done) | (have e:l=r:=a8K (by omega) hinv.2 (by omega);simp [e];done) | (have e:l≠r:=a7n (i:=i) (fun e=>X7);simp [e];done))):p:=h
theorem b8F {p:Prop} (h:p:=by (first | rfl | (simp_all [b3N];done) | (simp_all [b3N];omega))):p:=h
theorem b8G {p:Prop} (h:p:=by (first | (have e:xs≠ys:=fun e=>(by (subst e;simp_all [b3N];done));simp [e];done) | (have e:xs=ys:=a8K (by omega) hinv.2 (by omega);simp [e];done) | (have e:xs≠ys:=a7n (i:=i) (fun e=>(by simp_all [b3N]));simp [e];done))):p:=h
theorem b8H {p:Prop} (h:p:=by (first | rfl | (simp only [okRts,h1,Bool.true_and,Bool.false_and];done) | (have e8:rs.length=8:=Int.ofNat_inj.mp h2;simp only [okRts,h1,e8,decide_true,Bool.true_and,a0g,Bool.not_not];done) | (simp only [okRts,h1,show ¬ rs.length=8 from (fun h=>h2 (by rw [h];rfl)),decide_false,Bool.false_and,Bool.and_false];done))):p:=h
theorem b8I {p:Prop} (h:p:=by (first | (rw [b9k (by omega)];done) | (rw [b9l (by omega) (show i=8 by omega)];done))):p:=h
theorem b8J {p:Prop} (h:p:=by (first | rfl | (rw [List.take_length];done) | (rw [List.take_length];rfl) | simp)):p:=h
theorem b8K {p:Prop} (h:p:=by ((first | (simp only [b76];rw [if_pos (by omega)];done) | (simp only [b76];rw [if_neg (by omega),if_pos (by omega)];done) | (simp only [b76];rw [if_neg (by omega),if_neg (by omega)];done)))):p:=h
theorem c0R {p:Prop} (h:p:=by (simp only [szL];first | (rw [if_pos (by omega)];done) | (rw [if_neg (by omega)];done))):p:=h
theorem c0S {p:Prop} (h:p:=by (first | (rw [b67 hinv.2 (by omega) c8];done) | (rw [c0p hinv.2 (by omega)];done))):p:=h
theorem c0T {p:Prop} (h:p:=by (first | (rw [u7,J9 (i:=i) hinv.2 (by omega) (by simp_all [fdP])];done) | (rw [u7,U1 hinv.2 (by omega)];done))):p:=h
theorem c0U {p:Prop} (h:p:=by (first | (rw [freS,J9 (i:=i) hinv.2 (by omega) (by simp_all [emP])];done) | (rw [freS,U1 hinv.2 (by omega)];done))):p:=h
theorem c0V {p:Prop} (h:p:=by (first | (rw [inW,J9 (i:=i) hinv.2 (by omega) (decide_eq_true c8)];done) | (rw [inW,U1 hinv.2 (by omega)];done))):p:=h
theorem c0W {p:Prop} (h:p:=by (first | (rw [a5I hinv.2 hinv.1 b8L];done) | (rw [a5I hinv.2 hinv.1 b8L];rfl))):p:=h
theorem c0X {p:Prop} (h:p:=by (first | (rw [a5I hinv.2 hinv.1 b8L,a1Q,a9j];simp [l1];done))):p:=h
theorem c0Y {p:Prop} (h:p:=by (first | rfl | (rw [ht];done) | (rw [ht];rfl) | (rw [ht,ht2];done) | (rw [ht,ht2];rfl))):p:=h
theorem c0Z {p:Prop} (h:p:=by (first | rfl | (rw [ht];done) | (rw [ht];rfl) | (rw [ht,ht2];done) | (rw [ht,ht2];rfl) | (rw [ht,ht2];simp [a4H,Rf.r9];done))):p:=h
theorem c00 {p:Prop} (h:p:=by (first | (rw [J9 (i:=i) hinv.2 (by omega) b5s];done) | (rw [U1 hinv.2 (by omega)];done))):p:=h
theorem c01 {p:Prop} (h:p:=by (simp only [a9e];first | (rw [O0 (i:=i) b5s (by omega)];done) | (rw [a2n hinv.2 (by omega)];done))):p:=h
theorem c02 {p:Prop} (h:p:=by (first | (rw [hM];done) | (rw [hM];rfl) | (rw [hM];simp [b1D];done) | (rw [hM];simp [noM];done) | (rw [hM];have e:k=n:=(by omega);subst e;first | done | rfl | (simp [b1D];done)))):p:=h
theorem c03 {p:Prop} (h:p:=by (first | (exact congrArg Value.bool (b7U (i:=i) (b7T.mpr (fun g=>g.1 (by omega))) (by omega)).symm) | (exact congrArg Value.bool (c3t hinv.2)))):p:=h
theorem c04 {p:Prop} (h:p:=by (first | (rw [b42 (by omega)];done) | (rw [a8t (by omega)];done) | (rw [a8t (by omega)];rfl))):p:=h
theorem c05 {p:Prop} (h:p:=by (first | rfl | (rw [b8f (i:=i) (by omega) c8 c8];done) | (rw [b39 hinv.2 (by omega)];done))):p:=h
theorem c06 {p:Prop} (h:p:=by (first | (have e:m5 s b=true:=O0 (i:=i) (by simp only [beq_iff_eq];omega) (by omega);simp [e];done) | (have e:m5 s b=false:=a2n (i:=i) (fun j hj=>by simpa using hinv.2 j hj) (by omega);simp [e];done))):p:=h
theorem b3 {p:Prop} (h:p:=by kernel_rfl):p:=h
theorem u5 {p:Prop} (h:p:=by (try simp only [List.length_take,List.length_append,List.length_map,List.length_drop,List.length_cons,List.length_nil,List.length_replicate,Int.toNat_natCast]);omega):p:=h
theorem H0 {p:Prop} (h:p:=by first | (simp;omega) | (simp only [a1Q,a9j,List.length_append,List.length_map,List.length_take,List.length_drop,List.length_cons,List.length_nil];omega)):p:=h
theorem c8 {p:Prop} (h:p:=by assumption):p:=h
theorem F3 {p:Prop} (h:p:=by first | (simp only [List.length_map,List.length_cons,List.length_nil];omega) | (simp;omega)):p:=h
theorem U9 {p:Prop} (h:p:=by rw [List.length_set,List.length_set,List.length_map,a3q (by omega)];omega):p:=h
theorem A1 {p:Prop} (h:p:=by exact Nat.le_of_ble_eq_true rfl):p:=h
theorem H8 {p:Prop} (h:p:=by simp only [List.length_set,List.length_map];omega):p:=h
theorem V0 {p:Prop} (h:p:=by rw [List.length_set,List.length_map,a3q (by omega)];omega):p:=h
theorem a6e {p:Prop} (h:p:=by first | exact List.Mem.head _ | exact List.Mem.tail _ (List.Mem.head _) | exact List.Mem.tail _ (List.Mem.tail _ (List.Mem.head _)) | simp):p:=h
theorem N3 {p:Prop} (h:p:=by rw [hbn];exact Nat.le_of_ble_eq_true rfl):p:=h
theorem V2 {p:Prop} (h:p:=by rw [List.length_map,a3q (by omega)];omega):p:=h
theorem a0E {p:Prop} (h:p:=by simp only [tgM,List.set_set];rw [List.map_set];rfl):p:=h
theorem C0 {p:Prop} (h:p:=by simp_all;omega):p:=h
theorem V3 {p:Prop} (h:p:=by first | assumption | omega):p:=h
theorem C2 {p:Prop} (h:p:=by simp_all;done):p:=h
theorem E0 {p:Prop} (h:p:=by simp_all [wOf]):p:=h
theorem a0r {p:Prop} (h:p:=by rw [List.nil_append,c3q]):p:=h
theorem b5s {p:Prop} (h:p:=by first | exact decide_eq_true c8 | exact decide_eq_true (Eq.symm c8) | exact decide_eq_false c8 | exact decide_eq_false (Ne.symm c8)):p:=h
theorem C3 {p:Prop} (h:p:=by simp;omega):p:=h
theorem b8M {p:Prop} (h:p:=by simp only [List.length_take,List.length_append,List.length_map,List.length_drop,List.length_cons,List.length_nil,Int.toNat_natCast,Nat.min_def];(repeat' split)<;>omega):p:=h
theorem a1z {p:Prop} (h:p:=by rw [List.length_map];omega):p:=h
theorem b5t {p:Prop} (h:p:=by first | exact .inl (by omega) | (right;rw [← ht (by omega)];first | exact a0M.mp (by omega) | assumption)):p:=h
theorem b5u {p:Prop} (h:p:=by (try simp only [ByteArray.size_append,t8,List.size_toArray,List.length_cons,List.length_nil]);omega):p:=h
theorem a4l {p:Prop} (h:p:=by first | (simp;done) | (simp;omega)):p:=h
theorem b8L {p:Prop} (h:p:=by first | exact .inl (by omega) | exact .inr ⟨by omega,by first | assumption | (rw [← Bool.not_eq_true,← a0M];omega)⟩):p:=h
theorem c07 {p:Prop} (h:p:=by first | exact c0q c8 (a9h.mpr (ec3.mp c8)) | exact c0r c8 (a3n.mpr ⟨p7.mp c8,p7.mp c8,p7.mp c8⟩) (a5G.mp (by omega))):p:=h
theorem c08 {p:Prop} (h:p:=by first | exact ArgsOK.of rfl | exact ArgsOK.of (congrArg some (congrArg (fun z=>[AV.lst 1 z,.v (.int .i64 (x.st.getD i default))]) (a1Q (xs:=x.st) (i:=i))))):p:=h
theorem b5v {p:Prop} (h:p:=by first | exact c19 c8 | exact c2a c8):p:=h
theorem X7 {p:Prop} (h:p:=by simp_all):p:=h
theorem b5w {p:Prop} (h:p:=by first | omega | (simp;done) | (simp;omega)):p:=h
theorem b5c {p:Prop} (h:p:=by rw [← hti (by omega)];omega):p:=h
theorem c09 {p:Prop} (h:p:=by first | (simp;omega) | (simp only [List.length_map,List.length_cons,List.length_nil,List.length_replicate];omega)):p:=h
theorem b5x {p:Prop} (h:p:=by rw [a0W,List.map_set];rfl):p:=h
theorem b8N {p:Prop} (h:p:=by intro c hc;rw [List.mem_singleton.1 hc];rfl):p:=h
theorem b8O {p:Prop} (h:p:=by rw [List.length_map,List.length_take];omega):p:=h
theorem b5y {p:Prop} (h:p:=by rw [List.length_drop];omega):p:=h
theorem c1a {p:Prop} (h:p:=by first | (left;omega) | (right;rw [← Bool.not_eq_true,← a0M];omega)):p:=h
theorem c1b {p:Prop} (h:p:=by first | exact c0w b5c | (obtain rfl:i=0:=(by omega);exact c0v)):p:=h
theorem vm1 {p q:Prop} (k:q) (h:Hd q→p:=by
 intro kk
 refine zgo ?_
 refine a8 rfl ?_
 refine B0 1 rfl rfl rfl rfl rfl rfl rfl ?_
 exact kk.o):p:=h ⟨k⟩
theorem vm2 {p q:Prop} (k:q) (h:Hd q→p:=by
 intro kk
 refine zsa 1 ?_
 refine zsa 2 ?_
 first | refine e9 3 rfl b3 b3 rfl rfl rfl rfl (I1 G rfl rfl rfl rfl rfl (by omega) (by omega) (by omega)) ?_ | refine e9 3 rfl b3 b3 rfl rfl rfl rfl (I1 G rfl rfl rfl rfl rfl (by omega) a4l a4l) ?_
 refine zsa 5 ?_
 refine zsa 8 ?_
 refine zsa 9 ?_
 first | refine e9 10 rfl b3 b3 rfl rfl rfl rfl (I1 G rfl rfl rfl rfl rfl (by omega) (by omega) (by omega)) ?_ | refine e9 10 rfl b3 b3 rfl rfl rfl rfl (I1 G rfl rfl rfl rfl rfl (by omega) a4l a4l) ?_
 exact kk.o):p:=h ⟨k⟩
theorem vm3 {p q:Prop} (k:q) (h:Hd q→p:=by
 intro kk
 refine VStep.mk1 [] 33 (.own 0) 0 (.row 3 1 []) [] rfl rfl rfl rfl rfl (fun b1 _ hbn=>g9 G N3 rfl rfl rfl rfl rfl rfl rfl rfl rfl H0 rfl rfl (b4 rfl)) b3 b3 b3 b3 ?_
 refine B3 ?_
 exact kk.o):p:=h ⟨k⟩
theorem vm4 {p q:Prop} (k:q) (h:Hd q→p:=by
 intro kk
 refine zgo ?_
 refine a8 rfl ?_
 first | refine b6 rfl rfl (s8 G rfl rfl rfl rfl rfl (by omega) a1z) ?_ | refine b6 rfl rfl (s8 G rfl rfl rfl rfl rfl (by omega) H8) ?_ | refine b6 rfl rfl (s8 G rfl rfl rfl rfl rfl (by omega) (by omega)) ?_
 refine a8 rfl ?_
 first | refine s1 G rfl rfl rfl rfl rfl (B4 (by omega) (by omega)) rfl rfl (.v rfl (.own rfl (.own rfl (.own rfl .nil)))) rfl rfl rfl (Nat.le_of_ble_eq_true rfl) (fun q h=>by cases h) rfl ?_ | refine s1 G rfl rfl rfl rfl rfl (a0f (by omega) (by omega)) rfl rfl (.v rfl (.own rfl (.own rfl (.own rfl .nil)))) rfl rfl rfl (Nat.le_of_ble_eq_true rfl) (fun q h=>by cases h) rfl ?_ | refine s1 G rfl rfl rfl rfl rfl (a2T H8 rfl) rfl rfl (.v rfl (.own rfl (.own rfl (.own rfl .nil)))) rfl rfl rfl (Nat.le_of_ble_eq_true rfl) (fun q h=>by cases h) rfl ?_
 exact kk.o):p:=h ⟨k⟩
theorem vm5 {p q:Prop} (k:q) (h:Hd q→p:=by
 intro kk
 refine zgo ?_
 refine a8 rfl ?_
 exact kk.o):p:=h ⟨k⟩
theorem vm6 {p q:Prop} (k:q) (h:Hd q→p:=by
 intro kk
 refine vm5 ?_
 first | refine b6 rfl rfl (b8 G rfl rfl rfl rfl rfl (by omega) C3) ?_ | refine b6 rfl rfl (b8 G rfl rfl rfl rfl rfl (by omega) (by omega)) ?_
 refine a8 rfl ?_
 exact kk.o):p:=h ⟨k⟩
theorem vm7 {p q:Prop} (k:q) (h:Hd q→p:=by exact fun kk=>g9 G np rfl rfl rfl rfl rfl rfl rfl rfl rfl F3 rfl rfl kk.o):p:=h ⟨k⟩
theorem vm8 {p q:Prop} (k:q) (h:Hd q→p:=by
 intro kk
 refine a8 rfl ?_
 refine b6 rfl rfl (S8 G rfl rfl rfl rfl rfl rfl u5 u5 u5 u5) ?_
 exact kk.o):p:=h ⟨k⟩
theorem vm9 {p q:Prop} (k:q) (h:Hd q→p:=by
 intro kk
 refine zgo ?_
 refine ⟨rfl,?_⟩
 exact kk.o):p:=h ⟨k⟩
theorem T5 {p q:Prop} (k:q) (h:Hd q→p:=by
 intro kk
 refine vm1 ?_
 refine a8 rfl ?_
 refine d8 G 2 rfl rfl rfl rfl rfl ?_
 exact kk.o):p:=h ⟨k⟩
theorem a9D {p q:Prop} (k:q) (h:Hd q→p:=by
 intro kk
 refine a8 rfl ?_
 first | refine b6 rfl rfl (x8 rfl rfl rfl rfl (by omega) (by omega)) ?_ | refine b6 rfl rfl (C5 rfl rfl rfl rfl) ?_
 exact kk.o):p:=h ⟨k⟩
theorem b94 {p q:Prop} (k:q) (h:Hd q→p:=by
 intro kk
 refine VStep.mk1 [0] 29 (.own 1) 1 (.row 182 2 []) [] rfl rfl rfl rfl rfl (fun b1 _ hbn=>g9 G N3 rfl rfl rfl rfl rfl rfl rfl rfl rfl H0 rfl rfl (b4 rfl)) b3 b3 b3 b3 ?_
 refine B3 ?_
 exact kk.o):p:=h ⟨k⟩
theorem b6m {p q:Prop} (k:q) (h:Hd q→p:=by
 intro kk
 refine m4 rfl ?_
 refine u9 rfl rfl (J8 rfl rfl rfl b5u) ?_
 exact kk.o):p:=h ⟨k⟩
theorem R6 {p q:Prop} (k:q) (h:Hd q→p:=by
 intro kk
 refine vm5 ?_
 refine b6 rfl rfl (z7 rfl rfl rfl rfl) ?_
 exact kk.o):p:=h ⟨k⟩
theorem b95 {p q:Prop} (k:q) (h:Hd q→p:=by
 intro kk
 refine vm6 ?_
 first | refine f8 G rfl rfl rfl rfl rfl (a1P (by omega)) rfl rfl rfl rfl rfl (Nat.le_of_ble_eq_true rfl) rfl ?_ | refine f8 G rfl rfl rfl rfl rfl (B4 (by omega) (by omega)) rfl rfl rfl rfl rfl (Nat.le_of_ble_eq_true rfl) rfl ?_ | refine f8 G rfl rfl rfl rfl rfl (B4 (by omega) C3) rfl rfl rfl rfl rfl (Nat.le_of_ble_eq_true rfl) rfl ?_
 exact kk.o):p:=h ⟨k⟩
theorem b13 {p q:Prop} (k:q) (h:Hd q→p:=by exact fun kk=>b6 rfl rfl (J8 rfl rfl rfl b5u) kk.o):p:=h ⟨k⟩
theorem o9 {p q:Prop} (k:q) (h:Hd q→p:=by exact fun kk=>a8 rfl kk.o):p:=h ⟨k⟩
theorem G3 {p q:Prop} (k:q) (h:Hd q→p:=by
 intro kk
 refine l6 b3 ?_
 refine znk ?_
 exact kk.o):p:=h ⟨k⟩
theorem c3T {p q:Prop} (k:q) (h:Hd q→p:=by
 intro kk
 refine i1 [1,2,5,6] rfl rfl ?_
 refine vm9 ?_
 first | refine e9 5 rfl b3 b3 rfl rfl rfl rfl (b8 G rfl rfl rfl rfl rfl (by omega) (by omega)) ?_ | refine e9 5 rfl b3 b3 rfl rfl rfl rfl (b8 G rfl rfl rfl rfl rfl (by omega) C3) ?_
 first | refine e9 6 rfl b3 b3 rfl rfl rfl rfl (d3 G rfl rfl rfl rfl (a1P (by omega)) rfl) ?_ | refine e9 6 rfl b3 b3 rfl rfl rfl rfl (d3 G rfl rfl rfl rfl (a0f (by omega) (by omega)) rfl) ?_ | refine e9 6 rfl b3 b3 rfl rfl rfl rfl (d3 G rfl rfl rfl rfl (B4 (by omega) (by omega)) rfl) ?_ | refine e9 6 rfl b3 b3 rfl rfl rfl rfl (d3 G rfl rfl rfl rfl (B4 (by omega) C3) rfl) ?_
 exact kk.o):p:=h ⟨k⟩
theorem b96 {p q:Prop} (k:q) (h:Hd q→p:=by
 intro kk
 refine VStep.mk1 [0] 21 (.own 1) 1 (.row 182 2 []) [] rfl rfl rfl rfl rfl (fun b1 _ hbn=>g9 G N3 rfl rfl rfl rfl rfl rfl rfl rfl rfl C3 rfl rfl (b4 rfl)) b3 b3 b3 b3 ?_
 refine B3 ?_
 exact kk.o):p:=h ⟨k⟩
theorem c3U {p q:Prop} (k:q) (h:Hd q→p:=by
 intro kk
 refine zgo ?_
 refine a2Z rfl rfl rfl ?_
 first | refine u9 rfl rfl (b8 G rfl rfl rfl rfl rfl (by omega) V2) ?_ | refine u9 rfl rfl (b8 G rfl rfl rfl rfl rfl (by omega) V0) ?_ | refine u9 rfl rfl (b8 G rfl rfl rfl rfl rfl (by omega) U9) ?_
 refine a2Z rfl rfl rfl ?_
 first | refine u9 rfl rfl (d3 G rfl rfl rfl rfl (w4 (by omega)) rfl) ?_ | refine u9 rfl rfl (d3 G rfl rfl rfl rfl (x3 (by omega) (by omega)) rfl) ?_ | refine u9 rfl rfl (d3 G rfl rfl rfl rfl (x9 (by omega) (by omega)) rfl) ?_
 exact kk.o):p:=h ⟨k⟩
theorem c3V {p q:Prop} (k:q) (h:Hd q→p:=by
 intro kk
 refine vm5 ?_
 first | refine b6 rfl rfl (b8 G rfl rfl rfl rfl rfl (by omega) (by omega)) ?_ | refine b6 rfl rfl (b8 G rfl rfl rfl rfl rfl (by omega) C3) ?_
 refine o9 ?_
 first | refine f8 G rfl rfl rfl rfl rfl (a1P (by omega)) rfl rfl rfl rfl rfl (Nat.le_of_ble_eq_true rfl) rfl ?_ | refine f8 G rfl rfl rfl rfl rfl (a0f (by omega) (by omega)) rfl rfl rfl rfl rfl (Nat.le_of_ble_eq_true rfl) rfl ?_ | refine f8 G rfl rfl rfl rfl rfl (B4 (by omega) (by omega)) rfl rfl rfl rfl rfl (Nat.le_of_ble_eq_true rfl) rfl ?_ | refine f8 G rfl rfl rfl rfl rfl (B4 (by omega) C3) rfl rfl rfl rfl rfl (Nat.le_of_ble_eq_true rfl) rfl ?_
 exact kk.o):p:=h ⟨k⟩
theorem b8P {p q:Prop} (k:q) (h:Hd q→p:=by
 intro kk
 refine d4 ?_
 refine o9 ?_
 refine b6 rfl rfl (l5 G rfl rfl rfl rfl) ?_
 refine o9 ?_
 refine b6 rfl rfl (a5w (n9 G rfl rfl rfl rfl rfl rfl rfl)) ?_
 refine o9 ?_
 refine b6 rfl rfl (e6 rfl rfl) ?_
 refine o9 ?_
 exact kk.o):p:=h ⟨k⟩
theorem c2F {p q:Prop} (k:q) (h:Hd q→p:=by
 intro kk
 refine vm5 ?_
 first | refine b6 rfl rfl (s8 G rfl rfl rfl rfl rfl (by omega) a1z) ?_ | refine b6 rfl rfl (s8 G rfl rfl rfl rfl rfl (by omega) H8) ?_ | refine b6 rfl rfl (s8 G rfl rfl rfl rfl rfl (by omega) (by omega)) ?_
 refine o9 ?_
 exact kk.o):p:=h ⟨k⟩
theorem a0x {p q:Prop} (k:q) (h:Hd q→p:=by
 intro kk
 refine zgn ?_
 refine c6 ?_
 refine H1 rfl ?_
 refine c1 ?_
 exact kk.o):p:=h ⟨k⟩
theorem c2G {p q:Prop} (k:q) (h:Hd q→p:=by
 intro kk
 refine VStep.mk1 [0,1] 3 (.ptr 6 0) 6 (.box (avR [.slice none 0 0,.slice none 0 0,.slice none 0 0,.slice none 0 0] [])) [] rfl rfl rfl rfl rfl (fun b1 _ hbn=>j7 G rfl rfl rfl rfl rfl rfl rfl rfl rfl rfl rfl (b4 rfl)) b3 b3 b3 b3 ?_
 refine B3 ?_
 exact kk.o):p:=h ⟨k⟩
theorem a32 {p q:Prop} (k:q) (h:Hd q→p:=by
 intro kk
 refine vm5 ?_
 refine b6 rfl rfl (j9 G rfl rfl rfl) ?_
 exact kk.o):p:=h ⟨k⟩
theorem c2H {p q:Prop} (k:q) (h:Hd q→p:=by
 intro kk
 refine VStep.mk1 [0] 7 (.own 3) 3 (.row 182 2 []) [] rfl rfl rfl rfl rfl (fun b1 _ hbn=>g9 G N3 rfl rfl rfl rfl rfl rfl rfl rfl rfl C3 rfl rfl (b4 rfl)) b3 b3 b3 b3 ?_
 refine B3 ?_
 exact kk.o):p:=h ⟨k⟩
theorem a3x {p q:Prop} (k:q) (h:Hd q→p:=by
 intro kk
 refine vm5 ?_
 refine d8 G 1 rfl rfl rfl rfl rfl ?_
 exact kk.o):p:=h ⟨k⟩
theorem c2I {p q:Prop} (k:q) (h:Hd q→p:=by
 intro kk
 refine a2Z rfl rfl rfl ?_
 first | refine u9 rfl rfl (I1 G rfl rfl rfl rfl rfl (by omega) (by omega) (by omega)) ?_ | refine u9 rfl rfl (I1 G rfl rfl rfl rfl rfl (by omega) a4l a4l) ?_
 exact kk.o):p:=h ⟨k⟩
theorem a1e {p q:Prop} (k:q) (h:Hd q→p:=by
 intro kk
 refine zsa 0 ?_
 refine zsa 1 ?_
 refine zsa 2 ?_
 refine zsa 3 ?_
 exact kk.o):p:=h ⟨k⟩
theorem b4d {p q:Prop} (k:q) (h:Hd q→p:=by
 intro kk
 refine vm1 ?_
 refine o9 ?_
 refine B0 2 rfl rfl rfl rfl rfl rfl rfl ?_
 refine o9 ?_
 refine d8 G 3 rfl rfl rfl rfl rfl ?_
 exact kk.o):p:=h ⟨k⟩
theorem c3W {p q:Prop} (k:q) (h:Hd q→p:=by
 intro kk
 refine vm1 ?_
 refine vm5 ?_
 refine s2 G 2 rfl rfl rfl rfl rfl rfl rfl rfl ?_
 refine vm5 ?_
 refine g9 G np rfl rfl rfl rfl rfl rfl rfl rfl rfl C3 rfl rfl ?_
 refine vm5 ?_
 refine b6 rfl rfl (b8 G rfl rfl rfl rfl rfl (by omega) C3) ?_
 refine o9 ?_
 first | refine f8 G rfl rfl rfl rfl rfl (a0f (by omega) (by omega)) rfl rfl rfl rfl rfl (Nat.le_of_ble_eq_true rfl) rfl ?_ | refine f8 G rfl rfl rfl rfl rfl (by simp;exact ⟨by omega,rfl⟩) rfl rfl rfl rfl rfl (Nat.le_of_ble_eq_true rfl) rfl ?_
 refine zfo ?_
 exact kk.o):p:=h ⟨k⟩
theorem b4e {p q:Prop} (k:q) (h:Hd q→p:=by exact fun kk=>b6 rfl rfl (S3 G rfl rfl rfl rfl (by omega) (by omega)) kk.o):p:=h ⟨k⟩
theorem c2J {p q:Prop} (k:q) (h:Hd q→p:=by
 intro kk
 first | refine b6 rfl rfl (b2L G rfl rfl rfl rfl (b60 (by omega) (by omega))) ?_ | refine b6 rfl rfl (b2L G rfl rfl rfl rfl (b9i (by omega) (by omega))) ?_ | refine b6 rfl rfl (a8A G rfl rfl rfl rfl) ?_
 exact kk.o):p:=h ⟨k⟩
theorem b97 {p q:Prop} (k:q) (h:Hd q→p:=by
 intro kk
 first | refine u9 rfl rfl (x8 rfl rfl rfl rfl (by omega) (by omega)) ?_ | refine u9 rfl rfl (C5 rfl rfl rfl rfl) ?_
 iterate 2 refine zst ?_
 exact kk.o):p:=h ⟨k⟩
theorem c2K {p q:Prop} (k:q) (h:Hd q→p:=by
 intro kk
 refine d4 ?_
 refine o9 ?_
 refine b6 rfl rfl (e6 rfl rfl) ?_
 refine o9 ?_
 refine b6 rfl rfl (l5 G rfl rfl rfl rfl) ?_
 refine o9 ?_
 refine b6 rfl rfl (n9 G rfl rfl rfl rfl rfl rfl rfl) ?_
 refine o9 ?_
 refine b6 rfl rfl (v8 G rfl rfl rfl rfl) ?_
 refine o9 ?_
 exact kk.o):p:=h ⟨k⟩
theorem c2L {p q:Prop} (k:q) (h:Hd q→p:=by
 intro kk
 refine e9 6 rfl b3 b3 rfl rfl rfl rfl (J8 rfl rfl rfl b5u) ?_
 refine zsa 7 ?_
 exact kk.o):p:=h ⟨k⟩
theorem c2M {p q:Prop} (k:q) (h:Hd q→p:=by
 intro kk
 refine b6 rfl rfl (e6 rfl rfl) ?_
 refine o9 ?_
 refine b6 rfl rfl (n8 rfl rfl rfl) ?_
 refine o9 ?_
 refine b6 rfl rfl (n8 rfl rfl rfl) ?_
 refine o9 ?_
 refine b6 rfl rfl (d6 rfl rfl) ?_
 refine o9 ?_
 refine b6 rfl rfl (d6 rfl rfl) ?_
 refine b4 ?_
 exact kk.o):p:=h ⟨k⟩
theorem b6n {p q:Prop} (k:q) (h:Hd q→p:=by
 intro kk
 refine vm5 ?_
 refine b6 rfl rfl (b1g rfl rfl (ArgsOK.of rfl) rfl (hf _ (by omega)) rfl) ?_
 exact kk.o):p:=h ⟨k⟩
theorem c2N {p q:Prop} (k:q) (h:Hd q→p:=by
 intro kk
 first | refine b6 rfl rfl (j6 G rfl rfl rfl rfl rfl (a1P (by omega)) rfl) ?_ | refine b6 rfl rfl (j6 G rfl rfl rfl rfl rfl (B4 (by omega) (by omega)) rfl) ?_
 exact kk.o):p:=h ⟨k⟩
theorem c2O {p q:Prop} (k:q) (h:Hd q→p:=by
 intro kk
 refine zgn ?_
 refine H6 (Gh.close (id:=6) (id':=9) (i:=(tgM m i)) (k:=1) rfl rfl (a2T H8 rfl) (fun q h=>by cases h) rfl) ?_
 refine zgo ?_
 exact kk.o):p:=h ⟨k⟩
theorem b14 {p q:Prop} (k:q) (h:Hd q→p:=by
 intro kk
 refine vm5 ?_
 refine s2 G 1 rfl rfl rfl rfl rfl rfl rfl rfl ?_
 exact kk.o):p:=h ⟨k⟩
theorem b3r {p q:Prop} (k:q) (h:Hd q→p:=by
 intro kk
 refine d4 ?_
 refine o9 ?_
 refine B0 1 rfl rfl rfl rfl rfl rfl rfl ?_
 exact kk.o):p:=h ⟨k⟩
theorem b98 {p q:Prop} (k:q) (h:Hd q→p:=by
 intro kk
 refine vm5 ?_
 refine d7 2 rfl rfl rfl (ArgsOK.of rfl) (a2M sl _ ⟨_,_,_⟩ (by omega) (by omega)) rfl rfl ?_
 refine zgo ?_
 exact kk.o):p:=h ⟨k⟩
theorem a18 {p q:Prop} (k:q) (h:Hd q→p:=by
 intro kk
 iterate 2 refine zst ?_
 exact kk.o):p:=h ⟨k⟩
theorem a7O {p q:Prop} (k:q) (h:Hd q→p:=by
 intro kk
 refine i1 [0,1,2,3,4] rfl rfl ?_
 refine vm9 ?_
 exact kk.o):p:=h ⟨k⟩
theorem b8Q {p q:Prop} (k:q) (h:Hd q→p:=by
 intro kk
 refine vm5 ?_
 refine b6 rfl rfl (N7 G rfl rfl rfl rfl rfl (by omega) (by omega) (by omega)) ?_
 exact kk.o):p:=h ⟨k⟩
theorem b15 {p q:Prop} (k:q) (h:Hd q→p:=by exact fun kk=>b6 rfl rfl (a0G G rfl rfl rfl rfl) kk.o):p:=h ⟨k⟩
theorem c2P {p q:Prop} (k:q) (h:Hd q→p:=by exact fun kk=>b6 rfl rfl (a6E G rfl rfl rfl rfl rfl rfl (by omega) b5w b5w) kk.o):p:=h ⟨k⟩
theorem b99 {p q:Prop} (k:q) (h:Hd q→p:=by
 intro kk
 refine o9 ?_
 refine j7 G rfl rfl rfl rfl rfl rfl rfl rfl rfl rfl rfl ?_
 refine o9 ?_
 refine b6 rfl rfl (d6 rfl rfl) ?_
 refine b4 ?_
 exact kk.o):p:=h ⟨k⟩
theorem c3X {p q:Prop} (k:q) (h:Hd q→p:=by
 intro kk
 refine VStep.mk1 [0,1,2,3,4] 6 (.ptr 5 0) 5 (.box (avR [.int .i64 0,.slice none 0 0,.slice none 0 0,.slice none 0 0] [])) [] rfl rfl rfl rfl rfl (fun b1 _ hbn=>j7 G rfl rfl rfl rfl rfl rfl rfl rfl rfl rfl rfl (b4 rfl)) b3 b3 b3 b3 ?_
 refine B3 ?_
 exact kk.o):p:=h ⟨k⟩
theorem c3Y {p q:Prop} (k:q) (h:Hd q→p:=by
 intro kk
 refine vm5 ?_
 refine b4e ?_
 refine o9 ?_
 first | refine b6 rfl rfl (b0t G rfl rfl rfl rfl (by omega) (by omega)) ?_ | refine b6 rfl rfl (a8A G rfl rfl rfl rfl) ?_
 exact kk.o):p:=h ⟨k⟩
theorem a2U {p q:Prop} (k:q) (h:Hd q→p:=by
 intro kk
 refine i1 [0] rfl rfl ?_
 refine vm9 ?_
 exact kk.o):p:=h ⟨k⟩
theorem a94 {p q:Prop} (k:q) (h:Hd q→p:=by
 intro kk
 refine d4 ?_
 iterate 3 refine zst ?_
 exact kk.o):p:=h ⟨k⟩
theorem a0P {p q:Prop} (k:q) (h:Hd q→p:=by exact fun kk=>u6 rfl rfl rfl kk.o):p:=h ⟨k⟩
theorem c3Z {p q:Prop} (k:q) (h:Hd q→p:=by
 intro kk
 refine VStep.mk1 [0,1] 5 (.ptr 2 0) 2 (.box (avR [.slice none 0 0,.slice none 0 0] [])) [] rfl rfl rfl rfl rfl (fun b1 _ hbn=>j7 G rfl rfl rfl rfl rfl rfl rfl rfl rfl rfl rfl (b4 rfl)) b3 b3 b3 b3 ?_
 refine B3 ?_
 exact kk.o):p:=h ⟨k⟩
theorem c30 {p q:Prop} (k:q) (h:Hd q→p:=by
 intro kk
 refine VStep.mk1 [0,1] 4 (.ptr 2 0) 2 (.box (avR [.slice none 0 0,.slice none 0 0] [])) [] rfl rfl rfl rfl rfl (fun b1 _ hbn=>j7 G rfl rfl rfl rfl rfl rfl rfl rfl rfl rfl rfl (b4 rfl)) b3 b3 b3 b3 ?_
 refine B3 ?_
 exact kk.o):p:=h ⟨k⟩
theorem a95 {p q:Prop} (k:q) (h:Hd q→p:=by exact fun kk=>d8 G 2 rfl rfl rfl rfl rfl kk.o):p:=h ⟨k⟩
theorem c31 {p q:Prop} (k:q) (h:Hd q→p:=by
 intro kk
 refine vm6 ?_
 first | refine f8 G rfl rfl rfl rfl rfl (a1P (by omega)) rfl rfl rfl rfl rfl (Nat.le_of_ble_eq_true rfl) rfl ?_ | refine f8 G rfl rfl rfl rfl rfl (B4 (by omega) (by omega)) rfl rfl rfl rfl rfl (Nat.le_of_ble_eq_true rfl) rfl ?_
 refine zgn ?_
 exact kk.o):p:=h ⟨k⟩
theorem c32 {p q:Prop} (k:q) (h:Hd q→p:=by
 intro kk
 refine zsa 0 ?_
 refine zsa 1 ?_
 refine zsa 2 ?_
 first | refine e9 3 rfl b3 b3 rfl rfl rfl rfl (x8 rfl rfl rfl rfl (by omega) (by omega)) ?_ | refine e9 3 rfl b3 b3 rfl rfl rfl rfl (C5 rfl rfl rfl rfl) ?_
 refine zsa 5 ?_
 refine zsa 6 ?_
 exact kk.o):p:=h ⟨k⟩
theorem c33 {p q:Prop} (k:q) (h:Hd q→p:=by
 intro kk
 refine zgn ?_
 refine u4 ?_
 refine d4 ?_
 refine zst ?_
 refine o9 ?_
 first | refine b6 rfl rfl (a1D G rfl rfl rfl rfl (show List.length [_]=1 from rfl)) ?_ | refine b6 rfl rfl (a1D G rfl rfl rfl rfl (List.length_map _)) ?_ | refine b6 rfl rfl (a4e G rfl rfl rfl rfl) ?_
 refine zgn ?_
 refine zgn ?_
 exact kk.o):p:=h ⟨k⟩
theorem c34 {p q:Prop} (k:q) (h:Hd q→p:=by
 intro kk
 refine a1e ?_
 refine zsa 4 ?_
 first | refine e9 5 rfl b3 b3 rfl rfl rfl rfl (x8 rfl rfl rfl rfl (by omega) (by omega)) ?_ | refine e9 5 rfl b3 b3 rfl rfl rfl rfl (C5 rfl rfl rfl rfl) ?_
 exact kk.o):p:=h ⟨k⟩
theorem b4f {p q:Prop} (k:q) (h:Hd q→p:=by exact fun kk=>s2 G 2 rfl rfl rfl rfl rfl rfl rfl rfl kk.o):p:=h ⟨k⟩
theorem c2Q {p q:Prop} (k:q) (h:Hd q→p:=by
 intro kk
 refine vm5 ?_
 refine d7 2 rfl rfl rfl (ArgsOK.of rfl) (P8 sl _ ⟨_,_,_⟩ (by omega) (by omega)) rfl rfl ?_
 refine zgo ?_
 exact kk.o):p:=h ⟨k⟩
theorem c0a {p q:Prop} (k:q) (h:Hd q→p:=by exact fun kk=>g9 G np rfl rfl rfl rfl rfl rfl rfl rfl rfl C3 rfl rfl kk.o):p:=h ⟨k⟩
theorem c35 {p q:Prop} (k:q) (h:Hd q→p:=by
 intro kk
 refine vm5 ?_
 refine d7 2 rfl rfl rfl (ArgsOK.of rfl) (b16 (a6X sl i) _ (by have:=@a5V sl i;have:=@a0m sl i;omega) (fun x hx=>b9J hF (by omega) (x7.mpr (by omega)) hx)) rfl rfl ?_
 refine zgn ?_
 refine a94 ?_
 exact kk.o):p:=h ⟨k⟩
theorem b3s {p q:Prop} (k:q) (h:Hd q→p:=by exact fun kk=>d8 G 8 rfl rfl rfl rfl rfl kk.o):p:=h ⟨k⟩
theorem b6o {p q:Prop} (k:q) (h:Hd q→p:=by exact fun kk=>b6 rfl rfl (S2 G rfl rfl rfl rfl) kk.o):p:=h ⟨k⟩
theorem c36 {p q:Prop} (k:q) (h:Hd q→p:=by
 intro kk
 first | refine b6 rfl rfl (d3 G rfl rfl rfl rfl (a1P (by omega)) rfl) ?_ | refine b6 rfl rfl (d3 G rfl rfl rfl rfl (B4 (by omega) (by omega)) rfl) ?_
 refine o9 ?_
 exact kk.o):p:=h ⟨k⟩
theorem b3t {p q:Prop} (k:q) (h:Hd q→p:=by
 intro kk
 refine i1 [0,2,3,4] rfl rfl ?_
 refine vm9 ?_
 exact kk.o):p:=h ⟨k⟩
theorem b8R {p q:Prop} (k:q) (h:Hd q→p:=by
 intro kk
 refine vm1 ?_
 refine o9 ?_
 refine B0 2 rfl rfl rfl rfl rfl rfl rfl ?_
 exact kk.o):p:=h ⟨k⟩
theorem b4g {p q:Prop} (k:q) (h:Hd q→p:=by exact fun kk=>d8 G 6 rfl rfl rfl rfl rfl kk.o):p:=h ⟨k⟩
theorem b6p {p q:Prop} (k:q) (h:Hd q→p:=by
 intro kk
 refine i1 [0,1,2,3,4,10] rfl rfl ?_
 refine vm9 ?_
 exact kk.o):p:=h ⟨k⟩
theorem c2R {p q:Prop} (k:q) (h:Hd q→p:=by exact fun kk=>b6 rfl rfl (j6 G rfl rfl rfl rfl rfl (B4 (by omega) C3) rfl) kk.o):p:=h ⟨k⟩
theorem c2S {p q:Prop} (k:q) (h:Hd q→p:=by
 intro kk
 refine a1Y (Gh.nest (id:=5) (yss:=[]) rfl rfl (by intro _ _ _ h;simp at h)) ?_
 refine G3 ?_
 refine zgo ?_
 exact kk.o):p:=h ⟨k⟩
theorem a96 {p q:Prop} (k:q) (h:Hd q→p:=by exact fun kk=>zcl (a0s _ _ _) kk.o):p:=h ⟨k⟩
theorem b17 {p q:Prop} (k:q) (h:Hd q→p:=by exact fun kk=>zcl (a4m _ _ _) kk.o):p:=h ⟨k⟩
theorem a1f {p q:Prop} (k:q) (h:Hd q→p:=by
 intro kk
 refine zsa 5 ?_
 refine zsa 6 ?_
 exact kk.o):p:=h ⟨k⟩
theorem b8S {p q:Prop} (k:q) (h:Hd q→p:=by exact fun kk=>s2 G 3 rfl rfl rfl rfl rfl rfl rfl rfl kk.o):p:=h ⟨k⟩
theorem b6q {p q:Prop} (k:q) (h:Hd q→p:=by
 intro kk
 refine i1 [1,2,3,4,7] rfl rfl ?_
 refine vm9 ?_
 exact kk.o):p:=h ⟨k⟩
theorem c38 {p q:Prop} (k:q) (h:Hd q→p:=by
 intro kk
 refine zgd ?_
 refine zcl (y7 (sl.getD i default).q (by omega) (by omega)) ?_
 refine b6m ?_
 refine b6m ?_
 refine zcl (y7 (sl.getD i default).p (by omega) (by omega)) ?_
 refine b6m ?_
 refine zgo ?_
 exact kk.o):p:=h ⟨k⟩
theorem c39 {p q:Prop} (k:q) (h:Hd q→p:=by
 intro kk
 refine c3Y ?_
 refine vm5 ?_
 first | refine b6 rfl rfl (a6y rfl rfl rfl (by omega) (by omega)) ?_ | refine b6 rfl rfl (b4j rfl rfl rfl (by omega)) ?_
 refine zgo ?_
 exact kk.o):p:=h ⟨k⟩
theorem b3u {p q:Prop} (k:q) (h:Hd q→p:=by
 intro kk
 refine i1 [1,2] rfl rfl ?_
 refine vm9 ?_
 exact kk.o):p:=h ⟨k⟩
theorem a33 {p q:Prop} (k:q) (h:Hd q→p:=by
 intro kk
 refine u4 ?_
 refine d4 ?_
 exact kk.o):p:=h ⟨k⟩
theorem b6r {p q:Prop} (k:q) (h:Hd q→p:=by
 intro kk
 refine i1 [1,2,5,6] rfl rfl ?_
 refine vm9 ?_
 exact kk.o):p:=h ⟨k⟩
theorem b8T {p q:Prop} (k:q) (h:Hd q→p:=by
 intro kk
 refine u4 ?_
 refine a4Y mixed b3 ?_
 exact kk.o):p:=h ⟨k⟩
theorem c0b {p q:Prop} (k:q) (h:Hd q→p:=by exact fun kk=>b6 rfl rfl (a1p G rfl rfl rfl rfl) kk.o):p:=h ⟨k⟩
theorem H3 {p q:Prop} (k:q) (h:Hd q→p:=by
 intro kk
 refine zwt ?_
 refine zf1 ?_
 exact kk.o):p:=h ⟨k⟩
theorem a97 {p q:Prop} (k:q) (h:Hd q→p:=by exact fun kk=>a2Z rfl rfl rfl kk.o):p:=h ⟨k⟩
end Go.Rf
