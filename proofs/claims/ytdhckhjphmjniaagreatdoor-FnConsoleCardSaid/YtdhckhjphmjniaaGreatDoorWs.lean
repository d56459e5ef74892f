/- Ends of walks that are said again. -/
import Derived.Test.YtdhckhjphmjniaaGreatDoorMac
set_option linter.unusedSimpArgs false
set_option linter.unusedVariables false
namespace Go.Rf
variable {p:Prop}
theorem b2l (h:p:=by
 refine zgo ?_
 refine d8 (p4 Z Z Z Z (b3 (c7 Z ?_) (b3 (c7 Z ?_) (b3 (c7 Z ?_) (b3 (A1 Z ?_) (b3 (j4 ?_) (b3 (j4 ?_) (b3 (j4 ?_) (b3 (j4 ?_) d9)))))))))
 all_goals (first | (rw [hO];done) | (rw [hO];rfl))
):p:=h
theorem ws1 (h:p:=by
 refine zgo ?_
 refine a7 Z (b5 Z Z (i7 Z (ArgsOK.of Z) (t8 x ⟨s,_⟩ hx ⟨by show s.size<=_;omega,by first | exact P7 (by decide) | exact N5 J | exact N5 (Int.ofNat_le.1 hrs)⟩) Z) ?_)
 exact b2l
):p:=h
theorem a5Q (h:p:=by
 exact E5 Y (Meet.mk Z Z Z Z)
):p:=h
theorem ws2 (h:p:=by
 first | refine f7 [] Z Z (b5 Z Z (f6 G Z Z Z Z (a0B J) Z) (b4 ⟨Z,?_⟩)) | refine f7 [] Z Z (b5 Z Z (f6 G Z Z Z Z (a05 J J) Z) (b4 ⟨Z,?_⟩)) | refine f7 [] Z Z (b5 Z Z (f6 G Z Z Z Z (a11 J J) Z) (b4 ⟨Z,?_⟩))
 refine b6 (rs:=[14]) a8 Z (AllB.cons ?_ AllB.nil)
 first | refine f7 [] Z Z (b5 Z Z (c8 G Z Z Z Z Z J a8X) (b4 ⟨Z,?_⟩)) | refine f7 [] Z Z (b5 Z Z (c8 G Z Z Z Z Z J a8W) (b4 ⟨Z,?_⟩)) | refine f7 [] Z Z (b5 Z Z (c8 G Z Z Z Z Z J a8V) (b4 ⟨Z,?_⟩))
 refine b6 (rs:=[15]) a8 Z (AllB.cons ?_ AllB.nil)
 first | refine f7 [] Z Z (l8 G Z Z Z Z Z (a0B J) Z Z Z Z Z (Nat.le_of_ble_eq_true Z) Z (b4 ⟨Z,?_⟩)) | refine f7 [] Z Z (l8 G Z Z Z Z Z (a05 J J) Z Z Z Z Z (Nat.le_of_ble_eq_true Z) Z (b4 ⟨Z,?_⟩)) | refine f7 [] Z Z (l8 G Z Z Z Z Z (a11 J J) Z Z Z Z Z (Nat.le_of_ble_eq_true Z) Z (b4 ⟨Z,?_⟩))
 refine b6 (rs:=[16]) a8 Z (AllB.cons ?_ AllB.nil)
 first | refine f7 [] Z Z (b5 Z Z (c8 G Z Z Z Z Z J a8X) (b4 ⟨Z,?_⟩)) | refine f7 [] Z Z (b5 Z Z (c8 G Z Z Z Z Z J a8W) (b4 ⟨Z,?_⟩)) | refine f7 [] Z Z (b5 Z Z (c8 G Z Z Z Z Z J a8V) (b4 ⟨Z,?_⟩))
 refine b6 (rs:=[17]) a8 Z (AllB.cons ?_ AllB.nil)
 first | refine f7 [] Z Z (l8 G Z Z Z Z Z (a0B J) Z Z Z Z Z (Nat.le_of_ble_eq_true Z) Z (b4 ⟨Z,?_⟩)) | refine f7 [] Z Z (l8 G Z Z Z Z Z (a05 J J) Z Z Z Z Z (Nat.le_of_ble_eq_true Z) Z (b4 ⟨Z,?_⟩)) | refine f7 [] Z Z (l8 G Z Z Z Z Z (a11 J J) Z Z Z Z Z (Nat.le_of_ble_eq_true Z) Z (b4 ⟨Z,?_⟩))
 exact a5Q
):p:=h
theorem ws4 (h:p:=by
 intro r0
 refine c8R ?_
 refine A4 (N:=1) Z (s7 (fuel:=5) [⟨0,33,0,false,.row 3 1 []⟩] (AllVOK.cons (VOK.lit G Z Z Z Z Z) (AllVOK.nil)) (λhok=>?_))
 refine n6 [(4,[0]),(6,[])] a8 a8 (λe he=>hok e he) a8 (AllVS.cons ?_ (AllVS.cons ?_ AllVS.nil))
 ·refine c8V ?_
  clear hok
  refine b6 (rs:=[6]) a8 Z (AllB.cons ?_ AllB.nil)
  refine f8 [] Z Z (o8 G 2 Z Z Z Z Z Z Z Z (b4 ⟨Z,?_⟩))
  refine b6 (rs:=[7]) a8 Z (AllB.cons ?_ AllB.nil)
  refine f8 [] Z Z (j8 G X9 Z Z Z Z Z Z Z Z Z a5N Z Z (b4 ⟨Z,?_⟩))
  refine b6 (rs:=[11]) a8 Z (AllB.cons ?_ AllB.nil)
  refine f8 [] Z Z (j8 G X9 Z Z Z Z Z Z Z Z Z a5N Z Z (b4 ⟨Z,?_⟩))
  refine zsa 12 ?_
  exact a5Q
 refine VStep.mk0 [] Z Z (λb1 _ hbn=>o8 G 2 Z Z Z Z Z Z Z Z (b4 Z)) a8 a8 a8 a8 (n6 [(4,[0])] a8 a8 (λe he=>hok e he) a8 (AllVS.cons ?_ AllVS.nil))
 refine c8V ?_
 clear hok
 refine b6 (rs:=[7]) a8 Z (AllB.cons ?_ AllB.nil)
 refine f8 [] Z Z (j8 G X9 Z Z Z Z Z Z Z Z Z a5N Z Z (b4 ⟨Z,?_⟩))
 refine b6 (rs:=[11]) a8 Z (AllB.cons ?_ AllB.nil)
 refine f8 [] Z Z (j8 G X9 Z Z Z Z Z Z Z Z Z a5N Z Z (b4 ⟨Z,?_⟩))
 refine zsa 12 ?_
 exact E5 a8 (Meet.mk Z Z Z Z)
):p:=h
theorem ws5 (h:p:=by
 refine zf1 ?_
 all_goals exact c8L
):p:=h
theorem B0 (h:p:=by
 exact ⟨⟨_,Z,by (first | rfl | (simp;done) | (simp;omega))⟩,Z,trivial⟩
):p:=h
theorem c0y (h:p:=by
 refine zgo ?_
 refine ⟨(i+1),?_,?_,⟨⟨_,Z,by rfl⟩,Z,trivial⟩,trivial,Z,Z,Z⟩
 ·exact ⟨by omega,s2 hinv.2 j5⟩
 omega
):p:=h
theorem ws6 (h:p:=by
 refine zgo ?_
 refine g9 [0,1,7] [] (λ(i:Nat)=>[(8,.v (.int .i64 (i:Int)))]) (λ(i:Nat)=>[]) (λ(i:Nat)=>i<=xs.length/\∀j,j < i→p (xs.getD j default)=false) (λ(i:Nat)=>xs.length - i) 0 Z Z ?_ ?_ ?_ ?_
 ·exact ⟨Nat.zero_le _,λj hj=>by omega⟩
 ·exact B0
 ·exact trivial
 intro i hinv
 refine vm2 ?_
 refine zcd (λk0=>?_) (λk0=>?_)
 ·refine vm3 ?_
  refine b5 Z Z (b2x Z Z (ArgsOK.of Z) Z (hf _ J) Z) ?_
  refine zcd (λk1=>?_) (λk1=>?_)
  ·refine zf1 ?_
   all_goals exact c8M
  exact c0y
 refine zf1 ?_
 all_goals exact c8M
):p:=h
theorem ws7 (h:p:=by
 refine zgo ?_
 refine ⟨(i+1),?_,?_,⟨⟨_,Z,by (first | rfl | (rw [a2m (a5p j5)];done) | (rw [a2l (a5q J j5)];done) | (rw [a2l ((a4z J J).trans (by simp_all [wOf]))];done) | (rw [a2m ((a4z J J).trans (by simp_all [wOf]))];done))⟩,Z,⟨⟨_,Z,by (first | rfl | (rw [a2m (a5p j5)];done) | (rw [a2l (a5q J j5)];done) | (rw [a2l ((a4z J J).trans (by simp_all [wOf]))];done) | (rw [a2m ((a4z J J).trans (by simp_all [wOf]))];done))⟩,Z,trivial⟩⟩,trivial,Z,Z,Z⟩
 ·omega
 omega
):p:=h
theorem ws8 (h:p:=by
 refine zgo ?_
 refine ⟨(i+1),?_,?_,⟨⟨_,Z,by first | rfl | (rw [b2O j5 j5 j5];done) | (rw [a5n (by simp_all;done)];done) | (rw [a5n (by simp_all;omega)];done)⟩,Z,⟨⟨_,Z,by first | rfl | (rw [b2O j5 j5 j5];done) | (rw [a5n (by simp_all;done)];done) | (rw [a5n (by simp_all;omega)];done)⟩,Z,⟨⟨_,Z,by first | rfl | (rw [b2O j5 j5 j5];done) | (rw [a5n (by simp_all;done)];done) | (rw [a5n (by simp_all;omega)];done)⟩,Z,trivial⟩⟩⟩,trivial,Z,Z,Z⟩
 ·omega
 omega
):p:=h
theorem ws9 (h:p:=by
 refine zf1 ?_
 all_goals exact c8N
):p:=h
theorem c9b (h:p:=by
 intro r0
 refine c8R ?_
 refine A4 (N:=2) Z (s7 (fuel:=5) [⟨0,29,1,false,.row 76 2 []⟩] (AllVOK.cons (VOK.lit G Z Z Z Z Z) (AllVOK.nil)) (λhok=>?_))
 refine n6 [(4,[0]),(6,[])] a8 a8 (λe he=>hok e he) a8 (AllVS.cons ?_ (AllVS.cons ?_ AllVS.nil))
 ·refine c8U ?_
  clear hok
  refine b6 (rs:=[6]) a8 Z (AllB.cons ?_ AllB.nil)
  refine f8 [0] Z Z (o8 G 3 Z Z Z Z Z Z Z Z (b4 ⟨Z,?_⟩))
  refine b6 (rs:=[7]) a8 Z (AllB.cons ?_ AllB.nil)
  refine f8 [0] Z Z (j8 G X9 Z Z Z Z Z Z Z Z Z a5N Z Z (b4 ⟨Z,?_⟩))
  refine b6 (rs:=[11]) a8 Z (AllB.cons ?_ AllB.nil)
  refine f8 [0] Z Z (j8 G X9 Z Z Z Z Z Z Z Z Z a5N Z Z (b4 ⟨Z,?_⟩))
  refine zsa 12 ?_
  exact a5Q
 refine VStep.mk0 [0] Z Z (λb1 _ hbn=>o8 G 3 Z Z Z Z Z Z Z Z (b4 Z)) a8 a8 a8 a8 (n6 [(4,[0])] a8 a8 (λe he=>hok e he) a8 (AllVS.cons ?_ AllVS.nil))
 refine c8U ?_
 clear hok
 refine b6 (rs:=[7]) a8 Z (AllB.cons ?_ AllB.nil)
 refine f8 [0] Z Z (j8 G X9 Z Z Z Z Z Z Z Z Z a5N Z Z (b4 ⟨Z,?_⟩))
 refine b6 (rs:=[11]) a8 Z (AllB.cons ?_ AllB.nil)
 refine f8 [0] Z Z (j8 G X9 Z Z Z Z Z Z Z Z Z a5N Z Z (b4 ⟨Z,?_⟩))
 refine zsa 12 ?_
 exact E5 a8 (Meet.mk Z Z Z Z)
):p:=h
theorem c3X (h:p:=by
 refine b6 (rs:=[9]) a8 Z (AllB.cons ?_ AllB.nil)
 refine f7 [0,1,2,3,4] Z Z (I3 (Gh.forget (id:=6) (k:=3) Z Z)<|I3 (Gh.keep [0,1,2,3,4,5,6,10] Z)<|a1n (tx:=27) 12 rfl rfl rfl rfl rfl<|G2 G X9 rfl rfl rfl rfl rfl rfl rfl rfl rfl rfl J9 rfl rfl (b4 ⟨Z,?_⟩))
 refine zsa 10 ?_
 refine b6 (rs:=[11]) a8 Z (AllB.cons ?_ AllB.nil)
 refine f8 [0,1,2,3,4] Z Z ?_
 refine R9 ?_
 exact E5 a8 (Meet.mk Z Z Z Z)
):p:=h
theorem c3Y (h:p:=by
 refine b6 (rs:=[8]) a8 Z (AllB.cons ?_ AllB.nil)
 refine f8 [0,1,2,3,4] Z Z (A9 G 11 Z Z Z Z Z Z Z Z (.v Z (.own Z (.own Z (.own Z .nil)))) Z Z Z Z (b4 ⟨Z,?_⟩))
 exact c3X
):p:=h
theorem c9c (h:p:=by
 refine zgo ?_
 apply C6 [1,2,3,4] [0,1,2,3,4,6,11] 12 12 [0,1,2,3,4] mixed a8 Z Z (λ_ h=>znk h)
 ·intro r0
  refine zsa 0 ?_
  refine zsa 2 ?_
  refine zsa 3 ?_
  refine a8t ?_
  refine b6 (rs:=[1,7]) a8 Z (AllB.cons ?_ (AllB.cons ?_ AllB.nil))
  ·refine f8 [0,1,2,3,4] Z Z ?_
   refine R9 ?_
   refine b6 (rs:=[7]) a8 Z (AllB.cons ?_ AllB.nil)
   refine f8 [0,1,2,3,4] Z Z (d3 10 Z Z Z (ArgsOK.of Z) (a5R (m.cp.getD k default) J J J) Z Z (b4 ⟨Z,?_⟩))
   exact c3Y
  refine f8 [0,1,2,3,4] Z Z (d3 10 Z Z Z (ArgsOK.of Z) (a5R (m.cp.getD k default) J J J) Z Z (b4 ⟨Z,?_⟩))
  refine b6 (rs:=[1,8]) a8 Z (AllB.cons ?_ (AllB.cons ?_ AllB.nil))
  ·refine f8 [0,1,2,3,4] Z Z ?_
   refine R9 ?_
   exact c3Y
  refine f8 [0,1,2,3,4] Z Z (A9 G 11 Z Z Z Z Z Z Z Z (.v Z (.own Z (.own Z (.own Z .nil)))) Z Z Z Z (b4 ⟨Z,?_⟩))
  refine b6 (rs:=[1]) a8 Z (AllB.cons ?_ AllB.nil)
  refine f8 [0,1,2,3,4] Z Z ?_
  refine R9 ?_
  exact c3X
 refine a3K ?_
 refine s6 (Gh.sub 11 5 np Z Z Z) (b4 ⟨(k+1),?_,?_,⟨⟨_,Z,by rfl⟩,Z,trivial⟩,⟨⟨_,Z,by (exact congrArg (λz=>Row.nest _ _ z []) (b1X J Z))⟩,Z,Z,trivial⟩,Z,Z,Z⟩)
 ·omega
 omega
):p:=h
theorem c9d (h:p:=by
 refine m7 0 Z (λ_=>Z) (λu0=>?_)
 refine vm1 ?_
 refine vm9 ?_
 refine zgn ?_
 refine s5 (l1 10 [0] mixed a8 Z Z (λr0=>?_) (λ_ h=>h))
 refine zsa 1 ?_
 refine zsa 2 ?_
 refine zsa 5 ?_
 refine zsa 6 ?_
 refine A4 (N:=4) Z (s7 (fuel:=4) [⟨0,3,2,false,.row 104 3 []⟩,⟨4,7,3,false,.row 76 2 []⟩] (AllVOK.cons (VOK.lit G Z Z Z Z Z) (AllVOK.cons (VOK.lit G Z Z Z Z Z) (AllVOK.nil))) (λhok=>?_))
 refine n6 [(3,[0])] a8 a8 (λe he=>hok e he) a8 (AllVS.cons ?_ AllVS.nil)
 refine VStep.mk1 [0] 3 (.own 2) 2 (.row 104 3 []) [⟨4,7,3,false,.row 76 2 []⟩] Z Z Z Z Z (λb1 _ hbn=>j8 G S8 Z Z Z Z Z Z Z Z Z m8 Z Z (b4 Z)) a8 a8 a8 a8 (n6 [(7,[4])] a8 a8 (λe he=>hok e (vin (is:=[0]) Z he)) a8 (AllVS.cons ?_ AllVS.nil))
 refine VStep.mk1 [0] 7 (.own 3) 3 (.row 76 2 []) [] Z Z Z Z Z (λb1 _ hbn=>j8 G S8 Z Z Z Z Z Z Z Z Z m8 Z Z (b4 Z)) a8 a8 a8 a8 (G7 ?_)
 clear hok
 refine b6 (rs:=[8]) a8 Z (AllB.cons ?_ AllB.nil)
 refine b3r ?_
 refine b6 (rs:=[9]) a8 Z (AllB.cons ?_ AllB.nil)
 refine b3r ?_
 refine G9 ?_
 refine d8 (p4 Z Z Z Z (b3 (c7 Z ?_) (b3 (c7 Z ?_) d9)))
 all_goals (first | rfl | simp)
):p:=h
theorem a34 (h:p:=by
 refine zf1 ?_
 all_goals (first | rfl | (simp [R4, *];done) | (simp [R4, *];rfl) | (simp [R4, *,B3,X2];done))
):p:=h
theorem b78 (h:p:=by
 all_goals exact c6V
):p:=h
theorem b79 (h:p:=by
 refine zgo ?_
 refine d8 (z8 ((⟨_,_,_,_⟩,⟨_,_,_⟩)) (o7 Z (C4 Z Z) Z (AftOK.stays Z Z Z (AftOK.stays Z Z Z (AftOK.stays Z Z Z (AftOK.stays Z Z Z (AftOK.stays Z Z Z AftOK.nil)))))) ⟨?_,?_⟩)
 all_goals (try rcases x1 with ⟨_,_⟩)
 all_goals (try rcases x2 with ⟨_,_⟩)
 all_goals (try rcases x3 with ⟨_,_⟩)
 all_goals (try rcases x4 with ⟨_,_⟩)
 all_goals (try rcases x5 with ⟨_,_⟩)
 all_goals (try dsimp only at *)
 all_goals (first | trivial | exact hc2.mono J | omega)
):p:=h
theorem b7b (h:p:=by
 refine d8 (p4 Z Z Z Z (b3 (c7 Z ?_) (b3 (c7 Z ?_) (b3 (c7 Z ?_) (b3 (A1 Z ?_) (b3 (j4 ?_) (b3 (j4 ?_) d9)))))))
 all_goals (first | (rw [hS];done) | (rw [hS];(first | rfl | exact List.map_set.symm | exact c6m Z | (simp only [List.set_set,Int.toNat_natCast];exact c6m Z) | exact congrArg Value.bool (decide_eq_true J))))
):p:=h
theorem c9e (h:p:=by
 refine c8T ?_
 refine zgo ?_
 exact b7b
):p:=h
theorem b8a (h:p:=by
 refine zf1 ?_
 all_goals exact c8O
):p:=h
theorem b8b (h:p:=by
 refine zf1 ?_
 all_goals exact c3q
):p:=h
theorem c0z (h:p:=by
 refine a6o ?_
 all_goals exact c3r
):p:=h
theorem c9f (h:p:=by
 refine f8 [1] Z Z (b5 Z Z (a0y G Z Z Z Z Z Z w7 w7 w7 w7) (b4 ⟨Z,?_⟩))
 refine b6 (rs:=[8]) a8 Z (AllB.cons ?_ AllB.nil)
 refine f8 [1] Z Z (a5L G Z Z Z Z Z Z Z (vs:=(xs.map j6).drop i) (SrcOK.spare Z w7) (L:=xs.length - i) c3S (c1f Y0 J w7 (by rw [List.length_map]) (by rw [List.length_map])) (λc hc=>(hall c (List.mem_of_mem_drop hc)).2) (λc hc=>(hall c (List.mem_of_mem_drop hc)).1) w7 w7 (b4 ⟨Z,?_⟩))
 exact a5Q
):p:=h
theorem c3Z (h:p:=by
 refine zgo ?_
 refine ⟨(i+1),?_,?_,⟨⟨_,Z,by (first | rfl | (rw [c77 J J J];rfl) | (rw [c78 J J J];rfl) | (rw [c79 J J J];rfl) | (rw [c8a J J J];rfl))⟩,Z,⟨⟨_,Z,by (first | rfl | (rw [c77 J J J];rfl) | (rw [c78 J J J];rfl) | (rw [c79 J J J];rfl) | (rw [c8a J J J];rfl))⟩,Z,trivial⟩⟩,trivial,Z,Z,Z⟩
 ·omega
 omega
):p:=h
theorem c9g (h:p:=by
 refine c2s ?_
 refine p6 ?_
 refine b4I ?_
 refine zcd (λk0=>?_) (λk0=>?_)
 ·have hnm:=hF.nums (i:=i) J J
  refine zgd ?_
  refine zcl (y8 (sl.getD i default).q J J) ?_
  refine b71 ?_
  refine b71 ?_
  refine zcl (y8 (sl.getD i default).p J J) ?_
  refine b71 ?_
  exact c3Z
 exact c3Z
):p:=h
theorem c2y (h:p:=by
 refine zgo ?_
 refine ⟨(i+1),?_,?_,⟨⟨_,Z,by (first | rfl | (rw [a2m (a5p j5)];done) | (rw [a2l (a5q j5 j5)];done) | (rw [a2l ((b2Q hd J j5 J).trans (by simp_all))];done) | (rw [a2m ((b2Q hd J j5 J).trans (by simp_all))];done))⟩,Z,⟨⟨_,Z,by (first | rfl | (rw [a2m (a5p j5)];done) | (rw [a2l (a5q j5 j5)];done) | (rw [a2l ((b2Q hd J j5 J).trans (by simp_all))];done) | (rw [a2m ((b2Q hd J j5 J).trans (by simp_all))];done))⟩,Z,trivial⟩⟩,trivial,Z,Z,Z⟩
 ·omega
 omega
):p:=h
theorem c0A (h:p:=by
 refine zgo ?_
 refine ⟨(i+1),?_,?_,⟨⟨_,Z,by first | rfl | (rw [b2P j5 j5 J];done) | (rw [a5o (by simp_all;done)];done) | (rw [a5o (by simp_all;omega)];done)| (rw [a5o (λ_ _=>J)];done)⟩,Z,⟨⟨_,Z,by first | rfl | (rw [b2P j5 j5 J];done) | (rw [a5o (by simp_all;done)];done) | (rw [a5o (by simp_all;omega)];done)| (rw [a5o (λ_ _=>J)];done)⟩,Z,trivial⟩⟩,trivial,Z,Z,Z⟩
 ·omega
 omega
):p:=h
theorem c0B (h:p:=by
 refine zf1 ?_
 all_goals exact c3s
):p:=h
theorem b4O (h:p:=by
 refine zf1 ?_
 all_goals (first | (rw [b5v J];done) | (rw [b5w J J];done) | (rw [b5x J J];done) | (rw [b2S J J J];first | rfl | (exact congrArg Value.bool (by rw [Bool.eq_iff_iff,decide_eq_true_iff];exact c1s))) | rfl)
):p:=h
theorem c0C (h:p:=by
 refine zf1 ?_
 all_goals (first | (rw [a4J J];done) | (rw [a0M J];done) | (rw [a8n J];done) | (rw [a6k (by have:=@b3f w;omega)];done))
):p:=h
theorem c30 (h:p:=by
 refine b6 (rs:=[6]) a8 Z (AllB.cons ?_ AllB.nil)
 refine f8 [0] Z Z (J7 4 [1,2] Z Z Z (O7 wa w i J J) Z (RowsIn.cons Z (RowsIn.cons Z RowsIn.nil)) Z Z Z (b4 ⟨Z,?_⟩))
 refine zsa 7 ?_
 exact a5Q
):p:=h
theorem c9h (h:p:=by
 intro r0
 refine zsa 1 ?_
 refine zsa 3 ?_
 refine zsa 4 ?_
 refine A4 (N:=2) Z (s7 (fuel:=4) [⟨0,21,1,false,.row 76 2 []⟩] (AllVOK.cons (VOK.lit G Z Z Z Z Z) (AllVOK.nil)) (λhok=>?_))
 refine n6 [(2,[0]),(5,[])] a8 a8 (λe he=>hok e he) a8 (AllVS.cons ?_ (AllVS.cons ?_ AllVS.nil))
 ·refine c8X ?_
  clear hok
  refine b6 (rs:=[5]) a8 Z (AllB.cons ?_ AllB.nil)
  refine f8 [0] Z Z (o8 G 3 Z Z Z Z Z Z Z Z (b4 ⟨Z,?_⟩))
  exact c30
 refine VStep.mk0 [0] Z Z (λb1 _ hbn=>o8 G 3 Z Z Z Z Z Z Z Z (b4 Z)) a8 a8 a8 a8 (n6 [(2,[0])] a8 a8 (λe he=>hok e he) a8 (AllVS.cons ?_ AllVS.nil))
 refine c8X ?_
 clear hok
 exact c30
):p:=h
theorem c9i (h:p:=by
 refine zgn ?_
 refine b7 ?_
 refine zst ?_
 refine vm7 ?_
 refine zgn ?_
 refine ⟨(i+1),?_,?_,⟨⟨_,Z,by rfl⟩,Z,trivial⟩,trivial,Z,Z,Z⟩
 ·omega
 omega
):p:=h
theorem c2z (h:p:=by
 refine zgo ?_
 refine ⟨(i+1),?_,?_,⟨⟨_,Z,by rfl⟩,Z,trivial⟩,⟨⟨_,Z,by (first | (rw [a1x hcn];done) | (rw [a1z hcn];done) | (rw [a1w hcn,List.map_set];rfl) | (rw [a1y hcn];exact congrArg (λz=>Row.nest _ _ z []) a5O))⟩,Z,Z,⟨⟨_,Z,by (first | (rw [a1x hcn];done) | (rw [a1z hcn];done) | (rw [a1w hcn,List.map_set];rfl) | (rw [a1y hcn];exact congrArg (λz=>Row.nest _ _ z []) a5O))⟩,Z,Z,trivial⟩⟩,Z,Z,Z⟩
 ·omega
 omega
):p:=h
theorem c9j (h:p:=by
 refine d8 (s1 Z Z Z Z (b3 (j4 ?_) (b3 (j4 ?_) d9)))
 all_goals clear hK14 K14 hK13 K13 hK9 K9
 all_goals (first | (rw [(b05 (s:=s) h3).1];done) | (rw [(b05 (s:=s) h3).2];done) | (rw [(b06 (s:=s) (i:=i) J (by simp only [a1m,Bool.and_eq_false_iff,decide_eq_false_iff_not];omega)).1];done) | (rw [(b06 (s:=s) (i:=i) J (by simp only [a1m,Bool.and_eq_false_iff,decide_eq_false_iff_not];omega)).2];done) | (rw [(a2P (s:=s) (n:=-dV (p5 s) i) (by have e:i=(p5 s).size:=J;rw [a2N J,e]) (by assumption)).1];done) | (rw [(a2P (s:=s) (n:=-dV (p5 s) i) (by have e:i=(p5 s).size:=J;rw [a2N J,e]) (by assumption)).2];done) | (rw [(a2P (s:=s) (n:=dV (p5 s) i) (by have e:i=(p5 s).size:=J;rw [a2O J,e]) (by assumption)).1];done) | (rw [(a2P (s:=s) (n:=dV (p5 s) i) (by have e:i=(p5 s).size:=J;rw [a2O J,e]) (by assumption)).2];done) | (rw [(a2Q (s:=s) (n:=-dV (p5 s) i) (i:=i) h3 J hinv.2 (by have e:i=(p5 s).size:=J;rw [a2N J,e]) (by assumption)).1];done) | (rw [(a2Q (s:=s) (n:=-dV (p5 s) i) (i:=i) h3 J hinv.2 (by have e:i=(p5 s).size:=J;rw [a2N J,e]) (by assumption)).2];done) | (rw [(a2Q (s:=s) (n:=dV (p5 s) i) (i:=i) h3 J hinv.2 (by have e:i=(p5 s).size:=J;rw [a2O J,e]) (by assumption)).1];done) | (rw [(a2Q (s:=s) (n:=dV (p5 s) i) (i:=i) h3 J hinv.2 (by have e:i=(p5 s).size:=J;rw [a2O J,e]) (by assumption)).2];done))
):p:=h
theorem c9k (h:p:=by
 refine d8 (s1 Z Z Z Z (b3 (j4 ?_) (b3 (j4 ?_) d9)))
 all_goals (first | (rw [(b05 (s:=s) h3).1];done) | (rw [(b05 (s:=s) h3).2];done) | (rw [(b06 (s:=s) (i:=i) J (by simp only [a1m,Bool.and_eq_false_iff,decide_eq_false_iff_not];omega)).1];done) | (rw [(b06 (s:=s) (i:=i) J (by simp only [a1m,Bool.and_eq_false_iff,decide_eq_false_iff_not];omega)).2];done) | (rw [(a2P (s:=s) (n:=-dV (p5 s) i) (by have e:i=(p5 s).size:=J;rw [a2N J,e]) (by assumption)).1];done) | (rw [(a2P (s:=s) (n:=-dV (p5 s) i) (by have e:i=(p5 s).size:=J;rw [a2N J,e]) (by assumption)).2];done) | (rw [(a2P (s:=s) (n:=dV (p5 s) i) (by have e:i=(p5 s).size:=J;rw [a2O J,e]) (by assumption)).1];done) | (rw [(a2P (s:=s) (n:=dV (p5 s) i) (by have e:i=(p5 s).size:=J;rw [a2O J,e]) (by assumption)).2];done) | (rw [(a2Q (s:=s) (n:=-dV (p5 s) i) (i:=i) h3 J hinv.2 (by have e:i=(p5 s).size:=J;rw [a2N J,e]) (by assumption)).1];done) | (rw [(a2Q (s:=s) (n:=-dV (p5 s) i) (i:=i) h3 J hinv.2 (by have e:i=(p5 s).size:=J;rw [a2N J,e]) (by assumption)).2];done) | (rw [(a2Q (s:=s) (n:=dV (p5 s) i) (i:=i) h3 J hinv.2 (by have e:i=(p5 s).size:=J;rw [a2O J,e]) (by assumption)).1];done) | (rw [(a2Q (s:=s) (n:=dV (p5 s) i) (i:=i) h3 J hinv.2 (by have e:i=(p5 s).size:=J;rw [a2O J,e]) (by assumption)).2];done))
):p:=h
theorem c2A (h:p:=by
 refine zf1 ?_
 all_goals ((rw [b46] at h1;simp only [C7];first | (have e:n8 x.c.size 1 160=true:=v7.mpr J;rw [e,h2.1,h3];generalize X3 x.r=p;generalize decide ((x.r.size:Int)<=200)=q;cases p<;>cases q<;>rfl) | (rw [h3];simp;done) | (rcases h2 with h2 | h2<;>first | (rw [h2];simp;done) | (have e:n8 x.c.size 1 160=false:=a9Z.mpr J;rw [e];simp;done)) | (have e:n8 x.c.size 1 160=false:=a9Z.mpr J;rw [e];simp;done)))
):p:=h
theorem S9 (h:p:=by
 exact ⟨Nat.zero_le _,λj hj=>by omega⟩
):p:=h
theorem Y2 (h:p:=by
 exact ⟨⟨_,Z,by rfl⟩,Z,⟨⟨_,Z,by rfl⟩,Z,trivial⟩⟩
):p:=h
theorem c9l (h:p:=by
 refine zgo ?_
 refine g9 [0] [] (λ(i:Nat)=>[(3,.v (.int .i64 (a8b s i))),(4,.v (.int .i64 (i:Int)))]) (λ(i:Nat)=>[]) (λ(i:Nat)=>i<=s.size) (λ(i:Nat)=>s.size - i) 0 Z Z ?_ ?_ ?_ ?_
 ·exact Nat.zero_le _
 ·exact Y2
 ·exact trivial
 intro i hinv
 have hi:i<=s.size:=hinv
 have hsl:=a6U s i
 have hbb:=a6T s i
 have hbi:s4 s i=((s.data.toList.getD ((i:Int)).toNat 0).toNat:Int):=Z
 refine vm2 ?_
 refine a8s ?_
 refine zcd (λk0=>?_) (λk0=>?_)
 ·refine c88 ?_
  refine c89 ?_
  refine zgo ?_
  refine ⟨(i+1),?_,?_,⟨⟨_,Z,by rfl⟩,Z,⟨⟨_,Z,by rfl⟩,Z,trivial⟩⟩,trivial,Z,Z,Z⟩
  ·omega
  omega
 refine zf1 ?_
 all_goals (have e:i=s.size:=J;subst e;rfl)
):p:=h
theorem c7c (h:p:=by
 refine d8 (s1 Z Z Z Z (b3 (j4 ?_) (b3 (j4 ?_) d9)))
 all_goals clear hK6 K6
 all_goals (first | (rw [(a2M (s:=s) J).1];done) | (rw [(a2M (s:=s) J).2];done) | (rw [(a5j (s:=s) J (hc1.symm.trans h2)).1];done) | (rw [(a5j (s:=s) J (hc1.symm.trans h2)).2];done) | (rw [(a8e (s:=s) J h3).1];done) | (rw [(a8e (s:=s) J h3).2];done) | (rw [(b1F (s:=s) J (hc1.symm.trans h2) h4).1];done) | (rw [(b1F (s:=s) J (hc1.symm.trans h2) h4).2];done) | (rw [(a8f (s:=s) J (hc1.symm.trans h2) h3 h4).1];done) | (rw [(a8f (s:=s) J (hc1.symm.trans h2) h3 h4).2];done))
):p:=h
theorem Y3 (h:p:=by
 (show x1.1.toNat - (z.1+1) < x1.1.toNat - z.1;omega)
):p:=h
theorem c2B (h:p:=by
 refine d8 (s1 Z Z Z Z (b3 (C4 Z ?_) (b3 (j4 ?_) d9)))
 all_goals (simp only [a0E];(repeat (first | rw [if_pos J] | rw [if_neg J]));first | done | rfl)
):p:=h
theorem c9m (h:p:=by
 refine zgn ?_
 refine d8 (o7 Z (c7 Z ?_) Z (AftOK.gone (AftOK.stays Z ?_ Z AftOK.nil)))
 all_goals exact c3t
):p:=h
theorem c7d (h:p:=by
 first | exact ⟨by show ((z.1+1:Nat):Int)<=x1.1;omega,(a4A hz2 J J).1,hc9.mono m8⟩ | exact ⟨by show ((z.1+1:Nat):Int)<=x1.1;omega,b2f hz2,hc9.mono m8⟩ | exact ⟨by show ((z.1+1:Nat):Int)<=x1.1;omega,b2g hz2 j5,hc9.mono m8⟩ | exact ⟨by show ((z.1+1:Nat):Int)<=x1.1;omega,hz2,hc9.mono m8⟩
):p:=h
theorem c2C (h:p:=by
 refine a6o ?_
 all_goals exact c3u
):p:=h
theorem c7e (h:p:=by
 first | exact ⟨by show ((z.1+1:Nat):Int)<=x1.1;omega,b9H hz2 J J,hc2.mono m8⟩ | exact ⟨by show ((z.1+1:Nat):Int)<=x1.1;omega,b6W hz2,hc2.mono m8⟩ | exact ⟨by show ((z.1+1:Nat):Int)<=x1.1;omega,b6X hz2,hc2.mono m8⟩ | exact ⟨by show ((z.1+1:Nat):Int)<=x1.1;omega,hz2,hc2.mono m8⟩
):p:=h
theorem b8c (h:p:=by
 refine zgo ?_
 refine d8 (p4 Z Z Z Z (b3 (I0 ?_) (b3 (I0 ?_) (b3 (I0 ?_) (b3 (b6f ?_) (b3 (j4 ?_) (b3 (j4 ?_) d9)))))))
 all_goals (first | rfl | (rw [hO];done) | (rw [hO];rfl))
):p:=h
theorem c2D (h:p:=by
 refine zf1 ?_
 all_goals exact c6W
):p:=h
theorem b3t (h:p:=by
 refine zgo ?_
 refine d8 (s1 Z Z Z Z (b3 (j4 ?_) (b3 (j4 ?_) d9)))
 all_goals (first | (rw [hO];done) | (rw [hO];rfl))
):p:=h
theorem c9n (h:p:=by
 refine d8 (s1 Z Z Z Z (b3 (C4 Z ?_) (b3 (j4 ?_) d9)))
 all_goals (first | (rw [hO.1];done) | (rw [hO.1];rfl) | (rw [hO.2];done) | (rw [hO.2];rfl))
):p:=h
theorem c9o (h:p:=by
 refine zgo ?_
 refine ⟨(i+1),?_,?_,⟨⟨_,Z,by (first | rfl | (rw [a0V J];done) | (rw [a3S J];done) | (rw [a0V J];rfl) | (rw [a3S J];rfl) | (rw [a0V J,List.map_append];rfl))⟩,Z,⟨⟨_,Z,by (first | rfl | (rw [a0V J];done) | (rw [a3S J];done) | (rw [a0V J];rfl) | (rw [a3S J];rfl) | (rw [a0V J,List.map_append];rfl))⟩,Z,⟨⟨_,Z,by (first | rfl | (rw [a0V J];done) | (rw [a3S J];done) | (rw [a0V J];rfl) | (rw [a3S J];rfl) | (rw [a0V J,List.map_append];rfl))⟩,Z,trivial⟩⟩⟩,⟨⟨_,Z,by (first | rfl | (rw [a0V J];done) | (rw [a3S J];done) | (rw [a0V J];rfl) | (rw [a3S J];rfl) | (rw [a0V J,List.map_append];rfl))⟩,Z,Z,trivial⟩,Z,Z,Z⟩
 ·omega
 omega
):p:=h
theorem a1M (h:p:=by
 exact ⟨⟨_,Z,by rfl⟩,Z,Z,trivial⟩
):p:=h
theorem c7f (h:p:=by
 refine zgo ?_
 refine d8 (s1 Z Z Z Z (b3 (c7 Z ?_) (b3 (j4 ?_) d9)))
 all_goals (first | rfl | (rw [b6K J];done) | (rw [b6K J];rfl) | (rw [b9N J];done) | (rw [b9N J];rfl) | (rw [b9U h0 J];done) | (rw [b9U h0 J];rfl))
):p:=h
theorem c7g (h:p:=by
 refine zgo ?_
 refine d8 (s1 Z Z Z Z (b3 (c7 Z ?_) (b3 (j4 ?_) d9)))
 all_goals (first | (rw [hG];done) | (rw [hG];rfl) | (rw [hG,b6A j5];done) | (rw [hG,b6A j5];rfl) | (rw [hG,b4k j5];done) | (rw [hG,b4k j5];rfl))
):p:=h
theorem c2E (h:p:=by
 refine zgo ?_
 refine ⟨(i+1),?_,?_,⟨⟨_,Z,by rfl⟩,Z,⟨⟨_,Z,by rfl⟩,Z,trivial⟩⟩,⟨⟨_,Z,by (first | (rw [c8e (by assumption),List.map_append];rfl) | (rw [c8f (by assumption)];done))⟩,Z,Z,trivial⟩,Z,Z,Z⟩
 ·omega
 omega
):p:=h
theorem c9p (h:p:=by
 refine zgo ?_
 refine ⟨(i+1),?_,?_,⟨⟨_,Z,by rfl⟩,Z,trivial⟩,trivial,Z,Z,Z⟩
 ·exact ⟨by omega,s2 hinv.2 (c1w J ⟨v7.mp j5,v7.mp j5,v7.mp j5⟩ J (λh=>by omega))⟩
 omega
):p:=h
theorem c9q (h:p:=by
 refine vm1 ?_
 refine vm3 ?_
 refine b4J ?_
 refine vm3 ?_
 refine c2t ?_
 refine vm3 ?_
 refine b5 Z Z (c8 G Z Z Z Z Z J m8) ?_
 refine p6 ?_
 first | refine l8 G Z Z Z Z Z (F9 J J) Z Z Z Z Z (Nat.le_of_ble_eq_true Z) Z ?_ | refine l8 G Z Z Z Z Z (by simp;exact ⟨by omega,Z⟩) Z Z Z Z Z (Nat.le_of_ble_eq_true Z) Z ?_
 refine zfo ?_
 all_goals (first | rfl | exact a32 | (simp only [List.nil_append];exact a32))
):p:=h
theorem c0D (h:p:=by
 refine zf1 ?_
 all_goals exact c3v
):p:=h
theorem c7h (h:p:=by
 refine zf1 ?_
 all_goals exact c3w
):p:=h
theorem c0E (h:p:=by
 first | exact ⟨by show ((v.1+1:Nat):Int)<=x6.1;omega,hV,hc7.mono m8⟩ | exact ⟨by show ((v.1+1:Nat):Int)<=x6.1;omega,(c3a hV hst j5).1,hc7.mono m8⟩
):p:=h
theorem c9r (h:p:=by
 refine zgo ?_
 refine ⟨(v.1+1,x7.2,v.2.2),?_,?_,⟨⟨_,Z,by (first | rfl | exact congrArg (λv=>AV.v (.int .i64 v)) c0r)⟩,Z,trivial⟩,⟨⟨_,Z,by rfl⟩,Z,Z,⟨⟨_,Z,by rfl⟩,Z,Z,⟨⟨_,Z,by rfl⟩,Z,Z,⟨⟨_,Z,by rfl⟩,Z,Z,⟨⟨_,Z,by rfl⟩,Z,Z,⟨⟨_,Z,by rfl⟩,Z,Z,trivial⟩⟩⟩⟩⟩⟩,Z,Z,Z⟩
 ·exact c0E
 (show x6.1.toNat - (v.1+1) < x6.1.toNat - v.1;omega)
):p:=h
theorem c9s (h:p:=by
 refine zgo ?_
 refine d8 (s1 Z Z Z Z (b3 (c7 Z ?_) (b3 (j4 ?_) d9)))
 all_goals (first | rfl | (rw [b6A j5];done) | (rw [b6A j5];rfl) | (rw [b4k j5];done) | (rw [b4k j5];rfl))
):p:=h
theorem c7i (h:p:=by
 refine zf1 ?_
 all_goals (first | rfl | (simp only [okRts,h1,Bool.true_and,Bool.false_and];done) | (have e8:rs.length=8:=Int.ofNat_inj.mp h2;simp only [okRts,h1,e8,decide_true,Bool.true_and,a0x,Bool.not_not];done) | (simp only [okRts,h1,show ¬ rs.length=8 from (λh=>h2 (by rw [h];rfl)),decide_false,Bool.false_and,Bool.and_false];done))
):p:=h
theorem c2F (h:p:=by
 refine d8 (s1 Z Z Z Z (b3 (C4 Z ?_) (b3 (j4 ?_) (b3 (j4 ?_) d9))))
 all_goals clear hK7 K7
 all_goals (first | (rw [hO.1];rfl) | (rw [hO.2.1];rfl) | (rw [hO.2.1];done) | (rw [hO.2.2];rfl) | (rw [hO.2.2];done))
):p:=h
theorem c0F (h:p:=by
 refine zf1 ?_
 all_goals ((have e0:((UInt8.toNat 64:Nat):Int)=64:=Z;cases e1:X3 x.c<;>cases e2:X3 x.r<;>cases e3:m5 x.c 64<;>simp_all [C7]<;>omega))
):p:=h
theorem c9t (h:p:=by
 refine zgo ?_
 refine ⟨(i+1),?_,?_,⟨⟨_,Z,by rfl⟩,Z,⟨⟨_,Z,by rfl⟩,Z,trivial⟩⟩,⟨⟨_,Z,by (first | (rw [b9l J,List.map_append];rfl) | (rw [b9l J];done) | (rw [b9l J];rfl) | (rw [c7Z J];done))⟩,Z,Z,trivial⟩,Z,Z,Z⟩
 ·omega
 omega
):p:=h
theorem c2G (h:p:=by
 refine zgo ?_
 refine ⟨(i+1),?_,?_,⟨⟨_,Z,by rfl⟩,Z,trivial⟩,trivial,Z,Z,Z⟩
 ·exact ⟨by omega,s2 hinv.2 (by first | exact c6d j5 | exact c6e j5)⟩
 omega
):p:=h
theorem c9u (h:p:=by
 refine a9C (id:=0) Z ?_
 refine d8 (o7 Z (j4 ?_) Z (AftOK.stays Z ?_ Z AftOK.nil))
 all_goals (first | (rw [b8q J];done) | (exfalso;omega) | (simp only [nxC,nxS];done) | (simp only [nxC,nxS,b1z (show ¬ x.a < (x.c.length:Int) by omega)];done) | (rw [b1A J];exact congrArg (Value.int .i64) (O1 (Int.le_trans (by decide) R0.1) (Int.le_trans R0.2 (by decide)))) | (rw [b1A J];simp only [nxT,nxS,b1z (show ¬ x.a < (x.c.length:Int) by omega)];exact congrArg (Value.int .i64) (O1 (Int.le_trans (by decide) R0.1) (Int.le_trans R0.2 (by decide)))))
):p:=h
theorem c9v (h:p:=by
 refine vm3 ?_
 refine b4K ?_
 refine p6 ?_
 refine vm6 ?_
 refine zgo ?_
 refine ⟨(i+1),?_,?_,⟨⟨_,Z,by rfl⟩,Z,⟨⟨_,Z,by rfl⟩,Z,trivial⟩⟩,⟨⟨_,Z,by (first | (rw [c50 J J,List.map_append];rfl) | (rw [c52 J J,List.map_append];rfl))⟩,Z,Z,trivial⟩,Z,Z,Z⟩
 ·omega
 omega
):p:=h
theorem c7j (h:p:=by
 refine zf1 ?_
 all_goals exact c3x
):p:=h
theorem c9w (h:p:=by
 refine vm3 ?_
 refine d3 2 Z Z Z (ArgsOK.of Z) (b3u (a8j sl i) _ (by have:=@a7n sl i;have:=@a0C sl i;omega) (λx hx=>c1M hF J (s8.mpr J) hx)) Z Z ?_
 refine zgn ?_
 refine a3K ?_
 refine s6 (Gh.sub 1 0 np Z Z Z) (b4 ⟨(i+1),?_,?_,⟨⟨_,Z,by rfl⟩,Z,⟨⟨_,Z,by rfl⟩,Z,trivial⟩⟩,⟨⟨_,Z,by (first | (rw [b9o J];done) | (rw [b9p J];done))⟩,Z,Z,trivial⟩,Z,Z,Z⟩)
 ·omega
 omega
):p:=h
theorem c9x (h:p:=by
 refine vm3 ?_
 refine d3 4 Z Z Z (ArgsOK.of Z) (a2s (pnS q i) ⟨_,_⟩ J) Z Z ?_
 refine zgn ?_
 refine a3K ?_
 refine s6 (Gh.sub 3 1 np Z Z Z) (b4 ⟨(i+1),?_,?_,⟨⟨_,Z,by rfl⟩,Z,⟨⟨_,Z,by rfl⟩,Z,trivial⟩⟩,⟨⟨_,Z,by (first | (rw [b1W J,List.map_append];rfl) | (rw [b1W J];done) | (rw [b1W J];rfl) | (rw [c23 J];done))⟩,Z,Z,trivial⟩,Z,Z,Z⟩)
 ·omega
 omega
):p:=h
theorem c9y (h:p:=by
 refine b6 (rs:=[11]) Y Z (AllB.cons ?_ AllB.nil)
 refine f7 [1,2,3] Z Z (e9 G Z Z Z Z Z Z Z Z Z Z Z (b4 ⟨Z,?_⟩))
 refine d7 12 Z Y Y Z Z Z Z (b9 Z Z) (E5 Y (hK14 _ ?_))
 clear hK14 K14
 refine d8 (s1 Z Z Z Z (b3 (C4 Z ?_) (b3 (j4 ?_) d9)))
 all_goals (first | (rw [hB.1];rfl) | (rw [hB.2];rfl) | (rw [hB.2];done) | (rw [b1C hB,h4];rfl) | (rw [b1C hB,h4];simp;done))
):p:=h
theorem c9z (h:p:=by
 refine d8 (z8 (((⟨#[114,97,105,115,101,32]⟩:ByteArray)++u3 x1.1,x3.2)) (o7 Z (j4 ?_) Z (AftOK.stays Z ?_ Z (AftOK.stays Z ?_ Z (AftOK.stays Z ?_ Z (AftOK.stays Z ?_ Z (AftOK.stays Z ?_ Z AftOK.nil)))))) (⟨?_,?_⟩))
 all_goals clear hK4 K4
 all_goals (first | rfl | trivial | exact hc3.mono J | (show ByteArray.size _<=60;(try simp only [ByteArray.size_append,n9,List.size_toArray,List.length_cons,List.length_nil]);omega))
):p:=h
theorem c9A (h:p:=by
 refine d8 (z8 (((⟨#[116,97,107,101,32]⟩:ByteArray)++u3 x2.1,x3.2)) (o7 Z (j4 ?_) Z (AftOK.stays Z ?_ Z (AftOK.stays Z ?_ Z (AftOK.stays Z ?_ Z (AftOK.stays Z ?_ Z (AftOK.stays Z ?_ Z AftOK.nil)))))) (⟨?_,?_⟩))
 all_goals clear hK4 K4
 all_goals (first | rfl | trivial | exact hc3.mono J | (show ByteArray.size _<=60;(try simp only [ByteArray.size_append,n9,List.size_toArray,List.length_cons,List.length_nil]);omega))
):p:=h
theorem c9B (h:p:=by
 refine d8 (z8 (((⟨#[115,121,110,99]⟩:ByteArray),x3.2)) (o7 Z (j4 ?_) Z (AftOK.stays Z ?_ Z (AftOK.stays Z ?_ Z (AftOK.stays Z ?_ Z (AftOK.stays Z ?_ Z (AftOK.stays Z ?_ Z AftOK.nil)))))) (⟨?_,?_⟩))
 all_goals clear hK4 K4
 all_goals (first | rfl | trivial | exact hc3.mono J | (show ByteArray.size _<=60;(try simp only [ByteArray.size_append,n9,List.size_toArray,List.length_cons,List.length_nil]);omega))
):p:=h
theorem c9C (h:p:=by
 refine vm3 ?_
 refine J7 2 [0] Z Z Z (Y4 x l.length J hc) Z (RowsIn.cons Z RowsIn.nil) Z Z Z ?_
 refine p6 ?_
 refine c2q ?_
 refine p6 ?_
 refine b5 Z Z (j9 G Z Z Z Z Z (F9 J J) Z) ?_
 refine zgo ?_
 refine d8 (o7 Z (j4 ?_) Z (AftOK.stays Z ?_ Z (AftOK.stays Z ?_ Z AftOK.nil)))
 all_goals (first | rfl | (simp;done))
):p:=h
theorem b5X (h:p:=by
 exact ⟨⟨_,Z,by rfl⟩,Z,Z,⟨⟨_,Z,by rfl⟩,Z,Z,trivial⟩⟩
):p:=h
theorem c2H (h:p:=by
 refine a6o ?_
 all_goals (first | (rw [c5F J];done) | (rw [b86 J,htn];done) | (rw [b86 J,← htn];done))
):p:=h
theorem c7k (h:p:=by
 exact ⟨⟨_,Z,by rfl⟩,Z,Z,⟨⟨_,Z,by rfl⟩,Z,Z,⟨⟨_,Z,by rfl⟩,Z,Z,⟨⟨_,Z,by rfl⟩,Z,Z,⟨⟨_,Z,by rfl⟩,Z,Z,⟨⟨_,Z,by rfl⟩,Z,Z,trivial⟩⟩⟩⟩⟩⟩
):p:=h
theorem c9D (h:p:=by
 refine b6 (rs:=[5]) a8 Z (AllB.cons ?_ AllB.nil)
 refine b3r ?_
 refine b6 (rs:=[6]) a8 Z (AllB.cons ?_ AllB.nil)
 refine b3r ?_
 refine G9 ?_
 refine d8 (p4 Z Z Z Z (b3 (c7 Z ?_) (b3 (c7 Z ?_) (b3 (c7 Z ?_) (b3 (A1 Z ?_) (b3 (j4 ?_) (b3 (j4 ?_) (b3 (j4 ?_) d9))))))))
 all_goals (rfl)
):p:=h
theorem c2I (h:p:=by
 refine zf1 ?_
 all_goals (first | rfl | (simp only [b09,h1,Bool.true_and,Bool.false_and];done) | (simp only [b09, *,Bool.true_and,Bool.false_and];done))
):p:=h
theorem c31 (h:p:=by
 refine d8 (p4 Z Z Z Z (b3 (j4 ?_) (b3 (c7 Z ?_) (b3 (c7 Z ?_) (b3 (c7 Z ?_) d9)))))
 all_goals (rfl)
):p:=h
theorem c9E (h:p:=by
 refine b3r ?_
 refine G9 ?_
 exact c31
):p:=h
theorem c9F (h:p:=by
 try rw [h1]
 try simp only [rfb] at h1
 refine c6 (λK5 hK5=>?_)
 refine b7 ?_
 refine p6 ?_
 refine b5 Z Z (w3 G Z Z Z Z) ?_
 refine c2u ?_
 refine c2v ?_
 refine hK5 _ ?_
 clear hK5 K5
 refine d8 (p4 Z Z Z Z (b3 (I0 ?_) (b3 (I0 ?_) (b3 (j4 ?_) d9))))
 all_goals clear hK3 K3
 all_goals (first | rfl | (exfalso;simp_all;done))
):p:=h
theorem c7l (h:p:=by
 refine d8 (p4 Z Z Z Z (b3 (c7 Z ?_) (b3 (c7 Z ?_) d9)))
 all_goals exact c6X
):p:=h
theorem c9G (h:p:=by
 first | exact ⟨by show ((z.1+1:Nat):Int)<=x1.1;omega,hz2,hc4.mono m8⟩ | exact ⟨by show ((z.1+1:Nat):Int)<=x1.1;omega,(a7y j5).trans hz2,hc4.mono m8⟩ | exact ⟨by show ((z.1+1:Nat):Int)<=x1.1;omega,a7A.trans hz2,hc4.mono m8⟩ | exact ⟨by show ((z.1+1:Nat):Int)<=x1.1;omega,(a7z j5).trans hz2,hc4.mono m8⟩
):p:=h
theorem c9H (h:p:=by
 first | exact ⟨by show ((z.1+1:Nat):Int)<=x1.1;omega,hz2,hc6.mono m8⟩ | exact ⟨by show ((z.1+1:Nat):Int)<=x1.1;omega,(a7y j5).trans hz2,hc6.mono m8⟩ | exact ⟨by show ((z.1+1:Nat):Int)<=x1.1;omega,a7A.trans hz2,hc6.mono m8⟩ | exact ⟨by show ((z.1+1:Nat):Int)<=x1.1;omega,(a7z j5).trans hz2,hc6.mono m8⟩
):p:=h
theorem c9I (h:p:=by
 first | exact ⟨by show ((z.1+1:Nat):Int)<=x1.1;omega,hz2,hc2.mono m8⟩ | exact ⟨by show ((z.1+1:Nat):Int)<=x1.1;omega,(a7y j5).trans hz2,hc2.mono m8⟩ | exact ⟨by show ((z.1+1:Nat):Int)<=x1.1;omega,a7A.trans hz2,hc2.mono m8⟩ | exact ⟨by show ((z.1+1:Nat):Int)<=x1.1;omega,(a7z j5).trans hz2,hc2.mono m8⟩
):p:=h
theorem c9J (h:p:=by
 first | exact ⟨by show ((z.1+1:Nat):Int)<=x1.1;omega,hz2,hc8.mono m8⟩ | exact ⟨by show ((z.1+1:Nat):Int)<=x1.1;omega,(a7y j5).trans hz2,hc8.mono m8⟩ | exact ⟨by show ((z.1+1:Nat):Int)<=x1.1;omega,a7A.trans hz2,hc8.mono m8⟩ | exact ⟨by show ((z.1+1:Nat):Int)<=x1.1;omega,(a7z j5).trans hz2,hc8.mono m8⟩
):p:=h
theorem c9K (h:p:=by
 first | exact ⟨by show ((z.1+1:Nat):Int)<=x1.1;omega,(a4A hz2 J J).1,hc10.mono m8⟩ | exact ⟨by show ((z.1+1:Nat):Int)<=x1.1;omega,b2f hz2,hc10.mono m8⟩ | exact ⟨by show ((z.1+1:Nat):Int)<=x1.1;omega,b2g hz2 j5,hc10.mono m8⟩ | exact ⟨by show ((z.1+1:Nat):Int)<=x1.1;omega,hz2,hc10.mono m8⟩
):p:=h
theorem c9L (h:p:=by
 first | exact ⟨by show ((z.1+1:Nat):Int)<=x1.1;omega,(a4A hz2 J J).1,hc2.mono m8⟩ | exact ⟨by show ((z.1+1:Nat):Int)<=x1.1;omega,b2f hz2,hc2.mono m8⟩ | exact ⟨by show ((z.1+1:Nat):Int)<=x1.1;omega,b2g hz2 j5,hc2.mono m8⟩ | exact ⟨by show ((z.1+1:Nat):Int)<=x1.1;omega,hz2,hc2.mono m8⟩
):p:=h
theorem a88 (h:p:=by
 exact ⟨⟨_,Z,by rfl⟩,Z,trivial⟩
):p:=h
theorem c9M (h:p:=by
 exact ⟨by omega,s2 hinv.2 (R1.mpr ⟨v7.mp j5,v7.mp j5,by omega,(λj hj=>by have:=a10.mp (a9G.mp (show P3 (λj=>decide ((wa.getD j default).q=(wa.getD i default).q)) i < 0 by omega)) j hj;exact of_decide_eq_false this),c3V⟩)⟩
):p:=h
theorem c7m (h:p:=by
 refine zgo ?_
 refine d8 (s1 Z Z Z Z (b3 (c7 Z ?_) (b3 (j4 ?_) d9)))
 all_goals (first | (rw [hG];done) | (rw [hG];rfl))
):p:=h
theorem c0G (h:p:=by
 refine zf1 ?_
 all_goals (first | rfl | (rw [c55 j5];done) | (rw [c56 j5];done))
):p:=h
theorem R3 (h:p:=by
 exact Nat.zero_le _
):p:=h
theorem c7n (h:p:=by
 refine zf1 ?_
 all_goals (simp only [a6f];first | (rw [if_pos J];done) | (rw [if_neg J,if_pos J];done) | (rw [if_neg J,if_neg J];done))
):p:=h
theorem c9N (h:p:=by
 refine zgo ?_
 refine ⟨(i+1),?_,?_,⟨⟨_,Z,by rfl⟩,Z,trivial⟩,trivial,Z,Z,Z⟩
 ·exact ⟨by omega,s2 hinv.2 c0q⟩
 omega
):p:=h
theorem c0H (h:p:=by
 refine zf1 ?_
 all_goals ((first | rfl | (simp_all;done) | (simp_all;omega)))
):p:=h
theorem c32 (h:p:=by
 refine zgo ?_
 refine d8 (o7 Z (j4 ?_) Z (AftOK.stays Z ?_ Z AftOK.nil))
 all_goals (first | (rw [hO.1];done) | (rw [hO.2];done) | (rw [hO.1];rfl) | (rw [hO.2];rfl))
):p:=h
theorem c0I (h:p:=by
 refine zgo ?_
 refine ⟨(i+1),?_,?_,⟨⟨_,Z,by rfl⟩,Z,trivial⟩,trivial,Z,Z,Z⟩
 ·exact ⟨by omega,s2 hinv.2 (by simp_all [fdP,emP])⟩
 omega
):p:=h
theorem b0J (h:p:=by
 refine zf1 ?_
 all_goals (first | (rw [hO];done) | (rw [hO];rfl))
):p:=h
theorem c33 (h:p:=by
 refine zgo ?_
 refine ⟨(i+1),?_,?_,⟨⟨_,Z,by rfl⟩,Z,⟨⟨_,Z,by rfl⟩,Z,trivial⟩⟩,⟨⟨_,Z,by (first | (rw [c72 J];done) | (rw [c73 J,List.map_append];rfl))⟩,Z,Z,trivial⟩,Z,Z,Z⟩
 ·exact ⟨by omega,s2 hinv.2 J⟩
 omega
):p:=h
theorem c0J (h:p:=by
 refine b4 (hK12 _ ?_)
 clear hK12 K12
 refine d8 (O2 Z (j4 ?_))
 all_goals clear hK10 K10
 all_goals (first | rfl | (rw [hE2];rfl) | (simp_all;done))
):p:=h
theorem b0K (h:p:=by
 exact ⟨⟨_,Z,by (first | rfl | simp)⟩,Z,trivial⟩
):p:=h
theorem c34 (h:p:=by
 refine c2u ?_
 refine c2v ?_
 refine hK6 _ ?_
 clear hK6 K6
 refine d8 (p4 Z Z Z Z (b3 (c7 Z ?_) (b3 (c7 Z ?_) (b3 (j4 ?_) d9))))
 all_goals (first | rfl | (exfalso;simp_all;done))
):p:=h
theorem c35 (h:p:=by
 refine zgn ?_
 refine s5 (N4 (Gh.nestX (id:=6) m.cp Z (by simp only [List.length_set,List.length_map])) ?_)
 refine zgo ?_
 refine d8 (p4 Z Z Z Z (b3 (c7 Z ?_) (b3 (c7 Z ?_) (b3 (c7 Z ?_) (b3 (A1 Z ?_) (b3 (j4 ?_) (b3 (j4 ?_) d9)))))))
 all_goals (rfl)
):p:=h
theorem c0K (h:p:=by
 refine d8 (a5c Z Z Z Z (b3 (c7 Z ?_) (b3 (j4 ?_) d9)) Z (AftOK.gone AftOK.nil))
 all_goals (first | (rw [hG];done) | (rw [hG];rfl))
):p:=h
theorem c36 (h:p:=by
 refine zgo ?_
 refine ⟨(i+1),?_,?_,⟨⟨_,Z,by rfl⟩,Z,⟨⟨_,Z,by rfl⟩,Z,trivial⟩⟩,⟨⟨_,Z,by (first | (rw [b9n j5,List.map_append];rfl) | (rw [c5M j5];done))⟩,Z,Z,trivial⟩,Z,Z,Z⟩
 ·omega
 omega
):p:=h
theorem c38 (h:p:=by
 refine d8 (u6 Z Z Z Z (b3 (j4 ?_) (b3 (c7 Z ?_) (b3 (c7 Z ?_) (b3 (c7 Z ?_) (b3 (j4 ?_) d9))))) Z (AftOK.gone (AftOK.gone (AftOK.gone AftOK.nil))))
 all_goals (first | (rw [hG0];done) | (rw [hG0];rfl) | (rw [hG0,hls];done) | (rw [hG0,hls];rfl))
):p:=h
theorem c39 (h:p:=by
 refine zgo ?_
 refine d8 (s1 Z Z Z Z (b3 (I0 ?_) (b3 (j4 ?_) (b3 (j4 ?_) d9))))
 all_goals exact c3y
):p:=h
theorem c4a (h:p:=by
 refine zgo ?_
 refine ⟨(i+1),?_,?_,⟨⟨_,Z,by rfl⟩,Z,⟨⟨_,Z,by rfl⟩,Z,trivial⟩⟩,⟨⟨_,Z,by (rw [b2e,List.map_append];rfl)⟩,Z,Z,trivial⟩,Z,Z,Z⟩
 ·exact ⟨by omega,s2 hinv.2 (by assumption)⟩
 omega
):p:=h
theorem b7c (h:p:=by
 refine d8 (s1 Z Z Z Z (b3 (c7 Z ?_) (b3 (j4 ?_) d9)))
 all_goals ((rw [hN]))
):p:=h
theorem c4b (h:p:=by
 refine zgo ?_
 refine ⟨(i+1),?_,?_,⟨⟨_,Z,by rfl⟩,Z,trivial⟩,trivial,Z,Z,Z⟩
 ·exact ⟨by omega,s2 hi.2 (a5u.mpr ⟨by omega,by first | exact .inl J | exact .inr ⟨by assumption,by assumption⟩⟩)⟩
 omega
):p:=h
theorem c4c (h:p:=by
 exact ⟨by omega,s2 hinv.2 (R1.mpr ⟨v7.mp j5,v7.mp j5,by omega,λj hj=>hk.2 j J,c3V⟩)⟩
):p:=h
theorem c4d (h:p:=by
 exact ⟨by omega,s2 hinv.2 (by first | exact c2Y j5 (b0q.mpr (ec3.mp j5)) | exact c2Z j5 (a4y.mpr ⟨v7.mp j5,v7.mp j5,v7.mp j5⟩) (a9G.mp J))⟩
):p:=h
theorem c4e (h:p:=by
 refine zgo ?_
 refine ⟨(i+1),?_,?_,⟨⟨_,Z,by rfl⟩,Z,⟨⟨_,Z,by rfl⟩,Z,trivial⟩⟩,⟨⟨_,Z,by (exact congrArg (λz=>Row.row _ _ z) (b9m J))⟩,Z,Z,trivial⟩,Z,Z,Z⟩
 ·omega
 omega
):p:=h
theorem c4f (h:p:=by
 refine b1c ?_
 refine vm3 ?_
 refine c2t ?_
 refine zfo ?_
 all_goals (first | rfl | simp)
):p:=h
theorem b7d (h:p:=by
 refine zf1 ?_
 all_goals (first | rfl | (simp_all [n8];done) | (simp_all [n8];omega))
):p:=h
theorem c4g (h:p:=by
 refine zf1 ?_
 all_goals exact c3z
):p:=h
theorem c4h (h:p:=by
 refine d8 (s1 Z Z Z Z (b3 (C4 Z ?_) (b3 (j4 ?_) d9)))
 all_goals clear hK4 K4
 all_goals (first | (rw [hB.1];rfl) | (rw [hB.2];rfl) | (rw [hB.2];done) | (rw [b1C hB,h4];rfl) | (rw [b1C hB,h4];simp;done))
):p:=h
theorem c4i (h:p:=by
 refine zgo ?_
 refine ⟨(i+1),?_,?_,⟨⟨_,Z,by rfl⟩,Z,trivial⟩,trivial,Z,Z,Z⟩
 ·exact ⟨by omega,s2 hinv.2 (by first | assumption | exact a1Z.mp j5)⟩
 omega
):p:=h
theorem c4j (h:p:=by
 exact ⟨by omega,hinv.2.succ hm (λk hk e=>(b28.mp h5) ((a7q J).mpr ⟨k,hk,e⟩)) (by first | exact b9v b67 | (obtain rfl:i=0:=J;exact b9u))⟩
):p:=h
theorem c4k (h:p:=by
 exact ⟨by show ((z.1+1:Nat):Int)<=x1.1;omega,by dsimp only;with_reducible first | exact c8y (b7Y (by decide) hz2) | exact b7Y (by decide) hz2,hc3.mono (by simp;omega)⟩
):p:=h
theorem c4l (h:p:=by
 exact ⟨by show ((z.1+1:Nat):Int)<=x1.1;omega,by dsimp only;with_reducible first | exact c8y (b7Y (by decide) hz2) | exact b7Y (by decide) hz2,hc5.mono (by simp;omega)⟩
):p:=h
theorem a8Y (h:p:=by
 refine zf1 ?_
 all_goals (rfl)
):p:=h
theorem c4m (h:p:=by
 refine ⟨(k+1),?_,?_,⟨⟨_,Z,by rfl⟩,Z,trivial⟩,trivial,Z,Z,Z⟩
 ·exact ⟨by omega,s2 hk.2 (c5U j5 j5)⟩
 omega
):p:=h
theorem b7e (h:p:=by
 refine zf1 ?_
 all_goals ((rw [hO];try rw [← hrl];try rfl))
):p:=h
theorem c4n (h:p:=by
 refine zgo ?_
 refine ⟨(k+1),?_,?_,⟨⟨_,Z,by rfl⟩,Z,trivial⟩,trivial,Z,Z,Z⟩
 ·exact ⟨by omega,b5e hk.2 j5⟩
 omega
):p:=h
theorem c0L (h:p:=by
 refine a6o ?_
 all_goals (first | rfl | (simp_all;done))
):p:=h
theorem c4o (h:p:=by
 refine zgo ?_
 refine d8 (s1 Z Z Z Z (b3 (C4 Z ?_) (b3 (j4 ?_) d9)))
 all_goals (first | (rw [hO.1];rfl) | (rw [hO.2];done) | (rw [hO.2];rfl))
):p:=h
theorem b4P (h:p:=by
 refine d8 (O2 Z (j4 ?_))
 all_goals (rfl)
):p:=h
theorem c4p (h:p:=by
 exact ⟨⟨_,Z,by (first | rfl | (simp;done) | (simp;omega))⟩,Z,⟨⟨_,Z,by (first | rfl | (simp;done) | (simp;omega))⟩,Z,trivial⟩⟩
):p:=h
theorem c4q (h:p:=by
 refine zcd (λk0=>?_) (λk0=>?_)
 ·refine zf1 ?_
  all_goals (simp_all;omega)
 refine zf1 ?_
 all_goals (simp_all;omega)
):p:=h
theorem b7f (h:p:=by
 first | (exfalso;omega) | (exfalso;simp_all;done)
):p:=h
theorem c4r (h:p:=by
 exact ⟨⟨_,Z,by rfl⟩,Z,Z,⟨⟨_,Z,by rfl⟩,Z,Z,⟨⟨_,Z,by rfl⟩,Z,Z,trivial⟩⟩⟩
):p:=h
theorem c4s (h:p:=by
 refine zf1 ?_
 all_goals (first | (rw [b6L J];done) | (rw [a9K J];done) | (rw [a9K J];rfl))
):p:=h
theorem c0M (h:p:=by
 refine zf1 ?_
 all_goals (first | rfl | (simp_all [lessW];done))
):p:=h
theorem c4t (h:p:=by
 exact ⟨⟨_,Z,by rfl⟩,Z,⟨⟨_,Z,by rfl⟩,Z,⟨⟨_,Z,by rfl⟩,Z,trivial⟩⟩⟩
):p:=h
theorem c4u (h:p:=by
 exact ⟨⟨_,Z,by (first | rfl | simp)⟩,Z,⟨⟨_,Z,by (first | rfl | simp)⟩,Z,trivial⟩⟩
):p:=h
theorem c4v (h:p:=by
 refine zgo ?_
 refine d8 (s1 Z Z Z Z (b3 (b2G ?_) (b3 (j4 ?_) d9)))
 all_goals (rfl)
):p:=h
theorem c4w (h:p:=by
 have hE:=c5Y (l:=l) J
 refine zf1 ?_
 all_goals (first | (rw [hE];rfl) | (rw [hJ];done))
):p:=h
theorem c4x (h:p:=by
 first | (exfalso;omega) | exact absurd j5 (hne _ (i6.mpr ⟨k,by omega,Z⟩))
):p:=h
theorem c0N (h:p:=by
 (show x2.1.toNat - (z.1+1) < x2.1.toNat - z.1;omega)
):p:=h
theorem c4y (h:p:=by
 all_goals (first | rfl | (exact (hbn h1).symm) | (rw [hbn h1];done) | (simp_all;done) | simp)
):p:=h
theorem c4z (h:p:=by
 refine zf1 ?_
 all_goals (first | rfl | (simp_all [fdP];done) | (simp_all [fdP];rfl))
):p:=h
theorem c4A (h:p:=by
 refine zf1 ?_
 all_goals (first | rfl | (simp_all [R2];done) | (simp_all [R2];rfl))
):p:=h
theorem b0L (h:p:=by
 try rw [b3i J] at hO
 exact ws1
):p:=h
theorem c0O (h:p:=by
 obtain ⟨m1,ir,ok⟩:=sr
 dsimp only at cS hE hir hsm hiq
 refine zgo ?_
 refine a7 Z (a17 (n:=31) G Z Z Z Tryz.func85 Z Y Z Z Z Z ?_)
 intro b hen hpin
 refine zgo ?_
 refine a7 Z (B1 14 Z Z Z Z Z Z Z (a7 Z (B1 15 Z Z Z Z Z Z Z (a7 Z (d6 G 16 Z Z Z Z Z ?_)))))
 refine zgo ?_
 refine a7 Z (d3 20 Z Z Z (ArgsOK.of Z) cS Z Z ?_)
 refine zgo ?_
 refine a7 Z (d6 G 21 Z Z Z Z Z ?_)
 refine zcd (λk0=>?_) (λk0=>?_)
 ·refine zgo ?_
  refine d8 ⟨.inr Z,_,Z,Z,?_⟩
  have hE2:E7 m s=(m,qmB):=hE.trans (if_neg (by simp [k0]))
  have hO:=O5 h1 h2 h3 hE2
  refine zgo ?_
  refine d8 ⟨.inr Z,_,Z,Z,?_⟩
  refine b4 ⟨Z,?_⟩
  refine zsa 8 ?_
  refine zsa 9 ?_
  refine b6 (rs:=[10]) Y Z (AllB.cons ?_ AllB.nil)
  refine f8 [0,1,2,3,4,5,6,7,9,10] Z Z ?_
  refine zgo ?_
  refine ⟨Z,?_⟩
  refine zsa 11 ?_
  refine E5 Y ?_
  refine znk ?_
  refine d8 ⟨.inr Z,_,Z,Z,?_⟩
  refine zgo ?_
  refine a7 Z (d6 G 22 Z Z Z Z Z ?_)
  refine zgo ?_
  refine a7 Z (d3 26 Z Z Z (ArgsOK.of Z) (w6 _ x (by first | assumption | exact hsm (by assumption)) hx) Z Z ?_)
  refine zgo ?_
  refine a7 Z (b5 Z Z (q9 G Z Z Z) ?_)
  refine zcd (λk1=>?_) (λk1=>?_)
  ·exact b0L
  try rw [a2r J] at hO
  have hrs:=k1
  exact ws1
 refine zgo ?_
 refine a7 Z (d6 G 22 Z Z Z Z Z ?_)
 refine zwf ?_
 refine zgo ?_
 refine d8 ⟨.inr Z,_,Z,Z,?_⟩
 have hE2:E7 m s=(m1,if ir=-1 then okB else u3 ir):=hE.trans (if_pos k0)
 first | rw [if_neg ((hiq k0).mpr J)] at hE2 | rw [if_pos (Decidable.byContradiction λg=>absurd ((hiq k0).mp g) J)] at hE2
 have hO:=O5 h1 h2 h3 hE2
 refine zgo ?_
 refine d8 ⟨.inr Z,_,Z,Z,?_⟩
 refine b4 ⟨Z,?_⟩
 refine zsa 8 ?_
 refine zsa 9 ?_
 refine b6 (rs:=[10]) Y Z (AllB.cons ?_ AllB.nil)
 refine f8 [0,1,2,3,4,5,6,7,9,10] Z Z ?_
 refine zgo ?_
 refine ⟨Z,?_⟩
 refine zsa 11 ?_
 refine E5 Y ?_
 refine znk ?_
 refine d8 ⟨.inr Z,_,Z,Z,?_⟩
 refine zgo ?_
 refine a7 Z (d6 G 23 Z Z Z Z Z ?_)
 refine zgo ?_
 refine a7 Z (d3 27 Z Z Z (ArgsOK.of Z) (w6 _ x (by first | assumption | exact hsm (by assumption)) hx) Z Z ?_)
 refine zgo ?_
 refine a7 Z (b5 Z Z (q9 G Z Z Z) ?_)
 refine zcd (λk2=>?_) (λk2=>?_)
 ·exact b0L
 try rw [a2r J] at hO
 have hrs:=k2
 refine zgo ?_
 refine a7 Z (b5 Z Z (i7 Z (ArgsOK.of Z) (t8 x ⟨s,_⟩ hx ⟨by show s.size<=_;omega,by first | exact P7 (by decide) | exact N5 J | exact N5 (Int.ofNat_le.1 hrs)⟩) Z) ?_)
 refine zgo ?_
 refine d8 (p4 Z Z Z Z (b3 (c7 Z ?_) (b3 (c7 Z ?_) (b3 (c7 Z ?_) (b3 (A1 Z ?_) (b3 (j4 ?_) (b3 (j4 ?_) (b3 (j4 ?_) (b3 (j4 ?_) d9)))))))))
 all_goals (first | (rw [hO];done) | (rw [hO];rfl))
):p:=h
theorem c0P (h:p:=by
 refine zgo ?_
 refine a7 Z (b5 Z Z (i7 Z (ArgsOK.of Z) (a0W x ⟨s,_⟩ hx ⟨by show s.size<=_;omega,by first | exact P7 (by decide) | exact N5 J | exact N5 (Int.ofNat_le.1 hrs)⟩) Z) ?_)
 exact b2l
):p:=h
theorem b2m (h:p:=by
 refine zgo ?_
 refine a7 Z (b5 Z Z (q9 G Z Z Z) ?_)
 refine zcd (λk0=>?_) (λk0=>?_)
 ·try rw [b3i J] at hO
  exact c0P
 try rw [a2r J] at hO
 have hrs:=k0
 exact c0P
):p:=h
theorem c4B (h:p:=by
 refine b6 (rs:=[6]) Y Z (AllB.cons ?_ AllB.nil)
 refine f7 [1,2,3,4,5,8,9] Z Z (I3 (Gh.forget (id:=7) (k:=4) Z Z)<|I3 (Gh.keep [1,2,3,4,5,6,7,8,9,11] Z)<|a1n (tx:=35) 13 rfl rfl rfl rfl rfl<|G2 G (by exact Nat.le_of_ble_eq_true Z) rfl rfl rfl rfl rfl rfl rfl rfl rfl rfl (by first | (simp only [List.length_map,List.length_cons,List.length_nil];omega) | (simp;omega)) rfl rfl (b4 ⟨Z,?_⟩))
 refine d7 7 Z Y Y Z Z Z Z (d5 G Z Z Z Z) ?_
 refine b6 (rs:=[8]) Y Z (AllB.cons ?_ AllB.nil)
 refine f7 [1,2,3,4,5,8,9] Z Z (e9 G Z Z Z Z Z Z Z Z Z Z Z (b4 ⟨Z,?_⟩))
 exact a5Q
):p:=h
theorem c4C (h:p:=by
 first | refine f7 [] Z Z (b5 Z Z (c8 G Z Z Z Z Z J a8X) (b4 ⟨Z,?_⟩)) | refine f7 [] Z Z (b5 Z Z (c8 G Z Z Z Z Z J a8W) (b4 ⟨Z,?_⟩)) | refine f7 [] Z Z (b5 Z Z (c8 G Z Z Z Z Z J a8V) (b4 ⟨Z,?_⟩))
 refine b6 (rs:=[9,13]) a8 Z (AllB.cons ?_ (AllB.cons ?_ AllB.nil))
 ·first | refine f7 [] Z Z (b5 Z Z (f6 G Z Z Z Z (a0B J) Z) (b4 ⟨Z,?_⟩)) | refine f7 [] Z Z (b5 Z Z (f6 G Z Z Z Z (a05 J J) Z) (b4 ⟨Z,?_⟩)) | refine f7 [] Z Z (b5 Z Z (f6 G Z Z Z Z (a11 J J) Z) (b4 ⟨Z,?_⟩))
  refine b6 (rs:=[13]) a8 Z (AllB.cons ?_ AllB.nil)
  exact ws2
 first | refine f7 [] Z Z (b5 Z Z (f6 G Z Z Z Z (a0B J) Z) (b4 ⟨Z,?_⟩)) | refine f7 [] Z Z (b5 Z Z (f6 G Z Z Z Z (a05 J J) Z) (b4 ⟨Z,?_⟩)) | refine f7 [] Z Z (b5 Z Z (f6 G Z Z Z Z (a11 J J) Z) (b4 ⟨Z,?_⟩))
 refine b6 (rs:=[9]) a8 Z (AllB.cons ?_ AllB.nil)
 exact ws2
):p:=h
theorem c4D (h:p:=by
 refine b6 (rs:=[5]) Y Z (AllB.cons ?_ AllB.nil)
 refine f7 [1,2,3,4,7] Z Z (I3 (Gh.forget (id:=6) (k:=3) Z Z)<|I3 (Gh.keep [1,2,3,4,5,6,7,11] Z)<|a1n (tx:=28) 13 rfl rfl rfl rfl rfl<|G2 G (by exact Nat.le_of_ble_eq_true Z) rfl rfl rfl rfl rfl rfl rfl rfl rfl rfl (by first | (simp only [List.length_map,List.length_cons,List.length_nil];omega) | (simp;omega)) rfl rfl (b4 ⟨Z,?_⟩))
 refine d7 6 Z Y Y Z Z Z Z (d5 G Z Z Z Z) ?_
 refine b6 (rs:=[7]) Y Z (AllB.cons ?_ AllB.nil)
 refine f7 [1,2,3,4,7] Z Z (e9 G Z Z Z Z Z Z Z Z Z Z Z (b4 ⟨Z,?_⟩))
 exact a5Q
):p:=h
theorem b4Q (h:p:=by
 refine R9 ?_
 exact a5Q
):p:=h
theorem c4E (h:p:=by
 refine b6 (rs:=[10]) a8 Z (AllB.cons ?_ AllB.nil)
 refine f7 [0,1,2,3,4,10] Z Z (I3 (Gh.forget (id:=7) (k:=4) Z Z)<|I3 (Gh.keep [0,1,2,3,4,6,7,10,12] Z)<|a1n (tx:=58) 14 rfl rfl rfl rfl rfl<|G2 G X9 rfl rfl rfl rfl rfl rfl rfl rfl rfl rfl J9 rfl rfl (b4 ⟨Z,?_⟩))
 refine zsa 11 ?_
 refine b6 (rs:=[12]) a8 Z (AllB.cons ?_ AllB.nil)
 refine f8 [0,1,2,3,4,10] Z Z ?_
 exact b4Q
):p:=h
theorem c4F (h:p:=by
 refine b6 (rs:=[5]) a8 Z (AllB.cons ?_ AllB.nil)
 refine f7 [1,2,3,4,7] Z Z (I3 (Gh.forget (id:=6) (k:=3) Z Z)<|I3 (Gh.keep [1,2,3,4,5,6,7,11] Z)<|a1n (tx:=28) 13 rfl rfl rfl rfl rfl<|G2 G X9 rfl rfl rfl rfl rfl rfl rfl rfl rfl rfl J9 rfl rfl (b4 ⟨Z,?_⟩))
 refine zsa 6 ?_
 refine b6 (rs:=[7]) a8 Z (AllB.cons ?_ AllB.nil)
 refine f8 [1,2,3,4,7] Z Z ?_
 exact b4Q
):p:=h
theorem c4G (h:p:=by
 refine zgo ?_
 refine g9 [2,4,40,41] [0] (λ(i:Nat)=>[(8,.v (.int .i64 (O4 rs a c (b2N rs a c) i).2)),(9,.v (.int .i64 (O4 rs a c (b2N rs a c) i).1)),(42,.v (.int .i64 (i:Int)))]) (λ(i:Nat)=>[]) (λ(i:Nat)=>i<=rs.length) (λ(i:Nat)=>rs.length - i) 0 Z Z ?_ ?_ ?_ ?_
 ·exact R3
 ·exact ⟨⟨_,Z,by first | rfl | (simp only [O4];rw [b5l J];done) | (simp only [O4];rw [b5k J];done)⟩,Z,⟨⟨_,Z,by first | rfl | (simp only [O4];rw [b5l J];done) | (simp only [O4];rw [b5k J];done)⟩,Z,⟨⟨_,Z,by first | rfl | (simp only [O4];rw [b5l J];done) | (simp only [O4];rw [b5k J];done)⟩,Z,trivial⟩⟩⟩
 ·exact trivial
 intro i hinv
 refine vm2 ?_
 refine zcd (λk0=>?_) (λk0=>?_)
 ·refine b4L ?_
  refine zcd (λk1=>?_) (λk1=>?_)
  ·refine zcd (λk2=>?_) (λk2=>?_)
   ·refine zcd (λk3=>?_) (λk3=>?_)
    ·refine zgd ?_
     exact ws8
    exact ws8
   refine zwf ?_
   exact ws8
  refine zwf ?_
  exact ws8
 refine zf1 ?_
 all_goals exact c3A
):p:=h
theorem c4H (h:p:=by
 refine vm3 ?_
 refine d3 9 Z Z Z (ArgsOK.of Z) (a6p z.2.2 hz2.f) Z Z ?_
 refine zgn ?_
 refine a3K ?_
 refine s6 (Gh.sub 6 2 A3 Z Z Z) (s6 (Gh.sub 7 3 A3 Z Z Z) (s6 (Gh.sub 8 4 A3 Z Z Z) (b4 ⟨(z.1+1,x2.2,(tkX z.2.2).1),?_,?_,⟨⟨_,Z,by (first | rfl | exact congrArg (λv=>AV.v (.int .i64 v)) E4)⟩,Z,trivial⟩,⟨⟨_,Z,by rfl⟩,Z,Z,⟨⟨_,Z,by rfl⟩,Z,Z,⟨⟨_,Z,by rfl⟩,Z,Z,⟨⟨_,Z,by rfl⟩,Z,Z,⟨⟨_,Z,by rfl⟩,Z,Z,trivial⟩⟩⟩⟩⟩,Z,Z,Z⟩)))
 ·exact c7e
 exact Y3
):p:=h
theorem c4I (h:p:=by
 refine b6 (rs:=[8]) a8 Z (AllB.cons ?_ AllB.nil)
 refine f8 [1,2,5,6] Z Z (d3 8 Z Z Z (ArgsOK.of (by rw [c7Y];rfl)) (a18 (x.wa.drop 1) _ (by rw [List.length_drop];omega)) Z Z (b4 ⟨Z,?_⟩))
 refine zsa 9 ?_
 refine b6 (rs:=[10]) a8 Z (AllB.cons ?_ AllB.nil)
 refine f8 [1,2,5,6] Z Z ?_
 exact b4Q
):p:=h
theorem c4J (h:p:=by
 refine d7 6 Z a8 a8 Z Z Z Z (B5 Z Z Z b68) ?_
 refine zsa 7 ?_
 refine b6 (rs:=[8]) a8 Z (AllB.cons ?_ AllB.nil)
 refine f8 [1,2] Z Z ?_
 exact b4Q
):p:=h
theorem c4K (h:p:=by
 refine b6 (rs:=[9]) a8 Z (AllB.cons ?_ AllB.nil)
 refine f7 [0,1,2,3,4,6,8] Z Z (I3 (Gh.forget (id:=7) (k:=3) Z Z)<|I3 (Gh.keep [0,1,2,3,4,5,6,7,8,9] Z)<|a1n (tx:=47) 11 rfl rfl rfl rfl rfl<|j8 G X9 rfl rfl rfl rfl rfl rfl rfl rfl rfl J9 rfl rfl (b4 ⟨Z,?_⟩))
 refine zsa 10 ?_
 refine b6 (rs:=[11]) a8 Z (AllB.cons ?_ AllB.nil)
 refine f8 [0,1,2,3,4,6,8] Z Z ?_
 exact b4Q
):p:=h
theorem c0Q (h:p:=by
 refine zgo ?_
 apply C6 [4] [0] 2 13 [] mixed a8 Z Z (λ_ h=>znk h)
 ·exact ws4
 refine zfo ?_
 all_goals exact c3B
):p:=h
theorem b4R (h:p:=by
 refine zcd (λk0=>?_) (λk0=>?_)
 ·refine zcd (λk1=>?_) (λk1=>?_)
  ·exact a34
  exact a34
 exact a34
):p:=h
theorem c4L (h:p:=by
 refine zgo ?_
 refine ⟨(z.1+1,x9.2,z.2.2),?_,?_,⟨⟨_,Z,by (first | rfl | exact congrArg (λv=>AV.v (.int .i64 v)) E4)⟩,Z,trivial⟩,⟨⟨_,Z,by rfl⟩,Z,Z,⟨⟨_,Z,by rfl⟩,Z,Z,⟨⟨_,Z,by rfl⟩,Z,Z,⟨⟨_,Z,by rfl⟩,Z,Z,trivial⟩⟩⟩⟩,Z,Z,Z⟩
 ·exact c7d
 exact Y3
):p:=h
theorem c0R (h:p:=by
 refine zgo ?_
 refine a7 Z (d3 6 Z Z Z (ArgsOK.of Z) (Ctr.shpTo (a19 m x hs hx) (.cons .s (.cons .s (.cons .s (.cons (.n flM) (.cons .s (.cons .s (.cons .s .nil)))))))) Z Z ?_)
 exact b2l
):p:=h
theorem c4M (h:p:=by
 refine zcl (E8 _) ?_
 refine p6 ?_
 refine o8 G 5 Z Z Z Z Z Z Z Z ?_
 refine p6 ?_
 refine vm6 ?_
 exact c9t
):p:=h
theorem b4S (h:p:=by
 have hn:=a0M (k:=m9 w) J
 rw [hl] at hn
 refine zgo ?_
 exact c2B
):p:=h
theorem c0S (h:p:=by
 refine a6o ?_
 exact b78
):p:=h
theorem b2n (h:p:=by
 refine zgn ?_
 refine a0Y Z ?_
 exact c9i
):p:=h
theorem c4N (h:p:=by
 refine b6 (rs:=[8]) a8 Z (AllB.cons ?_ AllB.nil)
 refine b3r ?_
 refine b6 (rs:=[9]) a8 Z (AllB.cons ?_ AllB.nil)
 exact c9E
):p:=h
theorem c4O (h:p:=by
 refine zgo ?_
 refine W8 ?_
 refine b73 ?_
 refine zcd (λk0=>?_) (λk0=>?_)
 ·exact c2D
 refine zgo ?_
 refine ⟨(i+1),?_,?_,⟨⟨_,Z,by rfl⟩,Z,trivial⟩,trivial,Z,Z,Z⟩
 ·refine ⟨by omega,s2 hinv.2 ?_⟩;(simp only [a4p,Bool.and_eq_true,decide_eq_true_eq,Bool.not_eq_true',beq_eq_false_iff_ne,ne_eq] at *;omega)
 omega
):p:=h
theorem c4P (h:p:=by
 refine c89 ?_
 exact c32
):p:=h
theorem c4Q (h:p:=by
 refine zcd (λk0=>?_) (λk0=>?_)
 ·refine zcl (F6 sl _ hl) ?_
  refine zcd (λk1=>?_) (λk1=>?_)
  ·exact b8a
  exact c9p
 refine zwf ?_
 exact c9p
):p:=h
theorem a5S (h:p:=by
 refine zwt ?_
 exact c0C
):p:=h
theorem c4R (h:p:=by
 refine zcd (λk0=>?_) (λk0=>?_)
 ·refine zcl (J0 m s.c hn) ?_
  refine zcd (λk1=>?_) (λk1=>?_)
  ·exact a34
  exact a34
 exact a34
):p:=h
theorem c4S (h:p:=by
 refine zcd (λk0=>?_) (λk0=>?_)
 ·refine zcd (λk1=>?_) (λk1=>?_)
  ·refine b3s ?_
   exact a34
  exact a34
 exact a34
):p:=h
theorem c4T (h:p:=by
 refine vm3 ?_
 refine d3 2 Z Z Z (ArgsOK.of Z) (a0N sl _ ⟨_,_,_⟩ J J) Z Z ?_
 exact c9s
):p:=h
theorem c4U (h:p:=by
 refine c2r ?_
 exact c9s
):p:=h
theorem c4V (h:p:=by
 refine vm3 ?_
 refine d3 2 Z Z Z (ArgsOK.of Z) (a0N sl _ ⟨_,_,_⟩ J J) Z Z ?_
 exact c7f
):p:=h
theorem c4W (h:p:=by
 refine c2r ?_
 exact c7g
):p:=h
theorem c4X (h:p:=by
 refine vm3 ?_
 refine d3 8 Z Z Z (ArgsOK.of Z) (a1B _ hQ) Z Z ?_
 refine zgo ?_
 exact c7l
):p:=h
theorem c4Y (h:p:=by
 refine Ctr.of (n:=12) G Tryz.func170 Z a8 Z Z Z (λw0=>?_)
 exact c9d
):p:=h
theorem b7g (h:p:=by
 refine zcl (I2 _ _ _) ?_
 exact c0H
):p:=h
theorem c4Z (h:p:=by
 refine Ctr.of (n:=19) G Tryz.func251 Z a8 Z Z Z (λw0=>?_)
 exact ws6
):p:=h
theorem c40 (h:p:=by
 refine Ctr.of (n:=19) G Tryz.func196 Z a8 Z Z Z (λw0=>?_)
 exact ws6
):p:=h
theorem c41 (h:p:=by
 refine b1c ?_
 exact c7m
):p:=h
theorem b2o (h:p:=by
 refine zgo ?_
 exact c9n
):p:=h
theorem c42 (h:p:=by
 refine vm1 ?_
 exact a8Y
):p:=h
theorem c43 (h:p:=by
 refine vm3 ?_
 refine d6 G 12 Z Z Z Z Z ?_
 exact c9e
):p:=h
theorem c44 (h:p:=by
 have hO:=b2b (s:=⟨sk,sq,sc,sv⟩) (.inl h1)
 refine zwt ?_
 exact b8c
):p:=h
theorem b4T (h:p:=by
 refine zgo ?_
 refine a7 Z (b5 Z Z (q9 G Z Z Z) ?_)
 refine zcd (λk0=>?_) (λk0=>?_)
 ·try rw [b3i J] at hO
  exact ws1
 try rw [a2r J] at hO
 have hrs:=k0
 exact ws1
):p:=h
theorem c45 (h:p:=by
 obtain ⟨m1,ir,ok⟩:=sr
 dsimp only at cS hE hir hsm hiq
 refine zgo ?_
 refine a7 Z (a17 (n:=31) G Z Z Z Tryz.func85 Z Y Z Z Z Z ?_)
 intro b hen hpin
 refine zgo ?_
 refine a7 Z (B1 14 Z Z Z Z Z Z Z (a7 Z (B1 15 Z Z Z Z Z Z Z (a7 Z (d6 G 16 Z Z Z Z Z ?_)))))
 refine zgo ?_
 refine a7 Z (d3 20 Z Z Z (ArgsOK.of Z) cS Z Z ?_)
 refine zgo ?_
 refine a7 Z (d6 G 21 Z Z Z Z Z ?_)
 refine zcd (λh301=>?_) (λh301=>?_)
 ·refine zgo ?_
  refine d8 ⟨.inr Z,_,Z,Z,?_⟩
  have hE2:E7 m s=(m,qmB):=hE.trans (if_neg (by simp [h301]))
  have hO:=O5 h1 h2 h3 hE2
  refine zgo ?_
  refine d8 ⟨.inr Z,_,Z,Z,?_⟩
  refine b4 ⟨Z,?_⟩
  refine zsa 8 ?_
  refine zsa 9 ?_
  refine b6 (rs:=[10]) Y Z (AllB.cons ?_ AllB.nil)
  refine f8 [0,1,2,3,4,5,6,7,9,10] Z Z ?_
  refine zgo ?_
  refine ⟨Z,?_⟩
  refine zsa 11 ?_
  refine E5 Y ?_
  refine znk ?_
  refine d8 ⟨.inr Z,_,Z,Z,?_⟩
  refine zgo ?_
  refine a7 Z (d6 G 22 Z Z Z Z Z ?_)
  refine zgo ?_
  refine a7 Z (d3 26 Z Z Z (ArgsOK.of Z) (w6 _ x (by first | assumption | exact hsm (by assumption)) hx) Z Z ?_)
  exact b4T
 refine zgo ?_
 refine a7 Z (d6 G 22 Z Z Z Z Z ?_)
 refine zwt ?_
 refine s5 (l1 5 [0,1,2,3,4,5,6,7,8,9,10,11,12,13,14,16,17,18,19,20,21] mixed Y Z Z (λr0=>?_) (λ_ h=>h))
 refine zsa 0 ?_
 refine zsa 1 ?_
 refine b6 (rs:=[2]) Y Z (AllB.cons ?_ AllB.nil)
 refine f8 [0,1,2,3,4,5,6,7,8,9,10,11,12,13,14,16,17,18,19,20,21] Z Z (b5 Z Z (i7 Z (ArgsOK.of Z) (y8 ir J J) Z) (b4 ⟨Z,?_⟩))
 refine b6 (rs:=[3]) Y Z (AllB.cons ?_ AllB.nil)
 refine f8 [0,1,2,3,4,5,6,7,8,9,10,11,12,13,14,16,17,18,19,20,21] Z Z ?_
 refine zgo ?_
 refine ⟨Z,?_⟩
 refine zsa 4 ?_
 refine E5 Y ?_
 refine znk ?_
 refine d8 ⟨.inr Z,_,Z,Z,?_⟩
 have hE2:E7 m s=(m1,if ir=-1 then okB else u3 ir):=hE.trans (if_pos h301)
 first | rw [if_neg ((hiq h301).mpr J)] at hE2 | rw [if_pos (Decidable.byContradiction λg=>absurd ((hiq h301).mp g) J)] at hE2
 have hO:=O5 h1 h2 h3 hE2
 refine zgo ?_
 refine d8 ⟨.inr Z,_,Z,Z,?_⟩
 refine b4 ⟨Z,?_⟩
 refine zsa 8 ?_
 refine zsa 9 ?_
 refine b6 (rs:=[10]) Y Z (AllB.cons ?_ AllB.nil)
 refine f8 [0,1,2,3,4,5,6,7,9,10] Z Z ?_
 refine zgo ?_
 refine ⟨Z,?_⟩
 refine zsa 11 ?_
 refine E5 Y ?_
 refine znk ?_
 refine d8 ⟨.inr Z,_,Z,Z,?_⟩
 refine zgo ?_
 refine a7 Z (d6 G 23 Z Z Z Z Z ?_)
 refine zgo ?_
 refine a7 Z (d3 27 Z Z Z (ArgsOK.of Z) (w6 _ x (by first | assumption | exact hsm (by assumption)) hx) Z Z ?_)
 refine zgo ?_
 refine a7 Z (b5 Z Z (q9 G Z Z Z) ?_)
 refine zcd (λk0=>?_) (λk0=>?_)
 ·exact b0L
 try rw [a2r J] at hO
 have hrs:=k0
 refine zgo ?_
 refine a7 Z (b5 Z Z (i7 Z (ArgsOK.of Z) (t8 x ⟨s,_⟩ hx ⟨by show s.size<=_;omega,by first | exact P7 (by decide) | exact N5 J | exact N5 (Int.ofNat_le.1 hrs)⟩) Z) ?_)
 refine zgo ?_
 refine d8 (p4 Z Z Z Z (b3 (c7 Z ?_) (b3 (c7 Z ?_) (b3 (c7 Z ?_) (b3 (A1 Z ?_) (b3 (j4 ?_) (b3 (j4 ?_) (b3 (j4 ?_) (b3 (j4 ?_) d9)))))))))
 all_goals (first | (rw [hO];done) | (rw [hO];rfl))
):p:=h
theorem b7h (h:p:=by
 refine d8 ⟨.inr Z,_,Z,Z,?_⟩
 refine zgo ?_
 refine a7 Z (d6 G 14 Z Z Z Z Z ?_)
 refine zgo ?_
 refine a7 Z (d3 18 Z Z Z (ArgsOK.of Z) (w6 _ x (by first | assumption | exact hsm (by assumption)) hx) Z Z ?_)
 exact b4T
):p:=h
theorem c47 (h:p:=by
 refine f8 [1,2] Z Z ?_
 refine R9 ?_
 refine b6 (rs:=[5]) a8 Z (AllB.cons ?_ AllB.nil)
 refine f8 [1,2] Z Z (b5 Z Z (i7 Z (ArgsOK.of Z) (a1C _ _ a1A a1A j5) Z) (b4 ⟨Z,?_⟩))
 exact c4J
):p:=h
theorem c48 (h:p:=by
 refine b6 (rs:=[4]) Y Z (AllB.cons ?_ AllB.nil)
 refine f7 [1,2,3,4,7] Z Z (A9 G 12 Z Z Z Z Z Z Z Z (.v Z (.own Z (.own Z (.own Z .nil)))) Z Z Z Z (b4 ⟨Z,?_⟩))
 exact c4D
):p:=h
theorem c49 (h:p:=by
 refine b6 (rs:=[4]) a8 Z (AllB.cons ?_ AllB.nil)
 refine f8 [1,2,3,4,7] Z Z (A9 G 12 Z Z Z Z Z Z Z Z (.v Z (.own Z (.own Z (.own Z .nil)))) Z Z Z Z (b4 ⟨Z,?_⟩))
 exact c4F
):p:=h
theorem c5a (h:p:=by
 refine zgo ?_
 refine a7 Z (d6 G 12 Z Z Z Z Z ?_)
 refine zgo ?_
 refine a7 Z (d3 16 Z Z Z (ArgsOK.of Z) (w6 _ x (by first | assumption | exact hsm (by assumption)) hx) Z Z ?_)
 exact b4T
):p:=h
theorem c5b (h:p:=by
 refine b6 (rs:=[5]) Y Z (AllB.cons ?_ AllB.nil)
 refine f7 [1,2,3,4,5,8,9] Z Z (A9 G 12 Z Z Z Z Z Z Z Z (.own Z .nil) Z Z Z Z (b4 ⟨Z,?_⟩))
 exact c4B
):p:=h
theorem c5c (h:p:=by
 refine b6 (rs:=[9]) a8 Z (AllB.cons ?_ AllB.nil)
 refine f8 [0,1,2,3,4,10] Z Z (A9 G 13 Z Z Z Z Z Z Z Z (.own Z .nil) Z Z Z Z (b4 ⟨Z,?_⟩))
 exact c4E
):p:=h
theorem c5d (h:p:=by
 refine b6 (rs:=[7]) a8 Z (AllB.cons ?_ AllB.nil)
 refine f8 [1,2,5,6] Z Z (b5 Z Z (i7 Z (ArgsOK.of Z) (E8 _) Z) (b4 ⟨Z,?_⟩))
 exact c4I
):p:=h
theorem c0T (h:p:=by
 refine zgn ?_
 refine N1 Z ?_
 exact c0S
):p:=h
end Go.Rf
